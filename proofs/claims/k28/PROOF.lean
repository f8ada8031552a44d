import PyProof.Rows.All
import Wide.All
import OpenK.AllK
import Wide.FinOn
import HandS.ForMost
import HandS.Flow
import HandS.Deep
import HandS.TupAny
import HandS.Codes
import HandS.IsInst
import HandS.Style
import HandS.Wide
import HandS.Zip
import HandS.Rev
import HandS.Lambda
import HandS.Exc
import HandS.TupLe
import KE.DataMinMax
import KE.SortData
import HandS.Conv
import HandS.Ends
import HandS.RaiseMore
import KE.DataFind
import HandS.Flt
import HandS.ExcIs
import HandS.ExcValue
import HandS.WordsExc
import HandS.Dict
import KE.KDictDisplayH
import HandS.ReplaceLit
import KE.GoesMore
import KE.GoesEnum
import HandS.Set
import HandS.SetBool
import PyProof.MeetsSeq2
import HandS.Text
import KE.SortKeyHeap
import KE.KDictSum
import KE.KDictCopyH
import HandS.SetKeys
import HandS.EndTab
import HandS.Strs
import HandS.NoneIn
import HandS.DictComp
import PyProof.DictWalks
import PySem.Challenge.RW_changeride_k28_papers_judged
set_option Elab.async false
set_option linter.all false
set_option maxRecDepth 100000

set_option maxHeartbeats 4000000
namespace Fu
open PySem PySem.Spec PyProof.Rows L2

/-! ### the frame: what may be forgotten for the time of a call -/
def Loose : HO → Prop
  | .lst _ => True
  | .dK _ => True
  | .dT _ => True
  | .set _ _ => True
  | _ => False
def lpins (H G : Hp) (h : Heap) : List (Addr × Obj) :=
  (List.range h.objs.size).filterMap fun a => if (H a).isSome = true ∧ (G a).isNone = true then (h.get? a).map fun o => (a, o) else none
theorem mem_lpins {H G : Hp} {h : Heap} {a : Addr} {o : Obj} {u : HO} (h1 : H a = some u) (h2 : G a = none) (h3 : h.get? a = some o) : (a, o) ∈ lpins H G h :=
  List.mem_filterMap.mpr ⟨a, List.mem_range.mpr (Heap.lt_size h3), by simp [h1, h2, h3]⟩
theorem of_lpins {H G : Hp} {h : Heap} {p : Addr × Obj} (hp : p ∈ lpins H G h) : (∃ u, H p.1 = some u) ∧ G p.1 = none ∧ h.get? p.1 = some p.2 := by
  obtain ⟨b, _, e⟩ := List.mem_filterMap.mp hp
  split at e
  · rename_i hc
    cases q : h.get? b with
    | none => rw [q] at e; cases e
    | some u =>
      rw [q] at e
      have e' : (b, u) = p := Option.some.inj e
      subst e'
      exact ⟨Option.isSome_iff_exists.mp hc.1, Option.isNone_iff_eq_none.mp hc.2, q⟩
  · cases e
/-- G within H: what is over may be forgotten -/
structure Sub (G H : Hp) : Prop where
  same : Same G H
  loose : ∀ a o, H a = some o → G a = none → Loose o
theorem Sub.none {G H : Hp} (S : Sub G H) {b : Addr} (e : H b = none) : G b = none := S.same.free e
theorem Sub.keep {G H : Hp} (S : Sub G H) {b : Addr} {o : HO} (e : H b = some o) (n : ¬ Loose o) : G b = some o := by
  cases q : G b with
  | none => exact absurd (S.loose b o e q) n
  | some u => rw [S.same b u q] at e; exact e
theorem Sub.refl (H : Hp) : Sub H H := ⟨Same.refl H, fun a o e n => by rw [e] at n; cases n⟩
def mixH (G H G' : Hp) : Hp := fun a => match G a, H a with
  | none, some o => some o
  | _, _ => G' a
theorem mix_lost {G H G' : Hp} {a : Addr} {o : HO} (h1 : G a = none) (h2 : H a = some o) : mixH G H G' a = some o := by unfold mixH; rw [h1, h2]
theorem mix_held {G H G' : Hp} {a : Addr} {o : HO} (h1 : G a = some o) : mixH G H G' a = G' a := by unfold mixH; rw [h1]
theorem mix_free {G H G' : Hp} {a : Addr} (h2 : H a = none) : mixH G H G' a = G' a := by unfold mixH; rw [h2]; cases G a <;> rfl

section
variable {X : Cx} {pins : List (Addr × Obj)} {σ : L2.St} {H G G' : Hp} {s s' : Shared}
theorem fs_none (I : Inv X pins σ H s) {b : Addr} (hb : b ∈ X.fs) : H b = none := by
  obtain ⟨_, o, ho, _⟩ := I.ok.funs.mem hb
  exact I.base.free b o ho (I.ok.frf b hb) fun z => I.ok.exfs b z hb
theorem loose_cell {P : Program} {w : World} {h : Heap} {a : Addr} {u : HO} {o : Obj} (x : ObjOk P w H h a u) (l : Loose u) (e : h.get? a = some o) : ∀ v, o.data ≠ .cell v := by
  intro v z
  cases u with
  | lst xs => obtain ⟨_, its, n, _, e1⟩ := x; rw [e] at e1; cases e1; cases z
  | dK kvs => obtain ⟨_, _, vs, _, ob, es, ep, e1, _, d, _⟩ := x; rw [e] at e1; cases e1; rw [d] at z; cases z
  | dT kvs => obtain ⟨_, _, vs, _, ob, es, ep, e1, _, d, _⟩ := x; rw [e] at e1; cases e1; rw [d] at z; cases z
  | set S n => obtain ⟨ob, es, ep, t, e1, _, d, _⟩ := x; rw [e] at e1; cases e1; rw [d] at z; cases z
  | _ => exact l
theorem loose_there {P : Program} {w : World} {h : Heap} {a : Addr} {u : HO} (x : ObjOk P w H h a u) (l : Loose u) : ∃ o, h.get? a = some o := by
  cases u with
  | lst xs => obtain ⟨_, its, n, _, e1⟩ := x; exact ⟨_, e1⟩
  | dK kvs => obtain ⟨_, _, vs, _, ob, es, ep, e1, _⟩ := x; exact ⟨_, e1⟩
  | dT kvs => obtain ⟨_, _, vs, _, ob, es, ep, e1, _⟩ := x; exact ⟨_, e1⟩
  | set S n => obtain ⟨ob, es, ep, t, e1, _⟩ := x; exact ⟨_, e1⟩
  | _ => exact l.elim
theorem forget (I : Inv X pins σ H s) (S : Sub G H) : Inv X (pins ++ lpins H G s.heap) σ G s where
  ok := I.ok
  os := I.os
  bare := I.bare
  base := ⟨I.base.keep, I.base.slot, fun b o e n hx => S.none (I.base.free b o e n hx), I.base.there,
    fun b xs q => S.keep (I.base.tups b xs q) (fun z => z), fun b o u q => S.keep (I.base.frzs b o u q) (fun z => z),
    fun b ps q => by obtain ⟨m, e⟩ := I.base.tbls b ps q; exact ⟨m, S.keep e (fun z => z)⟩⟩
  loc := I.loc
  cell := I.cell
  free := S.none I.free
  freeC := fun x c e => S.none (I.freeC x c e)
  pin := fun p hp => by
    rcases List.mem_append.mp hp with hp | hp
    · obtain ⟨e, n, r⟩ := I.pin p (List.mem_append_left _ hp)
      exact ⟨e, S.none n, r⟩
    · rcases List.mem_append.mp hp with hp | hp
      · obtain ⟨e, n, r⟩ := I.pin p (List.mem_append_right _ hp)
        exact ⟨e, S.none n, r⟩
      · obtain ⟨⟨u, hu⟩, hg, he⟩ := of_lpins hp
        refine ⟨he, hg, fun z => ?_, fun z => ?_, loose_cell (I.hok p.1 u hu) (S.loose _ _ hu hg) he⟩
        · rw [z, I.free] at hu; cases hu
        · rw [fs_none I z] at hu; cases hu
  hok := fun a o e => (I.hok a o (S.same a o e)).stay (fun b u _ q => q) (fun b q => S.keep q (fun z => z)) (fun b xs q => S.keep q (fun z => z))
  len := I.len
theorem lost_of {τ : L2.St} (I : Inv X pins σ H s) (S : Sub G H) (J : Inv X (pins ++ lpins H G s.heap) τ G' s') : ∀ b o, H b = some o → G b = none → G' b = none := fun b o hb hg => by
  obtain ⟨ob, hob⟩ : ∃ ob, s.heap.get? b = some ob := loose_there (I.hok b o hb) (S.loose b o hb hg)
  exact (J.pin (b, ob) (List.mem_append_right _ (List.mem_append_right _ (mem_lpins hb hg hob)))).2.1
theorem remember {τ : L2.St} (I : Inv X pins σ H s) (S : Sub G H) (J : Inv X (pins ++ lpins H G s.heap) τ G' s') (ht : ∀ b xs, G b = some (.tup xs) → G' b = some (.tup xs)) :
    Inv X pins τ (mixH G H G') s' := by
  have lost : ∀ b o, H b = some o → G b = none → G' b = none ∧ ∀ ob, s.heap.get? b = some ob → s'.heap.get? b = some ob := fun b o hb hg => by
    obtain ⟨ob, hob⟩ : ∃ ob, s.heap.get? b = some ob := loose_there (I.hok b o hb) (S.loose b o hb hg)
    obtain ⟨e1, e2, _⟩ := J.pin (b, ob) (List.mem_append_right _ (List.mem_append_right _ (mem_lpins hb hg hob)))
    exact ⟨e2, fun ob' h' => by rw [hob] at h'; cases h'; exact e1⟩
  have up : ∀ b o, G' b = some o → mixH G H G' b = some o := fun b o e => by
    cases q : G b with
    | some u => rw [mix_held q]; exact e
    | none =>
      cases r : H b with
      | none => rw [mix_free r]; exact e
      | some u => rw [(lost b u r q).1] at e; cases e
  have nn : ∀ b, G' b = none → H b = none → mixH G H G' b = none := fun b e r => by rw [mix_free r]; exact e
  refine ⟨J.ok, J.os, J.bare, ⟨J.base.keep, J.base.slot, fun b o e n hx => nn b (J.base.free b o e n hx) (I.base.free b o e n hx), J.base.there,
    fun b xs q => up _ _ (J.base.tups b xs q), fun b o u q => up _ _ (J.base.frzs b o u q), fun b ps q => ?_⟩, J.loc, J.cell, nn _ J.free I.free, fun x c e => nn _ (J.freeC x c e) (I.freeC x c e), fun p hp => ?_, fun a o e => ?_, J.len⟩
  · obtain ⟨m, e⟩ := J.base.tbls b ps q
    exact ⟨m, up _ _ e⟩
  · have hp' : p ∈ X.pn ++ (pins ++ lpins H G s.heap) := (List.mem_append.mp hp).elim (fun z => List.mem_append_left _ z) fun z => List.mem_append_right _ (List.mem_append_left _ z)
    obtain ⟨e, n, r⟩ := J.pin p hp'
    exact ⟨e, nn _ n (I.pin p hp).2.1, r⟩
  · cases q : G a with
    | some u =>
      rw [mix_held q] at e
      exact (J.hok a o e).stay (fun b u _ q => q) (fun b q => up _ _ q) (fun b xs q => up _ _ q)
    | none =>
      cases r : H a with
      | none =>
        rw [mix_free r] at e
        exact (J.hok a o e).stay (fun b u _ q => q) (fun b q => up _ _ q) (fun b xs q => up _ _ q)
      | some u =>
        rw [mix_lost q r] at e
        cases e
        have k := (lost a o r q).2
        have x := I.hok a o r
        have l := S.loose a o r q
        cases o with
        | lst xs => obtain ⟨z, its, n, rv, e1⟩ := x; exact ⟨z, its, n, rv, k _ e1⟩
        | dK kvs => obtain ⟨z, y, vs, rv, ob, es, ep, e1, c⟩ := x; exact ⟨z, y, vs, rv, ob, es, ep, k _ e1, c⟩
        | dT kvs =>
          obtain ⟨z, y, xs, rv, ob, es, ep, e1, c⟩ := x
          exact ⟨z, y, xs, Paired.mapP rv fun p q z => ⟨z.1, up _ _ (ht _ _ (S.keep z.2.1 (fun z => z))), z.2.2⟩, ob, es, ep, k _ e1, c⟩
        | set T n => obtain ⟨ob, es, ep, t, e1, c⟩ := x; exact ⟨ob, es, ep, t, k _ e1, c⟩
        | _ => exact l.elim
end

section
variable {X : Cx} {CX : CXT} {k : Nat} {f C : Addr} {fd : FuncData} {ps : List Str} {sp : Sp} {dvs : List V} {ds : List Value} {E : XK} {x m : Str} {p pos apos : Pos} {e o : Expr} {es : List Expr} {ta : TE} {t : TA}
theorem run_fnF {pins : List (Addr × Obj)} {σ : L2.St} {H G : Hp} {s : Shared} {Q : VK} {us : List Value} {vs : List V} (F : FnOk X.prog X.w X.K X.mg X.base CX k f fd ps sp) (hr : Room k X.A) (hb : Binds X.K fd ps ds) (hd : Vals dvs ds) (hx : Passes CX X E)
    (I : Inv X pins σ H s) (r : Vals vs us) (S : Sub G H) (h : sp (vs ++ dvs) G (fun v G' => (∀ b xs, G b = some (.tup xs) → G' b = some (.tup xs)) ∧ ((∀ b o, H b = some o → G b = none → G' b = none) → Q v (mixH G H G'))) E) :
    wpAny (model X.prog X.w) X.A (call (.ref f) us) (EP X pins σ Q) X.xe s := by
  refine thn (run_fn F hr hb hd hx (forget I S) r h) fun u s' ⟨v, G', I', rv, ht, q⟩ => ⟨v, mixH G H G', remember I S I' ht, rv, q (lost_of I S I')⟩
/-- f(..) called over a part of the heap -/
def tCallF (sp : Sp) (dvs : List V) (E : XK) (t : TA) : TE := fun σ H Q => t σ H fun vs H1 => ∃ G, Sub G H1 ∧ sp (vs ++ dvs) G (fun v G' => (∀ b xs, G b = some (.tup xs) → G' b = some (.tup xs)) ∧ ((∀ b o, H1 b = some o → G b = none → G' b = none) → Q v (mixH G H1 G'))) E
theorem pe_callF (F : FnOk X.prog X.w X.K X.mg X.base CX k f fd ps sp) (hr : Room k X.A) (hg : Gl X x) (hm : X.mg x = some (.ref f)) (hk : PySem.W.keepIn X.K (.ref f) = true) (hb : Binds X.K fd ps ds) (hd : Vals dvs ds) (hx : Passes CX X E)
    (ha : PA X (e :: es) t) (hdb : (x == ("__debug__" : Str)) = false := by decide) (he : starEach (e :: es) X.env = (false, eval e X.env) :: starEach es X.env := by rfl) (hpl : (backTo pos (starEach es X.env)).any (·.1) = false := by rfl) :
    PE X (.Call (.Name x p) (e :: es) [] pos) (tCallF sp dvs E t) := by
  refine ⟨fun pins s σ H Q I h => ?_⟩
  refine wpAny_Call_Name_kw (ld_glob I hg hm ?_ hdb)
  refine PySem.W.callWith_K (h₀ := X.base) I.ok.mod.kin hk (thn (ha.run pos pins s σ H _ I h) fun us s1 ⟨vs, H1, I1, r, G, S, q⟩ => ⟨I1.kIn, ?_⟩) he hpl
  exact run_fnF F hr hb hd hx I1 r S q
end

/-! ### any expression, test, target, over a part of the heap -/
def Back (G H : Hp) (Q : Hp → Prop) : Hp → Prop := fun G' => (∀ b xs, G b = some (.tup xs) → G' b = some (.tup xs)) ∧ ((∀ b o, H b = some o → G b = none → G' b = none) → Q (mixH G H G'))
def tFr (t : TE) : TE := fun σ H Q => ∃ G, Sub G H ∧ t σ G fun v => Back G H (Q v)
def tFrT (t : TT) : TT := fun σ H Q => ∃ G, Sub G H ∧ t σ G fun v => Back G H (Q v)
def gFr (t : TG) : TG := fun x σ H Q => ∃ G, Sub G H ∧ t x σ G fun σ' => Back G H (Q σ')
def iFr (t : TI) : TI := fun σ H R => ∃ G, Sub G H ∧ t σ G fun J => Back G H (R J)
section
variable {X : Cx} {e : Expr}
theorem pe_fr {t : TE} (h : PE X e t) : PE X e (tFr t) := ⟨fun pins s σ H Q I ⟨G, S, q⟩ =>
  thn (h.run _ s σ G _ (forget I S) q) fun u s' ⟨v, G', J, r, ht, q⟩ => ⟨v, _, remember I S J ht, r, q (lost_of I S J)⟩⟩
theorem pts_fr {es : List Expr} {t : TT} (h : PTs X es t) : PTs X es (tFrT t) := ⟨fun pins s σ H Q I ⟨G, S, q⟩ =>
  thn (h.run _ s σ G _ (forget I S) q) fun u s' ⟨G', J, ht, q⟩ => ⟨_, remember I S J ht, q (lost_of I S J)⟩⟩
theorem pg_fr {t : TG} (h : PG X e t) : PG X e (gFr t) := ⟨fun pins s σ H v u Q I r ⟨G, S, q⟩ =>
  thn (h.run _ s σ G v u _ (forget I S) r q) fun _ s' ⟨σ', G', J, ht, q⟩ => ⟨σ', _, remember I S J ht, q (lost_of I S J)⟩⟩
end

/-! ### growing heaps: all but the tables of code objects stay, and these are tables still -/
class TabsC where
  T : List (Addr × Str)
  C : List (Addr × Addr)
def NT : HO → Prop
  | .tbl _ => False
  | _ => True
theorem Loose.nt {o : HO} (h : Loose o) : NT o := by
  cases o <;> first | trivial | exact h
section
variable [τ : TabsC]
structure SameT (F F' : Hp) : Prop where
  old : ∀ b o, F b = some o → NT o → F' b = some o
  tab : LamX.Tabs τ.T F → LamX.Tabs τ.T F'
  stay : ∀ b o, F b = some o → ∃ o', F' b = some o'
theorem SameT.refl (F : Hp) : SameT F F := ⟨fun _ _ h _ => h, fun t => t, fun _ o h => ⟨o, h⟩⟩
theorem SameT.trans {F G H : Hp} (a : SameT F G) (b : SameT G H) : SameT F H := ⟨fun c o h n => b.old c o (a.old c o h n) n, fun t => b.tab (a.tab t), fun c o h => let ⟨o', h'⟩ := a.stay c o h; b.stay c o' h'⟩
theorem _root_.L2.Same.t {F F' : Hp} (h : Same F F') : SameT F F' := ⟨fun b o e _ => h b o e, fun t => t.ext h, fun b o e => ⟨o, h b o e⟩⟩
theorem SameT.empty (B : Hp) : SameT (fun _ => none) B := ⟨(fun _ _ q => nomatch q), (fun t p hp => by
  obtain ⟨ps, h, _⟩ := t p hp
  cases h), (fun _ _ q => nomatch q)⟩
theorem SameT.seq {K : PySem.W.Frag} {F F' : Hp} {a : Addr} {xs : List V} (e : SameT F F') (h : SqL K F a xs) : SqL K F' a xs := by
  rcases h with (h | ⟨o, h⟩) | h
  · exact .inl (.inl (e.old _ _ h trivial))
  · exact .inl (.inr ⟨o, e.old _ _ h trivial⟩)
  · exact .inr h
end
end Fu

set_option maxHeartbeats 4000000
namespace Fu
open PySem PySem.Spec PyProof.Rows L2
variable [TabsC]

abbrev D := PyData

/-- a dict stands at a: what it holds is not told -/
def dictO (a : Addr) : HO := .ext (PySem.W.KitAt a "dict")
/-! ### a value, down to what is within, in a heap that stays -/
mutual
inductive Rp (K : PySem.W.Frag) (H : Hp) : V → PyData → Prop
  | non : Rp K H .non .none
  | bl (b : Bool) : Rp K H (.bl b) (.bool b)
  | int (i : Int) : Rp K H (.int i) (.int i)
  | str {x : Str} : x.length ≤ sizeLine → Rp K H (.str x) (.str x)
  | lst {a : Addr} {xs : List V} {ds : List PyData} : H a = some (.lst xs) → Rps K H xs ds → ds.length ≤ sizeLine → Rp K H (.ref a) (.list ds)
  | tup {a : Addr} {xs : List V} {ds : List PyData} : SqT K H a xs → Rps K H xs ds → ds.length ≤ sizeLine → Rp K H (.ref a) (.tuple ds)
  | dct {a : Addr} {kvs : List (PyData × PyData)} : ((∃ es, H a = some (.dK es)) ∨ (∃ es, H a = some (.dT es)) ∨ H a = some (dictO a)) → (kvs = [] → H a = some (.dK [])) → Rp K H (.ref a) (.dict kvs)
inductive Rps (K : PySem.W.Frag) (H : Hp) : List V → List PyData → Prop
  | nil : Rps K H [] []
  | cons {v : V} {vs : List V} {d : PyData} {ds : List PyData} : Rp K H v d → Rps K H vs ds → Rps K H (v :: vs) (d :: ds)
end
section
variable {K : PySem.W.Frag} {H H' : Hp}
theorem sqT_same {a : Addr} {xs : List V} (e : SameT H H') (h : SqT K H a xs) : SqT K H' a xs := by
  rcases h with (h | ⟨o, h⟩) | h
  · exact .inl (.inl (e.old _ _ h trivial))
  · exact .inl (.inr ⟨o, e.old _ _ h trivial⟩)
  · exact .inr h
mutual
theorem Rp.mono (e : SameT H H') : ∀ (d : PyData) (v : V), Rp K H v d → Rp K H' v d
  | .none, _, h => by cases h; exact .non
  | .bool b, _, h => by cases h; exact .bl b
  | .int i, _, h => by cases h; exact .int i
  | .str x, _, h => by
    cases h with
    | str hz => exact .str hz
  | .list ds, _, h => by
    cases h with
    | lst hs ha hz => exact .lst (e.old _ _ hs trivial) (Rps.mono e ds _ ha) hz
  | .tuple ds, _, h => by
    cases h with
    | tup hs ha hz => exact .tup (sqT_same e hs) (Rps.mono e ds _ ha) hz
  | .dict kvs, _, h => by
    cases h with
    | dct hd h0 =>
      refine .dct ?_ (fun z => e.old _ _ (h0 z) trivial)
      rcases hd with ⟨es, hd⟩ | ⟨es, hd⟩ | hd
      · exact .inl ⟨es, e.old _ _ hd trivial⟩
      · exact .inr (.inl ⟨es, e.old _ _ hd trivial⟩)
      · exact .inr (.inr (e.old _ _ hd trivial))
theorem Rps.mono (e : SameT H H') : ∀ (ds : List PyData) (vs : List V), Rps K H vs ds → Rps K H' vs ds
  | [], _, h => by cases h; exact .nil
  | d :: ds, _, h => by
    cases h with
    | cons h1 h2 => exact .cons (Rp.mono e d _ h1) (Rps.mono e ds _ h2)
end
mutual
theorem Rp.dp : ∀ (d : PyData) (v : V), d.canLay0 = true → Rp K H v d → Dp K H v d
  | .none, _, _, h => by cases h; exact .non
  | .bool b, _, _, h => by cases h; exact .bl b
  | .int i, _, _, h => by cases h; exact .int i
  | .str x, _, _, h => by cases h; exact .str x
  | .list ds, _, c, h => by
    cases h with
    | lst hs ha hz => exact .lst (SqL.of hs) (Rps.dp ds _ (by simpa [PyData.canLay0] using c) ha)
  | .tuple ds, _, c, h => by
    cases h with
    | tup hs ha hz => exact .tup hs (Rps.dp ds _ (by simpa [PyData.canLay0] using c) ha)
  | .dict kvs, _, c, _ => by simp [PyData.canLay0] at c
theorem Rps.dp : ∀ (ds : List PyData) (vs : List V), PyData.canLayAll0 ds = true → Rps K H vs ds → DpAll K H vs ds
  | [], _, _, h => by cases h; exact .nil
  | d :: ds, _, c, h => by
    have c' : d.canLay0 = true ∧ PyData.canLayAll0 ds = true := by simpa [PyData.canLayAll0] using c
    cases h with
    | cons h1 h2 => exact .cons (Rp.dp d _ c'.1 h1) (Rps.dp ds _ c'.2 h2)
end
theorem Rps.length : ∀ {ds : List PyData} {vs : List V}, Rps K H vs ds → vs.length = ds.length
  | [], _, h => by cases h; rfl
  | d :: ds, _, h => by
    cases h with
    | cons _ h2 => rw [List.length_cons, List.length_cons, Rps.length h2]
theorem Rps.get : ∀ {ds : List PyData} {vs : List V} {i : Nat} {d : PyData}, Rps K H vs ds → ds[i]? = some d → ∃ v, vs[i]? = some v ∧ Rp K H v d
  | [], _, _, _, _, e => by simp at e
  | _ :: _, _, 0, _, h, e => by
    cases h with
    | cons h1 h2 =>
      simp at e; subst e
      exact ⟨_, rfl, h1⟩
  | _ :: ds, _, i + 1, _, h, e => by
    cases h with
    | cons h1 h2 =>
      obtain ⟨v, e1, r⟩ := Rps.get (i := i) h2 (by simpa using e)
      exact ⟨v, by simpa using e1, r⟩
theorem Rps.append : ∀ {ds es : List PyData} {vs us : List V}, Rps K H vs ds → Rps K H us es → Rps K H (vs ++ us) (ds ++ es)
  | [], _, _, _, h, g => by cases h; exact g
  | _ :: _, _, _, _, h, g => by
    cases h with
    | cons h1 h2 => exact .cons h1 (h2.append g)
theorem Rps.take : ∀ {ds : List PyData} {vs : List V} (n : Nat), Rps K H vs ds → Rps K H (vs.take n) (ds.take n)
  | _, _, 0, _ => .nil
  | [], _, n + 1, h => by cases h; exact .nil
  | _ :: _, _, n + 1, h => by
    cases h with
    | cons h1 h2 => exact .cons h1 (h2.take n)
theorem Rps.drop : ∀ {ds : List PyData} {vs : List V} (n : Nat), Rps K H vs ds → Rps K H (vs.drop n) (ds.drop n)
  | _, _, 0, h => h
  | [], _, n + 1, h => by cases h; exact .nil
  | _ :: _, _, n + 1, h => by
    cases h with
    | cons h1 h2 => exact h2.drop n
theorem Rps.set : ∀ {ds : List PyData} {vs : List V} {v : V} {d : PyData} (i : Nat), Rp K H v d → Rps K H vs ds → Rps K H (vs.set i v) (ds.set i d)
  | [], _, _, _, _, _, h => by cases h; exact .nil
  | _ :: _, _, _, _, 0, r, h => by
    cases h with
    | cons h1 h2 => exact .cons r h2
  | _ :: _, _, _, _, i + 1, r, h => by
    cases h with
    | cons h1 h2 => exact .cons h1 (Rps.set i r h2)
theorem Rps.erase : ∀ {ds : List PyData} {vs : List V} (i : Nat), Rps K H vs ds → Rps K H (vs.eraseIdx i) (ds.eraseIdx i)
  | [], _, _, h => by cases h; exact .nil
  | _ :: _, _, 0, h => by
    cases h with
    | cons h1 h2 => exact h2
  | _ :: _, _, i + 1, h => by
    cases h with
    | cons h1 h2 => exact .cons h1 (Rps.erase i h2)
theorem Rps.reverse {ds : List PyData} {vs : List V} (h : Rps K H vs ds) : Rps K H vs.reverse ds.reverse := by
  induction ds generalizing vs with
  | nil => cases h; exact .nil
  | cons d ds ih =>
    cases h with
    | cons h1 h2 =>
      rw [List.reverse_cons, List.reverse_cons]
      exact (ih h2).append (.cons h1 .nil)
theorem Rps.rep {ds : List PyData} {vs : List V} (h : Rps K H vs ds) : ∀ n : Nat, Rps K H (List.replicate n vs).flatten (List.replicate n ds).flatten
  | 0 => .nil
  | n + 1 => by
    rw [List.replicate_succ, List.replicate_succ, List.flatten_cons, List.flatten_cons]
    exact h.append (h.rep n)
theorem Rps.ints : ∀ ns : List Int, Rps K H (ns.map V.int) (ns.map PyData.int)
  | [] => .nil
  | n :: ns => .cons (.int n) (Rps.ints ns)
end

/-! ### the state: slots, and things that are still written (cells) -/
/-- an exception object of the class cls stands at a -/
def XO (cls : Value) (a : Addr) : HO := .ext fun h => ∃ (o : Obj) (fs : Array Value), h.get? a = some o ∧ Zc cls none o ∧ o.data = .fields fs
inductive R where
  | dat (d : PyData)
  | own (j : Nat)
  | scr (ns : List Int)
  | tup (rs : List R)
  | exc (c : Str)
inductive Cell where
  | lst (xs : List PyData)
  | lR (xs : List R)
  | dR (kvs : List (Key × R))
  | tR (kvs : List (List Key × R))
structure Sx where
  sl : List (Option R)
  os : List (Option Cell)
abbrev M (α : Type) := Sx → Option (α × Sx)

mutual
/-- a value of the state: data, a cell's place, the script, a tuple of such -/
inductive Rr (K : PySem.W.Frag) (A : List Addr) (F : Hp) : V → R → Prop
  | dat {v : V} {d : PyData} : Rp K F v d → Rr K A F v (.dat d)
  | own {j : Nat} {a : Addr} : A[j]? = some a → Rr K A F (.ref a) (.own j)
  | scr {a : Addr} {ns : List Int} : ns.length ≤ 63 → SqL K F a (ns.map V.int) → Rr K A F (.ref a) (.scr ns)
  | tup {a : Addr} {vs : List V} {rs : List R} : SqT K F a vs → Rrs K A F vs rs → rs.length ≤ sizeLine → Rr K A F (.ref a) (.tup rs)
  | exc {a D : Addr} {c : Str} : PySem.W.nsIn K mainGlobals c = some (some (.ref D)) → F a = some (XO (.ref D) a) → Rr K A F (.ref a) (.exc c)
inductive Rrs (K : PySem.W.Frag) (A : List Addr) (F : Hp) : List V → List R → Prop
  | nil : Rrs K A F [] []
  | cons {v : V} {vs : List V} {r : R} {rs : List R} : Rr K A F v r → Rrs K A F vs rs → Rrs K A F (v :: vs) (r :: rs)
end
theorem pre_at {α : Type} {A B : List α} {j : Nat} {a : α} (p : A <+: B) (h : A[j]? = some a) : B[j]? = some a := by
  obtain ⟨C, rfl⟩ := p
  rw [List.getElem?_append_left (List.getElem?_eq_some_iff.mp h).1]; exact h
section
variable {K : PySem.W.Frag} {A A' : List Addr} {F F' : Hp}
mutual
theorem Rr.mono (p : A <+: A') (e : SameT F F') : ∀ (r : R) (v : V), Rr K A F v r → Rr K A' F' v r
  | .dat d, _, h => by
    cases h with
    | dat h => exact .dat (Rp.mono e d _ h)
  | .own j, _, h => by
    cases h with
    | own h => exact .own (pre_at p h)
  | .scr ns, _, h => by
    cases h with
    | scr z h => exact .scr z (e.seq h)
  | .tup rs, _, h => by
    cases h with
    | tup s h z => exact .tup (sqT_same e s) (Rrs.mono p e rs _ h) z
  | .exc c, _, h => by
    cases h with
    | exc h1 h2 => exact .exc h1 (e.old _ _ h2 trivial)
theorem Rrs.mono (p : A <+: A') (e : SameT F F') : ∀ (rs : List R) (vs : List V), Rrs K A F vs rs → Rrs K A' F' vs rs
  | [], _, h => by cases h; exact .nil
  | r :: rs, _, h => by
    cases h with
    | cons h1 h2 => exact .cons (Rr.mono p e r _ h1) (Rrs.mono p e rs _ h2)
end
theorem Rrs.length : ∀ {rs : List R} {vs : List V}, Rrs K A F vs rs → vs.length = rs.length
  | [], _, h => by cases h; rfl
  | _ :: rs, _, h => by
    cases h with
    | cons _ h2 => rw [List.length_cons, List.length_cons, Rrs.length h2]
theorem Rrs.get : ∀ {rs : List R} {vs : List V} {i : Nat} {r : R}, Rrs K A F vs rs → rs[i]? = some r → ∃ v, vs[i]? = some v ∧ Rr K A F v r
  | [], _, _, _, _, e => by simp at e
  | _ :: _, _, 0, _, h, e => by
    cases h with
    | cons h1 h2 =>
      simp at e; subst e
      exact ⟨_, rfl, h1⟩
  | _ :: rs, _, i + 1, _, h, e => by
    cases h with
    | cons h1 h2 =>
      obtain ⟨v, e1, r⟩ := Rrs.get (i := i) h2 (by simpa using e)
      exact ⟨v, by simpa using e1, r⟩
theorem Rrs.append : ∀ {rs ss : List R} {vs us : List V}, Rrs K A F vs rs → Rrs K A F us ss → Rrs K A F (vs ++ us) (rs ++ ss)
  | [], _, _, _, h, g => by cases h; exact g
  | _ :: _, _, _, _, h, g => by
    cases h with
    | cons h1 h2 => exact .cons h1 (h2.append g)
theorem Rrs.take : ∀ {rs : List R} {vs : List V} (n : Nat), Rrs K A F vs rs → Rrs K A F (vs.take n) (rs.take n)
  | _, _, 0, _ => .nil
  | [], _, n + 1, h => by cases h; exact .nil
  | _ :: _, _, n + 1, h => by
    cases h with
    | cons h1 h2 => exact .cons h1 (h2.take n)
theorem Rrs.drop : ∀ {rs : List R} {vs : List V} (n : Nat), Rrs K A F vs rs → Rrs K A F (vs.drop n) (rs.drop n)
  | _, _, 0, h => h
  | [], _, n + 1, h => by cases h; exact .nil
  | _ :: _, _, n + 1, h => by
    cases h with
    | cons h1 h2 => exact h2.drop n
theorem Rrs.set : ∀ {rs : List R} {vs : List V} {v : V} {r : R} (i : Nat), Rr K A F v r → Rrs K A F vs rs → Rrs K A F (vs.set i v) (rs.set i r)
  | [], _, _, _, _, _, h => by cases h; exact .nil
  | _ :: _, _, _, _, 0, r, h => by
    cases h with
    | cons h1 h2 => exact .cons r h2
  | _ :: _, _, _, _, i + 1, r, h => by
    cases h with
    | cons h1 h2 => exact .cons h1 (Rrs.set i r h2)
theorem Rrs.erase : ∀ {rs : List R} {vs : List V} (i : Nat), Rrs K A F vs rs → Rrs K A F (vs.eraseIdx i) (rs.eraseIdx i)
  | [], _, _, h => by cases h; exact .nil
  | _ :: _, _, 0, h => by
    cases h with
    | cons h1 h2 => exact h2
  | _ :: _, _, i + 1, h => by
    cases h with
    | cons h1 h2 => exact .cons h1 (Rrs.erase i h2)
end

abbrev PairR (K : PySem.W.Frag) (A : List Addr) (F : Hp) {κ : Type} (vs : List (κ × V)) (ks : List (κ × R)) : Prop := Paired (fun p q => p.1 = q.1 ∧ Rr K A F p.2 q.2) vs ks
def CellOk (K : PySem.W.Frag) (A : List Addr) (F H : Hp) (a : Addr) : Cell → Prop
  | .lst ds => ∃ vs, H a = some (.lst vs) ∧ Rps K F vs ds ∧ ds.length ≤ sizeLine
  | .lR rs => ∃ vs, H a = some (.lst vs) ∧ Rrs K A F vs rs ∧ rs.length ≤ sizeLine
  | .dR kvs => ∃ vs : List (Key × V), H a = some (.dK vs) ∧ PairR K A F vs kvs
  | .tR kvs => ∃ vs : List (List Key × V), H a = some (.dT vs) ∧ PairR K A F vs kvs
structure Ok (K : PySem.W.Frag) (A : List Addr) (F H : Hp) (S : Sx) (σ : L2.St) : Prop where
  sub : Sub F H
  len : S.sl.length = σ.length
  alen : S.os.length = A.length
  nd : A.Nodup
  rslot : ∀ (i : Nat) r, S.sl[i]? = some (some r) → ∃ v, σ[i]? = some (some v) ∧ Rr K A F v r
  cell : ∀ (j : Nat) c, S.os[j]? = some (some c) → ∃ a, A[j]? = some a ∧ F a = none ∧ CellOk K A F H a c
  trk : ∀ a ∈ A, ∃ o, H a = some o ∧ Loose o
  tab : LamX.Tabs TabsC.T F
section
variable {K : PySem.W.Frag} {A : List Addr} {F H : Hp} {S : Sx} {σ : L2.St}
theorem Ok.slot (k : Ok K A F H S σ) (i : Nat) (d : PyData) (h : S.sl[i]? = some (some (.dat d))) : ∃ v, σ[i]? = some (some v) ∧ Rp K F v d := by
  obtain ⟨v, e, r⟩ := k.rslot i _ h
  cases r with
  | dat r => exact ⟨v, e, r⟩
theorem Ok.oslot (k : Ok K A F H S σ) (i j : Nat) (h : S.sl[i]? = some (some (.own j))) : ∃ a, A[j]? = some a ∧ σ[i]? = some (some (.ref a)) := by
  obtain ⟨v, e, r⟩ := k.rslot i _ h
  cases r with
  | own r => exact ⟨_, r, e⟩
theorem Ok.sslot (k : Ok K A F H S σ) (i : Nat) (ns : List Int) (h : S.sl[i]? = some (some (.scr ns))) : ns.length ≤ 63 ∧ ∃ a, σ[i]? = some (some (.ref a)) ∧ SqL K F a (ns.map V.int) := by
  obtain ⟨v, e, r⟩ := k.rslot i _ h
  cases r with
  | scr z r => exact ⟨z, _, e, r⟩
end

theorem paired_mono {κ : Type} {K : PySem.W.Frag} {A A' : List Addr} {F F' : Hp} (p : A <+: A') (e : SameT F F') {vs : List (κ × V)} {ks : List (κ × R)} (h : PairR K A F vs ks) : PairR K A' F' vs ks :=
  Paired.mapP h fun _ _ z => ⟨z.1, z.2.mono p e _ _⟩
/-- the cell at a stands over a greater heap -/
theorem CellOk.mono {K : PySem.W.Frag} {A A' : List Addr} {F F' H H' : Hp} {a : Addr} {c : Cell} (p : A <+: A') (e : SameT F F') (ha : ∀ o, H a = some o → H' a = some o) (h : CellOk K A F H a c) : CellOk K A' F' H' a c := by
  cases c with
  | lst ds => obtain ⟨vs, h1, h2, hz⟩ := h; exact ⟨vs, ha _ h1, Rps.mono e _ _ h2, hz⟩
  | lR ds => obtain ⟨vs, h1, h2, hz⟩ := h; exact ⟨vs, ha _ h1, Rrs.mono p e _ _ h2, hz⟩
  | dR ds => obtain ⟨vs, h1, h2⟩ := h; exact ⟨vs, ha _ h1, paired_mono p e h2⟩
  | tR ds => obtain ⟨vs, h1, h2⟩ := h; exact ⟨vs, ha _ h1, paired_mono p e h2⟩

theorem same_upd {H : Hp} {p : Addr} {o : HO} (h : H p = none) : SameT H (upd H p o) := L2.Same.t fun b x e => by
  rw [upd_ne (ne_of_none e h)]
  exact e
section
variable {K : PySem.W.Frag} {A : List Addr} {F F' H H' : Hp} {S : Sx} {σ : L2.St}
/-- both heaps grow -/
theorem Ok.grow (k : Ok K A F H S σ) (sub : Sub F' H') (e : SameT F F') (eh : ∀ a ∈ A, ∀ o, H a = some o → H' a = some o) (hf : ∀ a ∈ A, F a = none → F' a = none) : Ok K A F' H' S σ where
  sub := sub
  len := k.len
  alen := k.alen
  nd := k.nd
  rslot := fun i r h => by obtain ⟨v, e1, q⟩ := k.rslot i r h; exact ⟨v, e1, q.mono (List.prefix_refl _) e _ _⟩
  cell := fun j c h => by
    obtain ⟨a, e1, f, c⟩ := k.cell j c h
    have hm : a ∈ A := List.mem_of_getElem? e1
    exact ⟨a, e1, hf a hm f, c.mono (List.prefix_refl _) e (eh a hm)⟩
  trk := fun a h => by obtain ⟨o, q, l⟩ := k.trk a h; exact ⟨o, eh a h o q, l⟩
  tab := e.tab k.tab
/-- a new object, known for good -/
theorem Ok.laid (k : Ok K A F H S σ) {p : Addr} {o : HO} (hp : H p = none) : Ok K A (upd F p o) (upd H p o) S σ := by
  have fp : F p = none := k.sub.none hp
  refine k.grow ⟨fun b u q => ?_, fun b u q n => ?_⟩ (same_upd fp) (fun a ha u q => by rw [upd_ne (ne_of_none q hp)]; exact q) fun a ha q => ?_
  · by_cases hb : b = p
    · subst hb; rw [upd_same] at q ⊢; exact q
    · rw [upd_ne hb] at q ⊢; exact k.sub.same b u q
  · by_cases hb : b = p
    · subst hb; rw [upd_same] at n; cases n
    · rw [upd_ne hb] at q n; exact k.sub.loose b u q n
  · obtain ⟨u, hu, _⟩ := k.trk a ha
    rw [upd_ne (ne_of_none hu hp)]; exact q
theorem sub_cell {G H : Hp} (s : Sub G H) {a : Addr} {o : HO} (g : G a = none) (l : Loose o) : Sub G (upd H a o) := ⟨fun b u q => by
    rw [upd_ne (ne_of_none q g)]; exact s.same b u q, fun b u q n => by
    by_cases hb : b = a
    · subst hb; rw [upd_same] at q; cases q; exact l
    · rw [upd_ne hb] at q; exact s.loose b u q n⟩
/-- a new cell -/
theorem Ok.cellNew (k : Ok K A F H S σ) {p : Addr} {o : HO} {c : Cell} (hp : H p = none) (l : Loose o) (hc : CellOk K (A ++ [p]) F (upd H p o) p c) : Ok K (A ++ [p]) F (upd H p o) { S with os := S.os ++ [some c] } σ := by
  have fp : F p = none := k.sub.none hp
  have np : p ∉ A := fun z => by obtain ⟨u, hu, _⟩ := k.trk p z; rw [hp] at hu; cases hu
  have pp : A <+: A ++ [p] := List.prefix_append _ _
  refine ⟨sub_cell k.sub fp l, k.len, by simp [k.alen], List.nodup_append.mpr ⟨k.nd, by simp, fun a ha b hb => by simp at hb; subst hb; intro z; subst z; exact np ha⟩, fun i r h => ?_, fun j c' h => ?_, fun a h => ?_, k.tab⟩
  · obtain ⟨v, e1, q⟩ := k.rslot i r h
    exact ⟨v, e1, q.mono pp (SameT.refl F) _ _⟩
  · by_cases hj : j < S.os.length
    · have h' : S.os[j]? = some (some c') := by
        have := h
        simp only at this
        rw [List.getElem?_append_left hj] at this; exact this
      obtain ⟨a, e1, f, q⟩ := k.cell j c' h'
      exact ⟨a, pre_at pp e1, f, q.mono pp (SameT.refl F) fun u hu => by rw [upd_ne (ne_of_none hu hp)]; exact hu⟩
    · have e : j = S.os.length := by
        have := (List.getElem?_eq_some_iff.mp h).1
        simp at this
        omega
      subst e
      have h' : some c = some c' := by simpa using h
      cases h'
      exact ⟨p, by rw [k.alen]; simp, fp, hc⟩
  · rcases List.mem_append.mp h with h | h
    · obtain ⟨u, hu, lu⟩ := k.trk a h
      exact ⟨u, by rw [upd_ne (ne_of_none hu hp)]; exact hu, lu⟩
    · simp at h; subst h; exact ⟨o, upd_same, l⟩
theorem idx_nodup {α : Type} {A : List α} (nd : A.Nodup) {i j : Nat} {a : α} (h1 : A[i]? = some a) (h2 : A[j]? = some a) : i = j := by
  obtain ⟨l1, e1⟩ := List.getElem?_eq_some_iff.mp h1
  obtain ⟨l2, e2⟩ := List.getElem?_eq_some_iff.mp h2
  exact (List.getElem_inj nd).mp (e1.trans e2.symm)
/-- a cell written -/
theorem Ok.cellSet (k : Ok K A F H S σ) {j : Nat} {a : Addr} {o : HO} {c c' : Cell} (hj : S.os[j]? = some (some c)) (ha : A[j]? = some a) (l : Loose o) (hc : CellOk K A F (upd H a o) a c') :
    Ok K A F (upd H a o) { S with os := S.os.set j (some c') } σ := by
  obtain ⟨a', e1, fa, _⟩ := k.cell j c hj
  rw [ha] at e1; cases e1
  refine ⟨sub_cell k.sub fa l, k.len, by simp [k.alen], k.nd, k.rslot, fun i d h => ?_, fun b h => ?_, k.tab⟩
  · by_cases hi : j = i
    · subst hi
      have hlt := (List.getElem?_eq_some_iff.mp hj).1
      rw [List.getElem?_set_self hlt] at h
      cases h
      exact ⟨a, ha, fa, hc⟩
    · rw [List.getElem?_set_ne hi] at h
      obtain ⟨b, e1, f, q⟩ := k.cell i d h
      have hb : b ≠ a := fun z => hi (idx_nodup k.nd ha (z ▸ e1))
      exact ⟨b, e1, f, q.mono (List.prefix_refl _) (SameT.refl F) fun u hu => by rw [upd_ne hb]; exact hu⟩
  · by_cases hb : b = a
    · exact ⟨o, by rw [hb, upd_same], l⟩
    · obtain ⟨u, hu, lu⟩ := k.trk b h
      exact ⟨u, by rw [upd_ne hb]; exact hu, lu⟩
/-- a cell is written no more: its object is known for good -/
theorem Ok.sealO (k : Ok K A F H S σ) {j : Nat} {a : Addr} {o : HO} {c : Cell} (hj : S.os[j]? = some (some c)) (ha : A[j]? = some a) (ho : H a = some o) :
    SameT F (upd F a o) ∧ Ok K A (upd F a o) H { S with os := S.os.set j none } σ := by
  obtain ⟨a', e1, fa, _⟩ := k.cell j c hj
  rw [ha] at e1; cases e1
  have sm : SameT F (upd F a o) := same_upd fa
  refine ⟨sm, ⟨⟨fun b u q => ?_, fun b u q n => ?_⟩, k.len, by simp [k.alen], k.nd, fun i r h => ?_, fun i d h => ?_, k.trk, sm.tab k.tab⟩⟩
  · by_cases hb : b = a
    · subst hb; rw [upd_same] at q; cases q; exact ho
    · rw [upd_ne hb] at q; exact k.sub.same b u q
  · by_cases hb : b = a
    · subst hb; rw [upd_same] at n; cases n
    · rw [upd_ne hb] at n; exact k.sub.loose b u q n
  · obtain ⟨v, e1, q⟩ := k.rslot i r h
    exact ⟨v, e1, q.mono (List.prefix_refl _) sm _ _⟩
  · by_cases hi : j = i
    · subst hi
      have hlt := (List.getElem?_eq_some_iff.mp hj).1
      rw [List.getElem?_set_self hlt] at h
      cases h
    · rw [List.getElem?_set_ne hi] at h
      obtain ⟨b, e1, f, q⟩ := k.cell i d h
      have hb : b ≠ a := fun z => hi (idx_nodup k.nd ha (z ▸ e1))
      exact ⟨b, e1, by rw [upd_ne hb]; exact f, q.mono (List.prefix_refl _) sm fun u hu => hu⟩
/-- .. a list of data -/
theorem Ok.seal (k : Ok K A F H S σ) {j : Nat} {ds : List PyData} (hj : S.os[j]? = some (some (.lst ds))) :
    ∃ a F', A[j]? = some a ∧ SameT F F' ∧ Rp K F' (.ref a) (.list ds) ∧ Ok K A F' H { S with os := S.os.set j none } σ ∧ ∀ b, b ≠ a → F' b = F b := by
  obtain ⟨a, ha, fa, vs, hv, r, hz⟩ := k.cell j _ hj
  obtain ⟨sm, k'⟩ := k.sealO hj ha hv
  exact ⟨a, _, ha, sm, .lst upd_same (Rps.mono sm _ _ r) hz, k', fun b hb => upd_ne hb⟩
theorem Ok.setR (k : Ok K A F H S σ) {i : Nat} {r : R} {v : V} (q : Rr K A F v r) : Ok K A F H { S with sl := S.sl.set i (some r) } (σ.set i (some v)) := by
  refine ⟨k.sub, by simp [k.len], k.alen, k.nd, fun n e h => ?_, k.cell, k.trk, k.tab⟩
  by_cases hi : i = n
  · subst hi
    have hlt : i < S.sl.length := by
      have := (List.getElem?_eq_some_iff.mp h).1
      simpa using this
    rw [List.getElem?_set_self hlt] at h
    cases h
    exact ⟨v, by rw [List.getElem?_set_self (by rw [← k.len]; exact hlt)], q⟩
  · rw [List.getElem?_set_ne hi] at h ⊢
    exact k.rslot n e h
theorem Ok.setDat (k : Ok K A F H S σ) {i : Nat} {d : PyData} {v : V} (r : Rp K F v d) : Ok K A F H { S with sl := S.sl.set i (some (.dat d)) } (σ.set i (some v)) := k.setR (.dat r)
theorem Ok.setOwn (k : Ok K A F H S σ) {i j : Nat} {a : Addr} (ha : A[j]? = some a) : Ok K A F H { S with sl := S.sl.set i (some (.own j)) } (σ.set i (some (.ref a))) := k.setR (.own ha)
theorem set_at {α : Type} {l : List (Option α)} {i : Nat} {v : α} (hv : l[i]? = some (some v)) : l.set i (some v) = l := by
  apply List.ext_getElem?
  intro n
  by_cases hi : i = n
  · subst hi
    rw [List.getElem?_set_self (List.getElem?_eq_some_iff.mp hv).1, hv]
  · rw [List.getElem?_set_ne hi]
/-- the slot's thing told otherwise, the value as it was -/
theorem Ok.rAt (k : Ok K A F H S σ) {i : Nat} {r : R} {v : V} (hv : σ[i]? = some (some v)) (q : Rr K A F v r) : Ok K A F H { S with sl := S.sl.set i (some r) } σ := by
  have := k.setR (i := i) q
  rwa [set_at hv] at this
theorem Ok.datAt (k : Ok K A F H S σ) {i : Nat} {d : PyData} {v : V} (hv : σ[i]? = some (some v)) (r : Rp K F v d) : Ok K A F H { S with sl := S.sl.set i (some (.dat d)) } σ := k.rAt hv (.dat r)
end
end Fu

set_option maxHeartbeats 4000000
namespace Fu
open PySem PySem.Spec PyProof.Rows L2
variable [TabsC]

theorem bind_inv {α β : Type} {x : Option α} {f : α → Option β} {b : β} (h : x.bind f = some b) : ∃ a, x = some a ∧ f a = some b := by
  cases x with
  | none => cases h
  | some a => exact ⟨a, rfl, h⟩

/-! ### the judgements: an expression's reading meets a function on states -/
def RdE (K : PySem.W.Frag) (t : TE) (g : M D) : Prop := ∀ A F H S σ d S' (Q : VK), Ok K A F H S σ → g S = some (d, S') →
  (∀ A' F' H' v, A <+: A' → SameT F F' → Ok K A' F' H' S' σ → Rp K F' v d → Q v H') → t σ H Q
def RdT (K : PySem.W.Frag) (t : TT) (g : M Bool) : Prop := ∀ A F H S σ b S' (Q : Bool → Hp → Prop), Ok K A F H S σ → g S = some (b, S') →
  (∀ A' F' H', A <+: A' → SameT F F' → Ok K A' F' H' S' σ → Q b H') → t σ H Q
def RdA (K : PySem.W.Frag) (t : TA) (g : M (List D)) : Prop := ∀ A F H S σ ds S' (Q : List V → Hp → Prop), Ok K A F H S σ → g S = some (ds, S') →
  (∀ A' F' H' vs, A <+: A' → SameT F F' → Ok K A' F' H' S' σ → Rps K F' vs ds → Q vs H') → t σ H Q
structure GE (X : Cx) (e : Expr) (g : M D) : Prop where
  ex : ∃ t, PE X e t ∧ RdE X.K t g
structure GT (X : Cx) (e : Expr) (g : M Bool) : Prop where
  ex : ∃ t, PT X e t ∧ RdT X.K t g
structure GW (X : Cx) (e : Expr) (g : M Bool) : Prop where
  ex : ∃ t, PW X e t ∧ RdT X.K t g
structure GA (X : Cx) (es : List Expr) (g : M (List D)) : Prop where
  ex : ∃ t, PA X es t ∧ RdA X.K t g

/-! ### names and constants -/
def gVar (i : Nat) : M D := fun S => match S.sl[i]? with
  | some (some (.dat d)) => some (d, S)
  | some (some (.own j)) => match S.os[j]? with
    | some (some (.lst ds)) => some (.list ds, ⟨S.sl.set i (some (.dat (.list ds))), S.os.set j none⟩)
    | _ => none
  | _ => none
def gC (d : D) : M D := fun S => some (d, S)
section
variable {X : Cx} {pos : Pos}
theorem rd_var {K : PySem.W.Frag} (i : Nat) : RdE K (tVar i) (gVar i) := by
  intro A F H S σ d S' Q k h post
  unfold gVar at h
  cases e : S.sl[i]? with
  | none => rw [e] at h; cases h
  | some r =>
    cases r with
    | none => rw [e] at h; cases h
    | some r =>
      cases r with
      | dat d' =>
        rw [e] at h; cases h
        obtain ⟨v, ev, r⟩ := k.slot i _ e
        exact ⟨v, ev, post A F H v (List.prefix_refl _) (SameT.refl F) k r⟩
      | scr ns => rw [e] at h; cases h
      | tup rs => rw [e] at h; cases h
      | exc c => rw [e] at h; cases h
      | own j =>
        rw [e] at h
        simp only at h
        cases e2 : S.os[j]? with
        | none => rw [e2] at h; cases h
        | some c =>
          cases c with
          | none => rw [e2] at h; cases h
          | some c =>
            cases c with
            | lst ds =>
              rw [e2] at h; cases h
              obtain ⟨a, ha, ev⟩ := k.oslot i j e
              obtain ⟨a', F', ha', sm, r, k', _⟩ := k.seal e2
              rw [ha] at ha'; cases ha'
              exact ⟨_, ev, post A F' H _ (List.prefix_refl _) sm (k'.datAt ev r) r⟩
            | lR _ => rw [e2] at h; cases h
            | dR _ => rw [e2] at h; cases h
            | tR _ => rw [e2] at h; cases h
theorem e_var (i : Nat) {x : Str} (hN : X.N[i]? = some x := by rfl) (hv : Vis X.env.scope x := by first | exact Or.inl rfl | exact Or.inr (Or.inl rfl) | exact Or.inr (Or.inr rfl)) (hd : (x == ("__debug__" : Str)) = false := by decide)
    (hcd : (x == ("__classdict__" : Str)) = false := by decide) : GE X (.Name x pos) (gVar i) := ⟨_, pe_var hN hv hd hcd, rd_var i⟩
theorem rd_c {K : PySem.W.Frag} {v : V} {d : D} (r : ∀ F, Rp K F v d) : RdE K (tC v) (gC d) := by
  intro A F H S σ d' S' Q k h post
  cases h
  exact post A F H v (List.prefix_refl _) (SameT.refl F) k (r F)
theorem e_int {i : Int} {j} : GE X (.Constant (.int i) j pos) (gC (.int i)) := ⟨_, pe_int, rd_c fun _ => .int i⟩
theorem e_bl {b : Bool} {j} : GE X (.Constant (.bool b) j pos) (gC (.bool b)) := ⟨_, pe_bl, rd_c fun _ => .bl b⟩
theorem e_non {j} : GE X (.Constant .none j pos) (gC .none) := ⟨_, pe_non, rd_c fun _ => .non⟩
theorem e_str {x : Str} {j} (hz : x.length ≤ sizeLine := by decide) : GE X (.Constant (.str x) j pos) (gC (.str x)) := ⟨_, pe_str, rd_c fun _ => .str hz⟩
/-- a module's constant -/
theorem e_gint {x : Str} {i : Int} {t : Tok} (hm : X.mg x = some (.int i t)) (hg : Gl X x := by rfl) (hd : (x == ("__debug__" : Str)) = false := by decide) : GE X (.Name x pos) (gC (.int i)) := ⟨_, pe_glob (v := .int i) hg hm ⟨t, rfl⟩ hd, rd_c fun _ => .int i⟩
theorem e_gstr {x z : Str} {t : Tok} (hm : X.mg x = some (.str z t)) (hg : Gl X x := by rfl) (hz : z.length ≤ sizeLine := by decide) (hd : (x == ("__debug__" : Str)) = false := by decide) : GE X (.Name x pos) (gC (.str z)) := ⟨_, pe_glob (v := .str z) hg hm ⟨t, rfl⟩ hd, rd_c fun _ => .str hz⟩
end

/-! ### operators by values -/
def RdOp (K : PySem.W.Frag) (r : R2) (f : D → D → Option D) : Prop := ∀ A F H S σ x y d e z Q, Ok K A F H S σ → Rp K F x d → Rp K F y e → f d e = some z →
  (∀ F' H' v, SameT F F' → Ok K A F' H' S σ → Rp K F' v z → Q v H') → r x y H Q
def gBin (f : D → D → Option D) (ga gb : M D) : M D := fun S => (ga S).bind fun p => (gb p.2).bind fun q => (f p.1 q.1).bind fun z => some (z, q.2)
section
variable {X : Cx} {pos : Pos} {a b : Expr} {ga gb : M D}
theorem rd_op {K : PySem.W.Frag} {r : R2} {f : D → D → Option D} {ta tb : TE} (hf : RdOp K r f) (ra : RdE K ta ga) (rb : RdE K tb gb) : RdE K (tOp r ta tb) (gBin f ga gb) := by
  intro A F H S σ d S' Q k h post
  obtain ⟨⟨x, S1⟩, h1, h⟩ := bind_inv h
  obtain ⟨⟨y, S2⟩, h2, h⟩ := bind_inv h
  obtain ⟨z, h3, h⟩ := bind_inv h
  cases h
  refine ra A F H S σ x S1 _ k h1 fun A1 F1 H1 v1 p1 s1 k1 r1 => rb A1 F1 H1 S1 σ y S2 _ k1 h2 fun A2 F2 H2 v2 p2 s2 k2 r2 => ?_
  exact hf A2 F2 H2 _ σ v1 v2 x y _ Q k2 (r1.mono s2 _ _) r2 h3 fun F3 H3 v s3 k3 r3 => post A2 F3 H3 v (p1.trans p2) (s1.trans (s2.trans s3)) k3 r3
theorem e_op {op : Operator} {r : R2} {f : D → D → Option D} (ho : OpR X (binaryOp op) r) (hf : RdOp X.K r f) (ha : GE X a ga) (hb : GE X b gb) : GE X (.BinOp a op b pos) (gBin f ga gb) :=
  let ⟨_, pa, ra⟩ := ha.ex; let ⟨_, pb, rb⟩ := hb.ex; ⟨_, pe_op ho pa pb, rd_op hf ra rb⟩
theorem e_cmpR {op : CmpOp} {r : R2} {f : D → D → Option D} (ho : OpR X (compareOp op) r) (hf : RdOp X.K r f) (hm : behindInMarks op b = false) (ha : GE X a ga) (hb : GE X b gb) : GE X (.Compare a [op] [b] pos) (gBin f ga gb) :=
  let ⟨_, pa, ra⟩ := ha.ex; let ⟨_, pb, rb⟩ := hb.ex; ⟨_, pe_cmpR ho pa pb hm, rd_op hf ra rb⟩
def gB (g : M D) : M Bool := fun S => (g S).bind fun p => match p.1 with
  | .bool b => some (b, p.2)
  | _ => none
theorem rd_test {K : PySem.W.Frag} {t : TE} {g : M D} (h : RdE K t g) : RdT K (tB t) (gB g) := by
  intro A F H S σ b S' Q k e post
  obtain ⟨⟨d, S1⟩, h1, e⟩ := bind_inv e
  refine h A F H S σ d S1 _ k h1 fun A1 F1 H1 v p1 s1 k1 r1 => ?_
  cases d <;> simp only at e <;> cases e
  cases r1
  exact ⟨_, rfl, post A1 F1 H1 p1 s1 k1⟩
theorem t_cmpR {op : CmpOp} {r : R2} {f : D → D → Option D} (ho : OpR X (compareOp op) r) (hf : RdOp X.K r f) (hm : behindInMarks op b = false) (ha : GE X a ga) (hb : GE X b gb) : GT X (.Compare a [op] [b] pos) (gB (gBin f ga gb)) :=
  let ⟨_, pa, ra⟩ := ha.ex; let ⟨_, pb, rb⟩ := hb.ex; ⟨_, pt_cmpR ho pa pb hm, rd_test (rd_op hf ra rb)⟩
theorem t_val {e : Expr} {g : M D} (h : GE X e g) (he : ∀ whole, isTrue e X.env whole = (do let v ← whole; standAt e.pos; holding [v] (truthy v)) := by intro _; rfl) : GT X e (gB g) :=
  let ⟨_, pe, re⟩ := h.ex; ⟨_, pt_val pe he, rd_test re⟩

/-! ### the operators -/
def dAdd : D → D → Option D
  | .int i, .int j => some (.int (i + j))
  | .str x, .str y => if x.length + y.length ≤ sizeLine then some (.str (x ++ y)) else none
  | .list xs, .list ys => if xs.length + ys.length ≤ sizeLine then some (.list (xs ++ ys)) else none
  | .tuple xs, .tuple ys => if xs.length + ys.length ≤ sizeLine then some (.tuple (xs ++ ys)) else none
  | _, _ => none

end

section
variable {K : PySem.W.Frag}
theorem rps_upd {F : Hp} {p : Addr} {o : HO} {vs : List V} {ds : List D} (h : F p = none) (r : Rps K F vs ds) : Rps K (upd F p o) vs ds := Rps.mono (same_upd h) _ _ r
/-- a new list, a new tuple, known for good -/
theorem Ok.newList {A : List Addr} {F H : Hp} {S : Sx} {σ : L2.St} (k : Ok K A F H S σ) {p : Addr} {vs : List V} {ds : List D} (hp : H p = none) (r : Rps K F vs ds) (hz : ds.length ≤ sizeLine) :
    SameT F (upd F p (.lst vs)) ∧ Ok K A (upd F p (.lst vs)) (upd H p (.lst vs)) S σ ∧ Rp K (upd F p (.lst vs)) (.ref p) (.list ds) :=
  have fp := k.sub.none hp
  ⟨same_upd fp, k.laid hp, .lst upd_same (rps_upd fp r) hz⟩
theorem Ok.newTup {A : List Addr} {F H : Hp} {S : Sx} {σ : L2.St} (k : Ok K A F H S σ) {p : Addr} {vs : List V} {ds : List D} (hp : H p = none) (r : Rps K F vs ds) (hz : ds.length ≤ sizeLine) :
    SameT F (upd F p (.tup vs)) ∧ Ok K A (upd F p (.tup vs)) (upd H p (.tup vs)) S σ ∧ Rp K (upd F p (.tup vs)) (.ref p) (.tuple ds) :=
  have fp := k.sub.none hp
  ⟨same_upd fp, k.laid hp, .tup (.inl (.inl upd_same)) (rps_upd fp r) hz⟩
theorem rp_list_inv {F : Hp} {v : V} {ds : List D} (h : Rp K F v (.list ds)) : ∃ a xs, v = .ref a ∧ F a = some (.lst xs) ∧ Rps K F xs ds ∧ ds.length ≤ sizeLine := by
  cases h with
  | lst h1 h2 h3 => exact ⟨_, _, rfl, h1, h2, h3⟩
theorem rp_tup_inv {F : Hp} {v : V} {ds : List D} (h : Rp K F v (.tuple ds)) : ∃ a xs, v = .ref a ∧ SqT K F a xs ∧ Rps K F xs ds ∧ ds.length ≤ sizeLine := by
  cases h with
  | tup h1 h2 h3 => exact ⟨_, _, rfl, h1, h2, h3⟩
theorem rp_str_inv {F : Hp} {v : V} {x : Str} (h : Rp K F v (.str x)) : v = .str x ∧ x.length ≤ sizeLine := by
  cases h with
  | str h => exact ⟨rfl, h⟩
theorem rp_int_inv {F : Hp} {v : V} {i : Int} (h : Rp K F v (.int i)) : v = .int i := by cases h; rfl
theorem rp_bool_inv {F : Hp} {v : V} {i : Bool} (h : Rp K F v (.bool i)) : v = .bl i := by cases h; rfl

def rAddAny (K : PySem.W.Frag) : R2 := fun x y H Q => (rI0 (fun i j => .int (i + j)) x y H Q) ∨ (∃ i j, x = .str i ∧ y = .str j ∧ i.length + j.length ≤ sizeLine ∧ Q (.str (i ++ j)) H) ∨ rCat x y H Q ∨ rCatA K x y H Q
theorem op_addAny {X : Cx} : OpR X (binaryOp .Add) (rAddAny X.K) := OpR.or op_add (OpR.or op_add_str (OpR.or op_cat op_catA))
theorem str_app_len (x y : Str) : (x ++ y).length = x.length + y.length := by
  show (Str.append x y).length = _
  simp [Str.append, Str.length]
theorem rd_add : RdOp K (rAddAny K) dAdd := by
  intro A F H S σ x y d e z Q k rx ry h post
  have id1 : ∀ v, Rp K F v z → Q v H := fun v r => post F H v (SameT.refl F) k r
  cases d <;> cases e <;> simp only [dAdd] at h <;> try cases h
  · cases rp_int_inv rx; cases rp_int_inv ry
    exact .inl ⟨_, _, rfl, rfl, id1 _ (.int _)⟩
  · split at h
    · rename_i hz
      cases h
      obtain ⟨rfl, _⟩ := rp_str_inv rx
      obtain ⟨rfl, _⟩ := rp_str_inv ry
      exact .inr (.inl ⟨_, _, rfl, rfl, hz, id1 _ (.str (by rw [str_app_len]; exact hz))⟩)
    · cases h
  · split at h
    · rename_i hz
      cases h
      obtain ⟨a, xs, rfl, h1, h2, _⟩ := rp_list_inv rx
      obtain ⟨b, ys, rfl, g1, g2, _⟩ := rp_list_inv ry
      refine .inr (.inr (.inl ⟨a, b, xs, ys, rfl, rfl, k.sub.same _ _ h1, k.sub.same _ _ g1, by rw [h2.length, g2.length]; exact hz, fun p hp => ?_⟩))
      obtain ⟨s1, k1, r1⟩ := k.newList hp (h2.append g2) (by rw [List.length_append]; exact hz)
      exact post _ _ _ s1 k1 r1
    · cases h
  · split at h
    · rename_i hz
      cases h
      obtain ⟨a, xs, rfl, h1, h2, _⟩ := rp_tup_inv rx
      obtain ⟨b, ys, rfl, g1, g2, _⟩ := rp_tup_inv ry
      refine .inr (.inr (.inr ⟨a, b, xs, ys, rfl, rfl, sqT_same k.sub.same.t h1, sqT_same k.sub.same.t g1, by rw [h2.length, g2.length]; exact hz, fun e => ?_, fun e1 e2 => ?_, fun e1 e2 p hp => ?_⟩))
      · subst e
        cases h2
        exact id1 _ (by simpa using ry)
      · subst e2
        cases g2
        exact id1 _ (by simpa using rx)
      · obtain ⟨s1, k1, r1⟩ := k.newTup hp (h2.append g2) (by rw [List.length_append]; exact hz)
        exact post _ _ _ s1 k1 r1
    · cases h

/-! ### other operators on ints -/
def dSub : D → D → Option D
  | .int i, .int j => some (.int (i - j))
  | _, _ => none
theorem rd_sub : RdOp K (rI0 fun i j => .int (i - j)) dSub := by
  intro A F H S σ x y d e z Q k rx ry h post
  cases d <;> cases e <;> simp only [dSub] at h <;> cases h
  cases rp_int_inv rx; cases rp_int_inv ry
  exact ⟨_, _, rfl, rfl, post F H _ (SameT.refl F) k (.int _)⟩
end
end Fu

set_option maxHeartbeats 4000000
namespace Fu
open PySem PySem.Spec PyProof.Rows L2
variable [TabsC]
section
variable {K : PySem.W.Frag}
/-! ### products, quotients, rests, powers -/
instance (i j : Int) : Decidable (CMulW i j) := inferInstanceAs (Decidable (_ < _))
instance (i j : Int) : Decidable (CDivW i j) := inferInstanceAs (Decidable (_ ∧ _))
instance (i j : Int) : Decidable (CPow i j) := inferInstanceAs (Decidable (_ ∧ _ ∧ _))
def dMul : D → D → Option D
  | .int i, .int j => if CMulW i j then some (.int (i * j)) else none
  | .list xs, .int k => if -(2 ^ 63) ≤ k ∧ k < 2 ^ 63 ∧ xs.length * k.toNat ≤ sizeLine then some (.list (List.replicate k.toNat xs).flatten) else none
  | _, _ => none
def rMulAny : R2 := fun x y H Q => rI CMulW (fun i j => .int (i * j)) x y H Q ∨ rRep x y H Q
theorem op_mulAny {X : Cx} : OpR X (binaryOp .Mult) rMulAny := OpR.or op_mulW op_rep
theorem rd_mul : RdOp K rMulAny dMul := by
  intro A F H S σ x y d e z Q k rx ry h post
  cases d <;> cases e <;> simp only [dMul] at h <;> try cases h
  · split at h
    · rename_i hz
      cases h
      cases rp_int_inv rx; cases rp_int_inv ry
      exact .inl ⟨_, _, rfl, rfl, hz, post F H _ (SameT.refl F) k (.int _)⟩
    · cases h
  · split at h
    · rename_i hz
      cases h
      obtain ⟨a, xs, rfl, h1, h2, _⟩ := rp_list_inv rx
      cases rp_int_inv ry
      refine .inr ⟨a, _, xs, rfl, rfl, k.sub.same _ _ h1, hz.1, hz.2.1, by rw [h2.length]; exact hz.2.2, fun p hp => ?_⟩
      obtain ⟨s1, k1, r1⟩ := k.newList hp (h2.rep _) (by rw [PyProof.Rows.lm_len_rep_flat, Nat.mul_comm]; exact hz.2.2)
      exact post _ _ _ s1 k1 r1
    · cases h
def dDiv : D → D → Option D
  | .int i, .int j => if CDivW i j then some (.int (i / j)) else none
  | _, _ => none
def dMod : D → D → Option D
  | .int i, .int j => if 0 < j then some (.int (i % j)) else none
  | _, _ => none
def dPow : D → D → Option D
  | .int i, .int j => if CPow i j then some (.int (i ^ j.toNat)) else none
  | _, _ => none
theorem rd_ii {C : Int → Int → Prop} [∀ i j, Decidable (C i j)] {f : Int → Int → Int} {g : D → D → Option D} (hg : ∀ d e z, g d e = some z → ∃ i j, d = .int i ∧ e = .int j ∧ C i j ∧ z = .int (f i j)) : RdOp K (rI C fun i j => .int (f i j)) g := by
  intro A F H S σ x y d e z Q k rx ry h post
  obtain ⟨i, j, rfl, rfl, c, rfl⟩ := hg d e z h
  cases rp_int_inv rx; cases rp_int_inv ry
  exact ⟨_, _, rfl, rfl, c, post F H _ (SameT.refl F) k (.int _)⟩
theorem rd_div : RdOp K (rI CDivW fun i j => .int (i / j)) dDiv := rd_ii fun d e z h => by
  cases d <;> cases e <;> simp only [dDiv] at h <;> try cases h
  split at h
  · cases h; exact ⟨_, _, rfl, rfl, by assumption, rfl⟩
  · cases h
theorem rd_mod : RdOp K (rI (fun _ j => 0 < j) fun i j => .int (i % j)) dMod := rd_ii fun d e z h => by
  cases d <;> cases e <;> simp only [dMod] at h <;> try cases h
  split at h
  · cases h; exact ⟨_, _, rfl, rfl, by assumption, rfl⟩
  · cases h
theorem rd_pow : RdOp K (rI CPow fun i j => .int (i ^ j.toNat)) dPow := rd_ii fun d e z h => by
  cases d <;> cases e <;> simp only [dPow] at h <;> try cases h
  split at h
  · cases h; exact ⟨_, _, rfl, rfl, by assumption, rfl⟩
  · cases h

/-! ### comparisons -/
def dCmp (p : Int → Int → Bool) : D → D → Option D
  | .int i, .int j => some (.bool (p i j))
  | _, _ => none
theorem rd_cmp (p : Int → Int → Bool) : RdOp K (rI0 fun i j => .bl (p i j)) (dCmp p) := by
  intro A F H S σ x y d e z Q k rx ry h post
  cases d <;> cases e <;> simp only [dCmp] at h <;> cases h
  cases rp_int_inv rx; cases rp_int_inv ry
  exact ⟨_, _, rfl, rfl, post F H _ (SameT.refl F) k (.bl _)⟩
def strEq : D → D → Option Bool
  | .str x, .str y => some (decide (x = y))
  | _, _ => none
def dEq (d e : D) : Option D := if SeqAt.shaped d = true ∧ SeqAt.shaped e = true then some (.bool (PyData.eqv d e)) else (strEq d e).map .bool
def dNe (d e : D) : Option D := if SeqAt.shaped d = true ∧ SeqAt.shaped e = true then some (.bool (!PyData.eqv d e)) else (strEq d e).map fun b => .bool (!b)
def rEqAny (K : PySem.W.Frag) : R2 := fun x y H Q => rEqD K x y H Q ∨ rEq x y H Q
def rNeAny (K : PySem.W.Frag) : R2 := fun x y H Q => rNeD K x y H Q ∨ rNe x y H Q
theorem op_eqAny {X : Cx} (hu : X.A.units + 64 < cLine) : OpR X (compareOp .Eq) (rEqAny X.K) := OpR.or (op_eqD hu) op_eq
theorem op_neAny {X : Cx} (hu : X.A.units + 64 < cLine) : OpR X (compareOp .NotEq) (rNeAny X.K) := OpR.or (op_neD hu) op_ne
theorem strEq_inv {d e : D} {b : Bool} (h : strEq d e = some b) : ∃ x y, d = .str x ∧ e = .str y ∧ b = decide (x = y) := by
  unfold strEq at h
  split at h
  · cases h; exact ⟨_, _, rfl, rfl, rfl⟩
  · cases h
theorem strV_eq (x y : Str) : decide (V.str x = V.str y) = decide (x = y) := by
  by_cases h : x = y
  · subst h; simp
  · rw [decide_eq_false h, decide_eq_false (fun z => h (by injection z))]
theorem Rp.dpH {F H : Hp} {v : V} {d : D} (s : SameT F H) (c : SeqAt.shaped d = true) (r : Rp K F v d) : Dp K H v d := Rp.dp _ _ (SeqAt.canLay_of_shaped c) (r.mono s _ _)
theorem rd_eq : RdOp K (rEqAny K) dEq := by
  intro A F H S σ x y d e z Q k rx ry h post
  unfold dEq at h
  split at h
  · rename_i c
    cases h
    exact .inl ⟨d, e, rx.dpH k.sub.same.t c.1, ry.dpH k.sub.same.t c.2, c.1, c.2, post F H _ (SameT.refl F) k (.bl _)⟩
  · obtain ⟨b, h1, rfl⟩ := Option.map_eq_some_iff.mp h
    obtain ⟨u, v, rfl, rfl, rfl⟩ := strEq_inv h1
    obtain ⟨rfl, _⟩ := rp_str_inv rx
    obtain ⟨rfl, _⟩ := rp_str_inv ry
    exact .inr ⟨rfl, post F H _ (SameT.refl F) k (by rw [strV_eq]; exact .bl _)⟩
theorem rd_ne : RdOp K (rNeAny K) dNe := by
  intro A F H S σ x y d e z Q k rx ry h post
  unfold dNe at h
  split at h
  · rename_i c
    cases h
    exact .inl ⟨d, e, rx.dpH k.sub.same.t c.1, ry.dpH k.sub.same.t c.2, c.1, c.2, post F H _ (SameT.refl F) k (.bl _)⟩
  · obtain ⟨b, h1, rfl⟩ := Option.map_eq_some_iff.mp h
    obtain ⟨u, v, rfl, rfl, rfl⟩ := strEq_inv h1
    obtain ⟨rfl, _⟩ := rp_str_inv rx
    obtain ⟨rfl, _⟩ := rp_str_inv ry
    exact .inr ⟨rfl, post F H _ (SameT.refl F) k (by rw [strV_eq]; exact .bl _)⟩
/-- in a list, in a tuple, in a text -/
def dIn : D → D → Option D
  | .str x, .str y => some (.bool (!(Builtin.Str.occurrences y x 0 y.length 1).isEmpty))
  | d, .list ds => if SeqAt.shaped d = true ∧ SeqAt.shaped (.list ds) = true then some (.bool (ds.any fun z => PyData.eqv z d)) else none
  | d, .tuple ds => if SeqAt.shaped d = true ∧ SeqAt.shaped (.tuple ds) = true then some (.bool (ds.any fun z => PyData.eqv z d)) else none
  | _, _ => none
def dNotIn : D → D → Option D
  | .str x, .str y => some (.bool (!(!(Builtin.Str.occurrences y x 0 y.length 1).isEmpty)))
  | d, .list ds => if SeqAt.shaped d = true ∧ SeqAt.shaped (.list ds) = true then some (.bool (!ds.any fun z => PyData.eqv z d)) else none
  | d, .tuple ds => if SeqAt.shaped d = true ∧ SeqAt.shaped (.tuple ds) = true then some (.bool (!ds.any fun z => PyData.eqv z d)) else none
  | _, _ => none
def rInT (K : PySem.W.Frag) : R2 := fun x y H Q => ∃ d ds, Dp K H x d ∧ Dp K H y (.tuple ds) ∧ SeqAt.shaped d = true ∧ SeqAt.shaped (.tuple ds) = true ∧ Q (.bl (ds.any fun z => PyData.eqv z d)) H
def rNotInT (K : PySem.W.Frag) : R2 := fun x y H Q => ∃ d ds, Dp K H x d ∧ Dp K H y (.tuple ds) ∧ SeqAt.shaped d = true ∧ SeqAt.shaped (.tuple ds) = true ∧ Q (.bl (!ds.any fun z => PyData.eqv z d)) H
theorem op_inT {X : Cx} (hu : X.A.units + 65 < cLine) : OpR X (compareOp .In) (rInT X.K) := by
  intro pins s σ H x y v u Q I rx ry h
  obtain ⟨d, ds, hd, he, sd, se, q⟩ := h
  obtain ⟨as, r1⟩ := Dp.reads I d x v hd rx
  obtain ⟨bs, r2⟩ := Dp.reads I (.tuple ds) y u he ry
  exact SeqAt.in_tuple_reads r2 r1 (SeqAt.canLay_of_shaped se) (SeqAt.canLay_of_shaped sd) (room_in_shaped (xs := ds) sd hu) ⟨.bl _, H, I, rfl, q⟩
theorem op_notInT {X : Cx} (hu : X.A.units + 65 < cLine) : OpR X (compareOp .NotIn) (rNotInT X.K) := by
  intro pins s σ H x y v u Q I rx ry h
  obtain ⟨d, ds, hd, he, sd, se, q⟩ := h
  obtain ⟨as, r1⟩ := Dp.reads I d x v hd rx
  obtain ⟨bs, r2⟩ := Dp.reads I (.tuple ds) y u he ry
  exact SeqAt.notIn_tuple_reads r2 r1 (SeqAt.canLay_of_shaped se) (SeqAt.canLay_of_shaped sd) (room_in_shaped (xs := ds) sd hu) ⟨.bl _, H, I, rfl, q⟩
def rInAny (K : PySem.W.Frag) : R2 := fun x y H Q => (∃ i j, x = .str i ∧ y = .str j ∧ Q (.bl (!(Builtin.Str.occurrences j i 0 j.length 1).isEmpty)) H) ∨ rInD K x y H Q ∨ rInT K x y H Q
def rNotInAny (K : PySem.W.Frag) : R2 := fun x y H Q => (∃ i j, x = .str i ∧ y = .str j ∧ Q (.bl (!(!(Builtin.Str.occurrences j i 0 j.length 1).isEmpty))) H) ∨ rNotInD K x y H Q ∨ rNotInT K x y H Q
theorem op_inAny {X : Cx} (hu : X.A.units + 65 < cLine) : OpR X (compareOp .In) (rInAny X.K) := OpR.or op_in_str (OpR.or (op_inD hu) (op_inT hu))
theorem op_notInAny {X : Cx} (hu : X.A.units + 65 < cLine) : OpR X (compareOp .NotIn) (rNotInAny X.K) := OpR.or op_notin_str (OpR.or (op_notInD hu) (op_notInT hu))
theorem rd_in : RdOp K (rInAny K) dIn := by
  intro A F H S σ x y d e z Q k rx ry h post
  have fin : ∀ b, z = .bool b → Q (.bl b) H := fun b e => by subst e; exact post F H _ (SameT.refl F) k (.bl _)
  unfold dIn at h
  split at h
  · cases h
    obtain ⟨rfl, _⟩ := rp_str_inv rx
    obtain ⟨rfl, _⟩ := rp_str_inv ry
    exact .inl ⟨_, _, rfl, rfl, fin _ rfl⟩
  · split at h
    · rename_i c
      cases h
      exact .inr (.inl ⟨_, _, rx.dpH k.sub.same.t c.1, ry.dpH k.sub.same.t c.2, c.1, c.2, fin _ rfl⟩)
    · cases h
  · split at h
    · rename_i c
      cases h
      exact .inr (.inr ⟨_, _, rx.dpH k.sub.same.t c.1, ry.dpH k.sub.same.t c.2, c.1, c.2, fin _ rfl⟩)
    · cases h
  · cases h
theorem rd_notIn : RdOp K (rNotInAny K) dNotIn := by
  intro A F H S σ x y d e z Q k rx ry h post
  have fin : ∀ b, z = .bool b → Q (.bl b) H := fun b e => by subst e; exact post F H _ (SameT.refl F) k (.bl _)
  unfold dNotIn at h
  split at h
  · cases h
    obtain ⟨rfl, _⟩ := rp_str_inv rx
    obtain ⟨rfl, _⟩ := rp_str_inv ry
    exact .inl ⟨_, _, rfl, rfl, fin _ rfl⟩
  · split at h
    · rename_i c
      cases h
      exact .inr (.inl ⟨_, _, rx.dpH k.sub.same.t c.1, ry.dpH k.sub.same.t c.2, c.1, c.2, fin _ rfl⟩)
    · cases h
  · split at h
    · rename_i c
      cases h
      exact .inr (.inr ⟨_, _, rx.dpH k.sub.same.t c.1, ry.dpH k.sub.same.t c.2, c.1, c.2, fin _ rfl⟩)
    · cases h
  · cases h
def dIsNot : D → D → Option D
  | .bool a, .bool b => some (.bool (!decide (a = b)))
  | .none, .none => some (.bool false)
  | _, .none => some (.bool true)
  | _, _ => none
def rIsNotAny : R2 := fun x y H Q => rNotB x y H Q ∨ (y = .non ∧ Q (.bl (!decide (x = .non))) H)
theorem op_isNotAny {X : Cx} : OpR X (compareOp .IsNot) rIsNotAny := OpR.or op_notBl op_notN
theorem rp_ne_non {F : Hp} {v : V} {d : D} (r : Rp K F v d) (h : d = .none → False) : decide (v = V.non) = false := by
  cases r <;> first | exact (h rfl).elim | simp
theorem rd_isNot : RdOp K rIsNotAny dIsNot := by
  intro A F H S σ x y d e z Q k rx ry h post
  have fin : ∀ b, z = .bool b → Q (.bl b) H := fun b e => by subst e; exact post F H _ (SameT.refl F) k (.bl _)
  unfold dIsNot at h
  split at h
  · cases h
    cases rp_bool_inv rx; cases rp_bool_inv ry
    exact .inl ⟨_, _, rfl, rfl, fin _ rfl⟩
  · cases h
    cases rx; cases ry
    exact .inr ⟨rfl, fin _ rfl⟩
  · cases h
    rename_i hne
    cases ry
    refine .inr ⟨rfl, fin _ ?_⟩
    rw [rp_ne_non rx hne]; rfl
  · cases h
end

/-! ### the expressions' rules by operators -/
section
variable {X : Cx} {pos : Pos} {a b c : Expr} {ga gb gc : M D}
theorem e_add (ha : GE X a ga) (hb : GE X b gb) : GE X (.BinOp a .Add b pos) (gBin dAdd ga gb) := e_op op_addAny rd_add ha hb
theorem e_sub (ha : GE X a ga) (hb : GE X b gb) : GE X (.BinOp a .Sub b pos) (gBin dSub ga gb) := e_op op_sub rd_sub ha hb
theorem e_mul (ha : GE X a ga) (hb : GE X b gb) : GE X (.BinOp a .Mult b pos) (gBin dMul ga gb) := e_op op_mulAny rd_mul ha hb
theorem e_div (ha : GE X a ga) (hb : GE X b gb) : GE X (.BinOp a .FloorDiv b pos) (gBin dDiv ga gb) := e_op op_fdivW rd_div ha hb
theorem e_mod (ha : GE X a ga) (hb : GE X b gb) : GE X (.BinOp a .Mod b pos) (gBin dMod ga gb) := e_op op_mod rd_mod ha hb
theorem e_pow (ha : GE X a ga) (hb : GE X b gb) : GE X (.BinOp a .Pow b pos) (gBin dPow ga gb) := e_op op_pow rd_pow ha hb
abbrev dLt := dCmp fun i j => decide (i < j)
abbrev dLe := dCmp fun i j => decide (i ≤ j)
abbrev dGt := dCmp fun i j => decide (j < i)
abbrev dGe := dCmp fun i j => decide (j ≤ i)
theorem e_gt (ha : GE X a ga) (hb : GE X b gb) : GE X (.Compare a [.Gt] [b] pos) (gBin dGt ga gb) := e_cmpR op_gt (rd_cmp _) (nomark _) ha hb
theorem e_ge (ha : GE X a ga) (hb : GE X b gb) : GE X (.Compare a [.GtE] [b] pos) (gBin dGe ga gb) := e_cmpR op_ge (rd_cmp _) (nomark _) ha hb
theorem e_eq (hu : X.A.units + 64 < cLine) (ha : GE X a ga) (hb : GE X b gb) : GE X (.Compare a [.Eq] [b] pos) (gBin dEq ga gb) := e_cmpR (op_eqAny hu) rd_eq (nomark _) ha hb
theorem e_in (hu : X.A.units + 65 < cLine) (ha : GE X a ga) (hb : GE X b gb) (hm : behindInMarks .In b = false := by rfl) : GE X (.Compare a [.In] [b] pos) (gBin dIn ga gb) := e_cmpR (op_inAny hu) rd_in hm ha hb
theorem t_gt (ha : GE X a ga) (hb : GE X b gb) : GT X (.Compare a [.Gt] [b] pos) (gB (gBin dGt ga gb)) := t_cmpR op_gt (rd_cmp _) (nomark _) ha hb
theorem t_ge (ha : GE X a ga) (hb : GE X b gb) : GT X (.Compare a [.GtE] [b] pos) (gB (gBin dGe ga gb)) := t_cmpR op_ge (rd_cmp _) (nomark _) ha hb
theorem t_eq (hu : X.A.units + 64 < cLine) (ha : GE X a ga) (hb : GE X b gb) : GT X (.Compare a [.Eq] [b] pos) (gB (gBin dEq ga gb)) := t_cmpR (op_eqAny hu) rd_eq (nomark _) ha hb
theorem t_ne (hu : X.A.units + 64 < cLine) (ha : GE X a ga) (hb : GE X b gb) : GT X (.Compare a [.NotEq] [b] pos) (gB (gBin dNe ga gb)) := t_cmpR (op_neAny hu) rd_ne (nomark _) ha hb
theorem t_notIn (hu : X.A.units + 65 < cLine) (ha : GE X a ga) (hb : GE X b gb) (hm : behindInMarks .NotIn b = false := by rfl) : GT X (.Compare a [.NotIn] [b] pos) (gB (gBin dNotIn ga gb)) := t_cmpR (op_notInAny hu) rd_notIn hm ha hb
theorem t_isNot (ha : GE X a ga) (hb : GE X b gb) : GT X (.Compare a [.IsNot] [b] pos) (gB (gBin dIsNot ga gb)) := t_cmpR op_isNotAny rd_isNot (nomark _) ha hb

/-! ### and, or, not, if -/
def gAnd (g h : M Bool) : M Bool := fun S => (g S).bind fun p => if p.1 = true then h p.2 else some (false, p.2)
def gOr (g h : M Bool) : M Bool := fun S => (g S).bind fun p => if p.1 = true then some (true, p.2) else h p.2
def gNot (g : M Bool) : M Bool := fun S => (g S).bind fun p => some (!p.1, p.2)
def gIf (t : M Bool) (g h : M D) : M D := fun S => (t S).bind fun p => if p.1 = true then g p.2 else h p.2
variable {rest : List Expr} {g h : M Bool}
theorem w_and1 (ha : GT X a g) : GW X (.BoolOp .And [a] pos) g := let ⟨_, pa, ra⟩ := ha.ex; ⟨_, pw_and1 pa, ra⟩
theorem w_or1 (ha : GT X a g) : GW X (.BoolOp .Or [a] pos) g := let ⟨_, pa, ra⟩ := ha.ex; ⟨_, pw_or1 pa, ra⟩
theorem rd_and {K : PySem.W.Frag} {t u : TT} (ha : RdT K t g) (hb : RdT K u h) : RdT K (tAnd t u) (gAnd g h) := by
  intro A F H S σ d S' Q k e post
  obtain ⟨⟨x, S1⟩, h1, e⟩ := bind_inv e
  refine ha A F H S σ x S1 _ k h1 fun A1 F1 H1 p1 s1 k1 => ?_
  cases x with
  | true => exact hb A1 F1 H1 S1 σ d S' Q k1 e fun A2 F2 H2 p2 s2 k2 => post A2 F2 H2 (p1.trans p2) (s1.trans s2) k2
  | false =>
    cases e
    exact post A1 F1 H1 p1 s1 k1
theorem rd_or {K : PySem.W.Frag} {t u : TT} (ha : RdT K t g) (hb : RdT K u h) : RdT K (tOr t u) (gOr g h) := by
  intro A F H S σ d S' Q k e post
  obtain ⟨⟨x, S1⟩, h1, e⟩ := bind_inv e
  refine ha A F H S σ x S1 _ k h1 fun A1 F1 H1 p1 s1 k1 => ?_
  cases x with
  | false => exact hb A1 F1 H1 S1 σ d S' Q k1 e fun A2 F2 H2 p2 s2 k2 => post A2 F2 H2 (p1.trans p2) (s1.trans s2) k2
  | true =>
    cases e
    exact post A1 F1 H1 p1 s1 k1
theorem w_and (ha : GT X a g) (hb : GW X (.BoolOp .And (b :: rest) pos) h) : GW X (.BoolOp .And (a :: b :: rest) pos) (gAnd g h) :=
  let ⟨_, pa, ra⟩ := ha.ex; let ⟨_, pb, rb⟩ := hb.ex; ⟨_, pw_and pa pb, rd_and ra rb⟩
theorem w_or (ha : GT X a g) (hb : GW X (.BoolOp .Or (b :: rest) pos) h) : GW X (.BoolOp .Or (a :: b :: rest) pos) (gOr g h) :=
  let ⟨_, pa, ra⟩ := ha.ex; let ⟨_, pb, rb⟩ := hb.ex; ⟨_, pw_or pa pb, rd_or ra rb⟩
theorem t_w {e : Expr} (hw : GW X e g) : GT X e g := let ⟨_, pa, ra⟩ := hw.ex; ⟨_, pa.pt, ra⟩
theorem t_not (ha : GT X a g) : GT X (.UnaryOp .Not a pos) (gNot g) := by
  obtain ⟨t, pa, ra⟩ := ha.ex
  refine ⟨_, pt_not pa, fun A F H S σ d S' Q k e post => ?_⟩
  obtain ⟨⟨x, S1⟩, h1, e⟩ := bind_inv e
  cases e
  exact ra A F H S σ x _ _ k h1 post
/-- as values -/
def gAndV (g h : M D) : M D := fun S => (g S).bind fun p => match p.1 with
  | .bool true => h p.2
  | .bool false => some (.bool false, p.2)
  | _ => none
def gOrV (g h : M D) : M D := fun S => (g S).bind fun p => match p.1 with
  | .bool true => some (.bool true, p.2)
  | .bool false => h p.2
  | _ => none
def gNotV (g : M D) : M D := fun S => (g S).bind fun p => match p.1 with
  | .bool b => some (.bool (!b), p.2)
  | _ => none
theorem e_one {op} (ha : GE X a ga) : GE X (.BoolOp op [a] pos) ga := let ⟨_, pa, ra⟩ := ha.ex; ⟨_, pe_one pa, ra⟩
theorem e_and (ha : GE X a ga) (hb : GE X (.BoolOp .And (b :: rest) pos) gb) : GE X (.BoolOp .And (a :: b :: rest) pos) (gAndV ga gb) := by
  obtain ⟨t, pa, ra⟩ := ha.ex
  obtain ⟨u, pb, rb⟩ := hb.ex
  refine ⟨_, pe_and pa pb, fun A F H S σ d S' Q k e post => ?_⟩
  obtain ⟨⟨x, S1⟩, h1, e⟩ := bind_inv e
  refine ra A F H S σ x S1 _ k h1 fun A1 F1 H1 v p1 s1 k1 r1 => ?_
  cases x <;> simp only at e <;> try cases e
  rename_i y
  cases rp_bool_inv r1
  refine ⟨y, rfl, ?_⟩
  cases y with
  | true => exact rb A1 F1 H1 S1 σ d S' Q k1 e fun A2 F2 H2 v p2 s2 k2 => post A2 F2 H2 v (p1.trans p2) (s1.trans s2) k2
  | false =>
    cases e
    exact post A1 F1 H1 _ p1 s1 k1 (.bl _)
theorem e_not (ha : GE X a ga) : GE X (.UnaryOp .Not a pos) (gNotV ga) := by
  obtain ⟨t, pa, ra⟩ := ha.ex
  refine ⟨_, pe_not pa, fun A F H S σ d S' Q k e post => ?_⟩
  obtain ⟨⟨x, S1⟩, h1, e⟩ := bind_inv e
  refine ra A F H S σ x S1 _ k h1 fun A1 F1 H1 v p1 s1 k1 r1 => ?_
  cases x <;> simp only at e <;> try cases e
  cases rp_bool_inv r1
  exact ⟨_, rfl, post A1 F1 H1 _ p1 s1 k1 (.bl _)⟩
theorem e_if (hc : GT X c g) (ha : GE X a ga) (hb : GE X b gb) : GE X (.IfExp c a b pos) (gIf g ga gb) := by
  obtain ⟨t, pc, rc⟩ := hc.ex
  obtain ⟨_, pa, ra⟩ := ha.ex
  obtain ⟨_, pb, rb⟩ := hb.ex
  refine ⟨_, pe_ifExp pc pa pb, fun A F H S σ d S' Q k e post => ?_⟩
  obtain ⟨⟨x, S1⟩, h1, e⟩ := bind_inv e
  refine rc A F H S σ x S1 _ k h1 fun A1 F1 H1 p1 s1 k1 => ?_
  cases x with
  | true => exact ra A1 F1 H1 S1 σ d S' Q k1 e fun A2 F2 H2 v p2 s2 k2 => post A2 F2 H2 v (p1.trans p2) (s1.trans s2) k2
  | false => exact rb A1 F1 H1 S1 σ d S' Q k1 e fun A2 F2 H2 v p2 s2 k2 => post A2 F2 H2 v (p1.trans p2) (s1.trans s2) k2
def gUn (f : D → Option D) (g : M D) : M D := fun S => (g S).bind fun p => (f p.1).bind fun z => some (z, p.2)
def dNeg : D → Option D
  | .int i => some (.int (-i))
  | _ => none
theorem e_neg (ha : GE X a ga) : GE X (.UnaryOp .USub a pos) (gUn dNeg ga) := by
  obtain ⟨t, pa, ra⟩ := ha.ex
  refine ⟨_, pe_un un_neg pa, fun A F H S σ d S' Q k e post => ?_⟩
  obtain ⟨⟨x, S1⟩, h1, e⟩ := bind_inv e
  obtain ⟨z, h2, e⟩ := bind_inv e
  cases e
  refine ra A F H S σ x _ _ k h1 fun A1 F1 H1 v p1 s1 k1 r1 => ?_
  cases x <;> simp only [dNeg] at h2 <;> cases h2
  cases rp_int_inv r1
  exact ⟨_, rfl, post A1 F1 H1 _ p1 s1 k1 (.int _)⟩

/-! ### arguments, displays -/
def gNil : M (List D) := fun S => some ([], S)
def gCons (g : M D) (gs : M (List D)) : M (List D) := fun S => (g S).bind fun p => (gs p.2).bind fun q => some (p.1 :: q.1, q.2)
variable {e : Expr} {es : List Expr} {ge : M D} {gs : M (List D)}
theorem a_nil : GA X [] gNil := ⟨_, pa_nil, fun A F H S σ d S' Q k e post => by cases e; exact post A F H _ (List.prefix_refl _) (SameT.refl F) k .nil⟩
theorem a_cons (ha : GE X e ge) (hs : GA X es gs) (hst : starEach (e :: es) X.env = (false, eval e X.env) :: starEach es X.env := by rfl) : GA X (e :: es) (gCons ge gs) := by
  obtain ⟨t, pa, ra⟩ := ha.ex
  obtain ⟨u, pb, rb⟩ := hs.ex
  refine ⟨_, pa_cons pa pb hst, fun A F H S σ d S' Q k e post => ?_⟩
  obtain ⟨⟨x, S1⟩, h1, e⟩ := bind_inv e
  obtain ⟨⟨y, S2⟩, h2, e⟩ := bind_inv e
  cases e
  refine ra A F H S σ x S1 _ k h1 fun A1 F1 H1 v p1 s1 k1 r1 => rb A1 F1 H1 S1 σ y S2 _ k1 h2 fun A2 F2 H2 vs p2 s2 k2 r2 => ?_
  exact post A2 F2 H2 _ (p1.trans p2) (s1.trans s2) k2 (.cons (r1.mono s2 _ _) r2)
def gTup (g : M (List D)) : M D := fun S => (g S).bind fun p => if p.1.length ≤ sizeLine then some (.tuple p.1, p.2) else none
def gLst (g : M (List D)) : M D := fun S => (g S).bind fun p => if p.1.length ≤ sizeLine then some (.list p.1, p.2) else none
theorem e_tup {x1} (hs : GA X es gs) : GE X (.Tuple es x1 pos) (gTup gs) := by
  obtain ⟨u, pb, rb⟩ := hs.ex
  refine ⟨_, pe_tup pb, fun A F H S σ d S' Q k e post => ?_⟩
  obtain ⟨⟨x, S1⟩, h1, e⟩ := bind_inv e
  simp only at e
  split at e
  · rename_i hz
    cases e
    refine rb A F H S σ x _ _ k h1 fun A1 F1 H1 vs p1 s1 k1 r1 => ⟨by rw [r1.length]; exact hz, fun p hp => ?_⟩
    obtain ⟨s2, k2, r2⟩ := k1.newTup hp r1 hz
    exact post A1 _ _ _ p1 (s1.trans s2) k2 r2
  · cases e
theorem e_lst (hs : GA X es gs) : GE X (.List es pos) (gLst gs) := by
  obtain ⟨u, pb, rb⟩ := hs.ex
  refine ⟨_, pe_lst pb, fun A F H S σ d S' Q k e post => ?_⟩
  obtain ⟨⟨x, S1⟩, h1, e⟩ := bind_inv e
  simp only at e
  split at e
  · rename_i hz
    cases e
    refine rb A F H S σ x _ _ k h1 fun A1 F1 H1 vs p1 s1 k1 r1 => ⟨by rw [r1.length]; exact hz, fun p hp => ?_⟩
    obtain ⟨s2, k2, r2⟩ := k1.newList hp r1 hz
    exact post A1 _ _ _ p1 (s1.trans s2) k2 r2
  · cases e

/-! ### items, slices -/
def dIx : D → D → Option D
  | .list xs, .int i => atI xs i
  | .tuple xs, .int i => atI xs i
  | .str z, .int i => (atI z.cps.toList i).bind fun c => some (.str ⟨#[c]⟩)
  | _, _ => none
theorem rps_atI {K : PySem.W.Frag} {F : Hp} {vs : List V} {ds : List D} {i : Int} {d : D} (r : Rps K F vs ds) (h : atI ds i = some d) : ∃ v, atI vs i = some v ∧ Rp K F v d := by
  unfold atI at h ⊢
  rw [r.length]
  obtain ⟨j, h1, h2⟩ := bind_inv h
  rw [h1]
  exact r.get h2
def rIxAny (K : PySem.W.Frag) : R2 := fun x y H Q => rIxL K x y H Q ∨ rIxT K x y H Q ∨ rIxS x y H Q
theorem ix_any : IxR X (rIxAny X.K) := IxR.or ix_list (IxR.or ix_tup ix_str)
theorem one_len (c : Nat) : (⟨#[c]⟩ : Str).length ≤ sizeLine := by
  show 1 ≤ sizeLine
  decide
theorem rd_ix {K : PySem.W.Frag} : RdOp K (rIxAny K) dIx := by
  intro A F H S σ x y d e z Q k rx ry h post
  unfold dIx at h
  split at h
  · obtain ⟨a, xs, rfl, h1, h2, _⟩ := rp_list_inv rx
    cases rp_int_inv ry
    obtain ⟨v, e1, r⟩ := rps_atI h2 h
    exact .inl ⟨a, xs, _, v, rfl, rfl, SqL.of (k.sub.same _ _ h1), e1, post F H _ (SameT.refl F) k r⟩
  · obtain ⟨a, xs, rfl, h1, h2, _⟩ := rp_tup_inv rx
    cases rp_int_inv ry
    obtain ⟨v, e1, r⟩ := rps_atI h2 h
    exact .inr (.inl ⟨a, xs, _, v, rfl, rfl, sqT_same k.sub.same.t h1, e1, post F H _ (SameT.refl F) k r⟩)
  · obtain ⟨rfl, hz⟩ := rp_str_inv rx
    cases rp_int_inv ry
    obtain ⟨c, h1, h2⟩ := bind_inv h
    cases h2
    exact .inr (.inr ⟨_, _, c, rfl, rfl, hz, h1, post F H _ (SameT.refl F) k (.str (one_len c))⟩)
  · cases h
theorem e_ix (ha : GE X a ga) (hb : GE X b gb) (hs : PlainIx b := by exact fun _ _ => rfl) : GE X (.Subscript a b pos) (gBin dIx ga gb) := by
  obtain ⟨t, pa, ra⟩ := ha.ex
  obtain ⟨u, pb, rb⟩ := hb.ex
  exact ⟨_, pe_ix ix_any pa pb hs, rd_op rd_ix ra rb⟩
/-- a slice's part -/
structure GO (X : Cx) (e : Option Expr) (g : M (Option Int)) : Prop where
  ex : ∃ t, PO X e t ∧ ∀ A F H S σ o S' (Q : Option Int → Hp → Prop), Ok X.K A F H S σ → g S = some (o, S') → (∀ A' F' H', A <+: A' → SameT F F' → Ok X.K A' F' H' S' σ → Q o H') → t σ H Q
def gNo : M (Option Int) := fun S => some (none, S)
def gSo (g : M D) : M (Option Int) := fun S => (g S).bind fun p => match p.1 with
  | .int i => some (some i, p.2)
  | _ => none
theorem o_none : GO X none gNo := ⟨_, po_none, fun A F H S σ o S' Q k e post => by cases e; exact post A F H (List.prefix_refl _) (SameT.refl F) k⟩
theorem o_some (ha : GE X a ga) : GO X (some a) (gSo ga) := by
  obtain ⟨t, pa, ra⟩ := ha.ex
  refine ⟨_, po_some pa, fun A F H S σ o S' Q k e post => ?_⟩
  obtain ⟨⟨x, S1⟩, h1, e⟩ := bind_inv e
  refine ra A F H S σ x _ _ k h1 fun A1 F1 H1 v p1 s1 k1 r1 => ?_
  cases x <;> simp only at e <;> cases e
  cases rp_int_inv r1
  exact ⟨_, rfl, post A1 F1 H1 p1 s1 k1⟩
def cutL {α : Type} (xs : List α) (lo hi : Option Int) : List α := (xs.drop (HT.sIx xs.length 0 lo)).take (HT.sIx xs.length xs.length hi - HT.sIx xs.length 0 lo)
theorem cutL_le {α : Type} (xs : List α) (lo hi : Option Int) : (cutL xs lo hi).length ≤ xs.length := by
  unfold cutL
  rw [List.length_take, List.length_drop]
  omega
def dSl : D → Option Int → Option Int → Option D
  | .list xs, lo, hi => some (.list (cutL xs lo hi))
  | .tuple xs, lo, hi => some (.tuple (cutL xs lo hi))
  | .str z, lo, hi => some (.str (cutS z lo hi))
  | _, _, _ => none
def gSl (g : M D) (gl gh : M (Option Int)) : M D := fun S => (g S).bind fun p => (gl p.2).bind fun q => (gh q.2).bind fun r => (dSl p.1 q.1 r.1).bind fun z => some (z, r.2)
def rSlAny (K : PySem.W.Frag) : V → Option Int → Option Int → Hp → VK → Prop := fun x lo hi H Q => rSlL K x lo hi H Q ∨ rSlA K x lo hi H Q ∨ rSlS x lo hi H Q
theorem sl_any : SlR X (rSlAny X.K) := SlR.or sl_list (SlR.or sl_tupA sl_str)
theorem rps_cut {K : PySem.W.Frag} {F : Hp} {vs : List V} {ds : List D} (r : Rps K F vs ds) (lo hi : Option Int) : Rps K F (cutV vs lo hi) (cutL ds lo hi) := by
  unfold cutV cutL
  rw [r.length]
  exact (r.drop _).take _
theorem rd_sl {K : PySem.W.Frag} {A : List Addr} {F H : Hp} {S : Sx} {σ : L2.St} {x : V} {d z : D} {lo hi : Option Int} {Q : VK} (k : Ok K A F H S σ) (rx : Rp K F x d) (h : dSl d lo hi = some z)
    (post : ∀ F' H' v, SameT F F' → Ok K A F' H' S σ → Rp K F' v z → Q v H') : rSlAny K x lo hi H Q := by
  cases d <;> simp only [dSl] at h <;> cases h
  · obtain ⟨rfl, hz⟩ := rp_str_inv rx
    exact .inr (.inr ⟨_, rfl, hz, post F H _ (SameT.refl F) k (.str (Nat.le_trans (cutS_length _ _ _) hz))⟩)
  · obtain ⟨a, xs, rfl, h1, h2, h3⟩ := rp_list_inv rx
    refine .inl ⟨a, xs, rfl, SqL.of (k.sub.same _ _ h1), fun p hp => ?_⟩
    obtain ⟨s1, k1, r1⟩ := k.newList hp (rps_cut h2 lo hi) (Nat.le_trans (cutL_le _ _ _) h3)
    exact post _ _ _ s1 k1 r1
  · obtain ⟨a, xs, rfl, h1, h2, h3⟩ := rp_tup_inv rx
    refine .inr (.inl ⟨a, xs, rfl, sqT_same k.sub.same.t h1, fun hw => ?_, fun _ p hp => ?_⟩)
    · refine post F H _ (SameT.refl F) k ?_
      rename_i ds
      have : cutL ds lo hi = ds := by
        unfold cutL
        rw [← h2.length, hw.1, hw.2, h2.length]
        simp
      rw [this]
      exact rx
    · obtain ⟨s1, k1, r1⟩ := k.newTup hp (rps_cut h2 lo hi) (Nat.le_trans (cutL_le _ _ _) h3)
      exact post _ _ _ s1 k1 r1
theorem e_sl {lo hi : Option Expr} {p2 : Pos} {gl gh : M (Option Int)} (ha : GE X a ga) (hl : GO X lo gl) (hh : GO X hi gh) : GE X (.Subscript a (.Slice lo hi none p2) pos) (gSl ga gl gh) := by
  obtain ⟨t, pa, ra⟩ := ha.ex
  obtain ⟨_, pl, rl⟩ := hl.ex
  obtain ⟨_, ph, rh⟩ := hh.ex
  refine ⟨_, pe_slice sl_any pa pl ph, fun A F H S σ d S' Q k e post => ?_⟩
  obtain ⟨⟨x, S1⟩, h1, e⟩ := bind_inv e
  obtain ⟨⟨l, S2⟩, h2, e⟩ := bind_inv e
  obtain ⟨⟨u, S3⟩, h3, e⟩ := bind_inv e
  obtain ⟨z, h4, e⟩ := bind_inv e
  cases e
  refine ra A F H S σ x _ _ k h1 fun A1 F1 H1 v p1 s1 k1 r1 => rl A1 F1 H1 _ σ l _ _ k1 h2 fun A2 F2 H2 p2 s2 k2 => rh A2 F2 H2 _ σ u _ _ k2 h3 fun A3 F3 H3 p3 s3 k3 => ?_
  exact rd_sl k3 ((r1.mono s2 _ _).mono s3 _ _) h4 fun F4 H4 w s4 k4 r4 => post A3 F4 H4 w (p1.trans (p2.trans p3)) (s1.trans (s2.trans (s3.trans s4))) k4 r4
end
end Fu

set_option maxHeartbeats 4000000
namespace Fu
open PySem PySem.Spec PyProof.Rows L2
variable [TabsC]

/-! ### calls of built-ins by name -/
def RdC (K : PySem.W.Frag) (r : List V → Hp → VK → Prop) (f : List D → Option D) : Prop := ∀ A F H S σ xs ds z Q, Ok K A F H S σ → Rps K F xs ds → f ds = some z →
  (∀ F' H' v, SameT F F' → Ok K A F' H' S σ → Rp K F' v z → Q v H') → r xs H Q
def gCall (f : List D → Option D) (g : M (List D)) : M D := fun S => (g S).bind fun p => (f p.1).bind fun z => some (z, p.2)
section
variable {X : Cx} {pos p p2 : Pos} {x : Str} {e : Expr} {es : List Expr} {gs : M (List D)} {r : List V → Hp → VK → Prop} {f : List D → Option D} {id T : String}
theorem rd_callB {K : PySem.W.Frag} {t : TA} (hf : RdC K r f) (rs : RdA K t gs) : RdE K (tCB r t) (gCall f gs) := by
  intro A F H S σ d S' Q k h post
  obtain ⟨⟨ds, S1⟩, h1, h⟩ := bind_inv h
  obtain ⟨z, h2, h⟩ := bind_inv h
  cases h
  exact rs A F H S σ ds _ _ k h1 fun A1 F1 H1 vs p1 s1 k1 r1 => hf A1 F1 H1 _ σ vs ds _ Q k1 r1 h2 fun F2 H2 v s2 k2 r2 => post A1 F2 H2 v p1 (s1.trans s2) k2 r2
theorem e_callB (hc : CallR X (.builtin id) r) (hf : RdC X.K r f) (hm : X.mg x = none) (hv : bootBuiltins x = some (.builtin id)) (ha : GA X (e :: es) gs) (hg : Gl X x := by rfl) (hn : x ≠ "__name__" := by decide) (hdb : (x == ("__debug__" : Str)) = false := by decide)
    (he : starEach (e :: es) X.env = (false, eval e X.env) :: starEach es X.env := by rfl) (hpl : (backTo pos (starEach es X.env)).any (·.1) = false := by rfl) : GE X (.Call (.Name x p) (e :: es) [] pos) (gCall f gs) :=
  let ⟨_, pa, ra⟩ := ha.ex; ⟨_, pe_callB hc hg hm hv pa hn hdb he hpl, rd_callB hf ra⟩
theorem e_callTy (hc : CallR X (.type T) r) (hf : RdC X.K r f) (hm : X.mg x = none) (hv : bootBuiltins x = some (.type T)) (ha : GA X (e :: es) gs) (hg : Gl X x := by rfl) (hn : x ≠ "__name__" := by decide) (hdb : (x == ("__debug__" : Str)) = false := by decide)
    (he : starEach (e :: es) X.env = (false, eval e X.env) :: starEach es X.env := by rfl) (hpl : (backTo pos (starEach es X.env)).any (·.1) = false := by rfl) : GE X (.Call (.Name x p) (e :: es) [] pos) (gCall f gs) :=
  let ⟨_, pa, ra⟩ := ha.ex; ⟨_, pe_callTy hc hg hm hv pa hn hdb he hpl, rd_callB hf ra⟩
end

section
variable {K : PySem.W.Frag}
theorem rps1 {F : Hp} {vs : List V} {d : D} (r : Rps K F vs [d]) : ∃ v, vs = [v] ∧ Rp K F v d := by
  cases r with
  | cons h1 h2 => cases h2; exact ⟨_, rfl, h1⟩
theorem rps2 {F : Hp} {vs : List V} {d e : D} (r : Rps K F vs [d, e]) : ∃ v u, vs = [v, u] ∧ Rp K F v d ∧ Rp K F u e := by
  cases r with
  | cons h1 h2 => cases h2 with
    | cons h3 h4 => cases h4; exact ⟨_, _, rfl, h1, h3⟩
def dLen : List D → Option D
  | [.list xs] => some (.int xs.length)
  | [.tuple xs] => some (.int xs.length)
  | [.str x] => some (.int x.length)
  | _ => none
theorem rd_len : RdC K (fun xs H Q => ∃ x n, xs = [x] ∧ LenV K x H n ∧ Q (.int n) H) dLen := by
  intro A F H S σ xs ds z Q k r h post
  unfold dLen at h
  split at h <;> cases h
  · obtain ⟨v, rfl, rv⟩ := rps1 r
    obtain ⟨a, vs, rfl, h1, h2, _⟩ := rp_list_inv rv
    exact ⟨_, _, rfl, .inl ⟨vs, SqL.of (k.sub.same _ _ h1), h2.length.symm⟩, post F H _ (SameT.refl F) k (.int _)⟩
  · obtain ⟨v, rfl, rv⟩ := rps1 r
    obtain ⟨a, vs, rfl, h1, h2, _⟩ := rp_tup_inv rv
    exact ⟨_, _, rfl, .inr ⟨vs, sqT_same k.sub.same.t h1, h2.length.symm⟩, post F H _ (SameT.refl F) k (.int _)⟩
  · obtain ⟨v, rfl, rv⟩ := rps1 r
    obtain ⟨rfl, hz⟩ := rp_str_inv rv
    exact ⟨_, _, rfl, ⟨hz, rfl⟩, post F H _ (SameT.refl F) k (.int _)⟩
def dInt : List D → Option D
  | [.int i] => some (.int i)
  | [.bool b] => some (.int (if b then 1 else 0))
  | _ => none
def dAbs : List D → Option D
  | [.int i] => some (.int (if i < 0 then -i else i))
  | _ => none
theorem rd_abs : RdC K (fun xs H Q => ∃ i, xs = [.int i] ∧ Q (.int (if i < 0 then -i else i)) H) dAbs := by
  intro A F H S σ xs ds z Q k r h post
  unfold dAbs at h
  split at h <;> cases h
  obtain ⟨v, rfl, rv⟩ := rps1 r
  cases rp_int_inv rv
  exact ⟨_, rfl, post F H _ (SameT.refl F) k (.int _)⟩
def dMax2 : List D → Option D
  | [.int i, .int j] => some (.int (if j > i then j else i))
  | _ => none
def dMin2 : List D → Option D
  | [.int i, .int j] => some (.int (if j < i then j else i))
  | _ => none
theorem rd_max2 : RdC K (fun xs H Q => ∃ i j, xs = [.int i, .int j] ∧ Q (.int (if j > i then j else i)) H) dMax2 := by
  intro A F H S σ xs ds z Q k r h post
  unfold dMax2 at h
  split at h <;> cases h
  obtain ⟨v, u, rfl, rv, ru⟩ := rps2 r
  cases rp_int_inv rv; cases rp_int_inv ru
  exact ⟨_, _, rfl, post F H _ (SameT.refl F) k (.int _)⟩
theorem rd_min2 : RdC K (fun xs H Q => ∃ i j, xs = [.int i, .int j] ∧ Q (.int (if j < i then j else i)) H) dMin2 := by
  intro A F H S σ xs ds z Q k r h post
  unfold dMin2 at h
  split at h <;> cases h
  obtain ⟨v, u, rfl, rv, ru⟩ := rps2 r
  cases rp_int_inv rv; cases rp_int_inv ru
  exact ⟨_, _, rfl, post F H _ (SameT.refl F) k (.int _)⟩
def dList : List D → Option D
  | [.list xs] => some (.list xs)
  | [.tuple xs] => some (.list xs)
  | _ => none
def dTuple : List D → Option D
  | [.list xs] => some (.tuple xs)
  | [.tuple xs] => some (.tuple xs)
  | _ => none
theorem rd_tuple : RdC K (fun xs H Q => ∃ p ys, xs = [.ref p] ∧ ((SqL K H p ys ∧ ∀ l, H l = none → Q (.ref l) (upd H l (.tup ys))) ∨ (SqT K H p ys ∧ Q (.ref p) H))) dTuple := by
  intro A F H S σ xs ds z Q k r h post
  unfold dTuple at h
  split at h <;> cases h
  · obtain ⟨v, rfl, rv⟩ := rps1 r
    obtain ⟨a, vs, rfl, h1, h2, h3⟩ := rp_list_inv rv
    refine ⟨_, _, rfl, .inl ⟨SqL.of (k.sub.same _ _ h1), fun l hl => ?_⟩⟩
    obtain ⟨s1, k1, r1⟩ := k.newTup hl h2 h3
    exact post _ _ _ s1 k1 r1
  · obtain ⟨v, rfl, rv⟩ := rps1 r
    obtain ⟨a, vs, rfl, h1, h2, h3⟩ := rp_tup_inv rv
    exact ⟨_, _, rfl, .inr ⟨sqT_same k.sub.same.t h1, post F H _ (SameT.refl F) k rv⟩⟩
/-- all items are truths -/
def allBools : List D → Option (List Bool)
  | [] => some []
  | .bool b :: ds => (allBools ds).bind fun bs => some (b :: bs)
  | _ => none
theorem allBools_map : ∀ {ds : List D} {bs : List Bool}, allBools ds = some bs → ds = bs.map .bool
  | [], _, h => by cases h; rfl
  | .bool b :: ds, _, h => by
    obtain ⟨bs, h1, h2⟩ := bind_inv h
    cases h2
    rw [List.map_cons, allBools_map h1]
  | .none :: _, _, h => by simp [allBools] at h
  | .int _ :: _, _, h => by simp [allBools] at h
  | .str _ :: _, _, h => by simp [allBools] at h
  | .list _ :: _, _, h => by simp [allBools] at h
  | .tuple _ :: _, _, h => by simp [allBools] at h
  | .dict _ :: _, _, h => by simp [allBools] at h
theorem rps_bools {F : Hp} : ∀ {vs : List V} {bs : List Bool}, Rps K F vs (bs.map .bool) → vs = bs.map V.bl
  | _, [], h => by cases h; rfl
  | _, b :: bs, h => by
    cases h with
    | cons h1 h2 => rw [rp_bool_inv h1, rps_bools h2]; rfl
def dAll : List D → Option D
  | [.list xs] => (allBools xs).bind fun bs => some (.bool (bs.all id))
  | _ => none
def dAny : List D → Option D
  | [.list xs] => (allBools xs).bind fun bs => some (.bool (bs.any id))
  | _ => none
theorem rd_all : RdC K (rAll K) dAll := by
  intro A F H S σ xs ds z Q k r h post
  unfold dAll at h
  split at h
  · obtain ⟨bs, h1, h2⟩ := bind_inv h
    cases h2
    obtain ⟨v, rfl, rv⟩ := rps1 r
    obtain ⟨a, vs, rfl, g1, g2, g3⟩ := rp_list_inv rv
    rw [allBools_map h1] at g2
    rw [rps_bools g2] at g1
    exact ⟨a, bs, rfl, SqL.of (k.sub.same _ _ g1), post F H _ (SameT.refl F) k (.bl _)⟩
  · cases h
theorem rd_any : RdC K (rAny K) dAny := by
  intro A F H S σ xs ds z Q k r h post
  unfold dAny at h
  split at h
  · obtain ⟨bs, h1, h2⟩ := bind_inv h
    cases h2
    obtain ⟨v, rfl, rv⟩ := rps1 r
    obtain ⟨a, vs, rfl, g1, g2, g3⟩ := rp_list_inv rv
    rw [allBools_map h1] at g2
    rw [rps_bools g2] at g1
    exact ⟨a, bs, rfl, SqL.of (k.sub.same _ _ g1), post F H _ (SameT.refl F) k (.bl _)⟩
  · cases h
end
section
variable {X : Cx} {pos p p2 : Pos} {e : Expr} {es : List Expr} {gs : M (List D)}
theorem e_len (hm : X.mg "len" = none) (ha : GA X [e] gs) (hg : Gl X "len" := by rfl) (he : starEach [e] X.env = (false, eval e X.env) :: starEach [] X.env := by rfl) : GE X (.Call (.Name "len" p) [e] [] pos) (gCall dLen gs) :=
  e_callB call_len rd_len hm PySem.boot_len ha hg (he := he) (hpl := by rfl)
theorem e_abs (hm : X.mg "abs" = none) (ha : GA X [e] gs) (hg : Gl X "abs" := by rfl) (he : starEach [e] X.env = (false, eval e X.env) :: starEach [] X.env := by rfl) : GE X (.Call (.Name "abs" p) [e] [] pos) (gCall dAbs gs) :=
  e_callB call_abs rd_abs hm (by decide +kernel) ha hg (he := he) (hpl := by rfl)
theorem e_tuple (hm : X.mg "tuple" = none) (ha : GA X [e] gs) (hg : Gl X "tuple" := by rfl) (he : starEach [e] X.env = (false, eval e X.env) :: starEach [] X.env := by rfl) : GE X (.Call (.Name "tuple" p) [e] [] pos) (gCall dTuple gs) :=
  e_callTy call_tuple_of rd_tuple hm (by decide +kernel) ha hg (he := he) (hpl := by rfl)
theorem e_all (hm : X.mg "all" = none) (ha : GA X [e] gs) (hc : X.calm = true := by rfl) (hg : Gl X "all" := by rfl) (he : starEach [e] X.env = (false, eval e X.env) :: starEach [] X.env := by rfl) : GE X (.Call (.Name "all" p) [e] [] pos) (gCall dAll gs) :=
  e_callB (cr_all hc) rd_all hm (by decide +kernel) ha hg (he := he) (hpl := by rfl)
theorem e_any (hm : X.mg "any" = none) (ha : GA X [e] gs) (hc : X.calm = true := by rfl) (hg : Gl X "any" := by rfl) (he : starEach [e] X.env = (false, eval e X.env) :: starEach [] X.env := by rfl) : GE X (.Call (.Name "any" p) [e] [] pos) (gCall dAny gs) :=
  e_callB (cr_any hc) rd_any hm (by decide +kernel) ha hg (he := he) (hpl := by rfl)
variable {e2 : Expr}
theorem e_max2 (hm : X.mg "max" = none) (ha : GA X [e, e2] gs) (hc : X.calm = true := by rfl) (hg : Gl X "max" := by rfl) (he : starEach [e, e2] X.env = (false, eval e X.env) :: starEach [e2] X.env := by rfl) (hpl : (backTo pos (starEach [e2] X.env)).any (·.1) = false := by rfl) :
    GE X (.Call (.Name "max" p) [e, e2] [] pos) (gCall dMax2 gs) := e_callB (call_max2 hc) rd_max2 hm (by decide +kernel) ha hg (he := he) (hpl := hpl)
theorem e_min2 (hm : X.mg "min" = none) (ha : GA X [e, e2] gs) (hc : X.calm = true := by rfl) (hg : Gl X "min" := by rfl) (he : starEach [e, e2] X.env = (false, eval e X.env) :: starEach [e2] X.env := by rfl) (hpl : (backTo pos (starEach [e2] X.env)).any (·.1) = false := by rfl) :
    GE X (.Call (.Name "min" p) [e, e2] [] pos) (gCall dMin2 gs) := e_callB (call_min2 hc) rd_min2 hm (by decide +kernel) ha hg (he := he) (hpl := hpl)
end

/-! ### isinstance -/
def dTy : D → String
  | .none => "NoneType"
  | .bool _ => "bool"
  | .int _ => "int"
  | .str _ => "str"
  | .list _ => "list"
  | .tuple _ => "tuple"
  | .dict _ => "dict"
def isT (T : String) (d : D) : Bool := (dTy d == T) || (T == "int" && dTy d == "bool")
theorem kit_int (d : D) : kitB (dTy d) "int" = some (isT "int" d) := by cases d <;> simp only [dTy, isT] <;> decide +kernel
theorem kit_bool (d : D) : kitB (dTy d) "bool" = some (isT "bool" d) := by cases d <;> simp only [dTy, isT] <;> decide +kernel
theorem kit_str (d : D) : kitB (dTy d) "str" = some (isT "str" d) := by cases d <;> simp only [dTy, isT] <;> decide +kernel
theorem kit_list (d : D) : kitB (dTy d) "list" = some (isT "list" d) := by cases d <;> simp only [dTy, isT] <;> decide +kernel
theorem kit_tuple (d : D) : kitB (dTy d) "tuple" = some (isT "tuple" d) := by cases d <;> simp only [dTy, isT] <;> decide +kernel
def TyE (K : PySem.W.Frag) (H : Hp) (v : V) (t : Value) : Prop := TyX K H v t ∨ ∃ a, v = .ref a ∧ t = .type "dict" ∧ H a = some (dictO a)
theorem kit_ofE {X : Cx} {pins : List (Addr × Obj)} {σ : L2.St} {H : Hp} {s : Shared} {x : V} {u t : Value} (I : Inv X pins σ H s) (r : RelV x u) (ty : TyE X.K H x t) : ∃ P, PySem.W.KitX X.K u t P ∧ P s.heap ∧ u ≠ .builtin "__main__.__loader__#opaque" := by
  rcases ty with ty | ⟨a, rfl, rfl, h⟩
  · exact kit_of I r ty
  · cases r
    exact ⟨_, PySem.W.kitx_dict, (show ObjOk X.prog X.w H s.heap a (dictO a) from I.hok a _ h).1, (fun z => nomatch z)⟩
def rIsiE (K : PySem.W.Frag) : List V → Hp → VK → Prop := fun xs H Q => ∃ x c t u b, xs = [x, c] ∧ ClsV c u ∧ TyE K H x t ∧ PySem.W.kitOne K t u = some b ∧ Q (.bl b) H
theorem call_isiE {X : Cx} : CallR X (.builtin "isinstance") (rIsiE X.K) := by
  intro pins s σ H xs us Q I r ⟨x, c, t, u, b, e0, k, ty, e, q⟩
  subst e0
  obtain ⟨u1, u2, rfl, r1, r2⟩ := L2.vals2 r
  have e2 := ClsV.eq k r2
  subst e2
  obtain ⟨P, Z, p, hx⟩ := kit_ofE I r1 ty
  exact PySem.W.kia_one Z I.kIn p e hx fun tk => ⟨.bl b, H, I.tok tk, rfl, q⟩
def rIsiTE (K : PySem.W.Frag) : List V → Hp → VK → Prop := fun xs H Q => ∃ x tp cs t us b, xs = [x, .ref tp] ∧ H tp = some (.tup cs) ∧ Paired ClsV cs us ∧ TyE K H x t ∧ PySem.W.kitAny K t us = some b ∧ Q (.bl b) H
theorem cls_vals : ∀ {cs : List V} {us its : List Value}, Paired ClsV cs us → Vals cs its → its = us
  | [], _, _, .nil, .nil => rfl
  | _ :: _, _, _, .cons h1 h2, .cons g1 g2 => by rw [cls_vals h2 g2, ClsV.eq h1 g1]
theorem call_isiTE {X : Cx} : CallR X (.builtin "isinstance") (rIsiTE X.K) := by
  intro pins s σ H xs us Q I r ⟨x, tp, cs, t, ws, b, e0, hT, k, ty, e, q⟩
  subst e0
  obtain ⟨u1, u2, rfl, r1, r2⟩ := L2.vals2 r
  cases r2
  obtain ⟨P, Z, p, hx⟩ := kit_ofE I r1 ty
  obtain ⟨_, its, rv, ot, t1, t2, n, t3⟩ := (show ObjOk X.prog X.w H s.heap tp (.tup cs) from I.hok tp _ hT)
  have hi := cls_vals k rv
  subst hi
  obtain ⟨oc, od, oda, osl⟩ := ot
  dsimp only at t2 t3
  subst t2 t3
  exact PySem.W.kia_tup Z I.kIn p t1 e hx fun tk => ⟨.bl b, H, I.tok tk, rfl, q⟩
theorem rp_ty {K : PySem.W.Frag} {F H : Hp} {v : V} {d : D} (s : SameT F H) (r : Rp K F v d) : TyE K H v (.type (dTy d)) := by
  cases r with
  | non => exact .inl (.base .non)
  | bl b => exact .inl (.base (.bl b))
  | int i => exact .inl (.base (.int i))
  | str _ => exact .inl (.base (.str _))
  | lst h1 _ _ => exact .inl (.base (.lst (s.old _ _ h1 trivial)))
  | tup h1 _ _ =>
    rcases sqT_same s h1 with (h | ⟨o, h⟩) | ⟨o, its, n, h, hc, _⟩
    · exact .inl (.base (.tup h))
    · exact .inl (.fTuple h)
    · exact .inl (.kTuple h hc)
  | dct h _ =>
    rcases h with ⟨es, h⟩ | ⟨es, h⟩ | h
    · exact .inl (.base (.dK (s.old _ _ h trivial)))
    · exact .inl (.base (.dT (s.old _ _ h trivial)))
    · exact .inr ⟨_, rfl, rfl, s.old _ _ h trivial⟩
section
variable {X : Cx} {pos p p2 p3 p4 : Pos} {e : Expr} {g : M D} {x y : Str} {T U : String}
def gIsi (T : String) (g : M D) : M D := fun S => (g S).bind fun p => some (.bool (isT T p.1), p.2)
def gIsi2 (T U : String) (g : M D) : M D := fun S => (g S).bind fun p => some (.bool (isT T p.1 || isT U p.1), p.2)
theorem e_isi (hm : X.mg "isinstance" = none) (hmx : X.mg x = none) (hv : bootBuiltins x = some (.type T)) (kt : ∀ d, kitB (dTy d) T = some (isT T d)) (ha : GE X e g) (hg : Gl X "isinstance" := by rfl) (hgx : Gl X x := by rfl)
    (hnx : x ≠ "__name__" := by decide) (hdx : (x == ("__debug__" : Str)) = false := by decide)
    (he : starEach [e, .Name x p2] X.env = (false, eval e X.env) :: starEach [.Name x p2] X.env := by rfl) (he2 : starEach [.Name x p2] X.env = (false, eval (.Name x p2) X.env) :: starEach [] X.env := by rfl)
    (hpl : (backTo pos (starEach [.Name x p2] X.env)).any (·.1) = false := by rfl) :
    GE X (.Call (.Name "isinstance" p) [e, .Name x p2] [] pos) (gIsi T g) := by
  obtain ⟨t, pa, ra⟩ := ha.ex
  refine ⟨_, pe_callB call_isiE hg hm (by decide +kernel) (pa_cons pa (pa_cons (pe_bltn (v := .ty T) hgx hmx hv rfl hnx hdx) pa_nil he2) he) (by decide) (by decide) he hpl, fun A F H S σ d S' Q k h post => ?_⟩
  obtain ⟨⟨d1, S1⟩, h1, h⟩ := bind_inv h
  cases h
  refine ra A F H S σ d1 _ _ k h1 fun A1 F1 H1 v p1 s1 k1 r1 => ?_
  exact ⟨v, .ty T, _, _, _, rfl, .ty T, rp_ty k1.sub.same.t r1, kit_ty (kt d1), post A1 F1 H1 _ p1 s1 k1 (.bl _)⟩
theorem e_isi2 {kx} (hm : X.mg "isinstance" = none) (hmx : X.mg x = none) (hv : bootBuiltins x = some (.type T)) (kt : ∀ d, kitB (dTy d) T = some (isT T d)) (hmy : X.mg y = none) (hw : bootBuiltins y = some (.type U)) (ku : ∀ d, kitB (dTy d) U = some (isT U d))
    (ha : GE X e g) (hg : Gl X "isinstance" := by rfl) (hgx : Gl X x := by rfl) (hgy : Gl X y := by rfl)
    (hnx : x ≠ "__name__" := by decide) (hdx : (x == ("__debug__" : Str)) = false := by decide) (hny : y ≠ "__name__" := by decide) (hdy : (y == ("__debug__" : Str)) = false := by decide)
    (he : starEach [e, .Tuple [.Name x p2, .Name y p3] kx p4] X.env = (false, eval e X.env) :: starEach [.Tuple [.Name x p2, .Name y p3] kx p4] X.env := by rfl)
    (he2 : starEach [.Tuple [.Name x p2, .Name y p3] kx p4] X.env = (false, eval (.Tuple [.Name x p2, .Name y p3] kx p4) X.env) :: starEach [] X.env := by rfl)
    (he3 : starEach [.Name x p2, .Name y p3] X.env = (false, eval (.Name x p2) X.env) :: starEach [.Name y p3] X.env := by rfl)
    (he4 : starEach [.Name y p3] X.env = (false, eval (.Name y p3) X.env) :: starEach [] X.env := by rfl)
    (hpl : (backTo pos (starEach [.Tuple [.Name x p2, .Name y p3] kx p4] X.env)).any (·.1) = false := by rfl) :
    GE X (.Call (.Name "isinstance" p) [e, .Tuple [.Name x p2, .Name y p3] kx p4] [] pos) (gIsi2 T U g) := by
  obtain ⟨t, pa, ra⟩ := ha.ex
  refine ⟨_, pe_callB call_isiTE hg hm (by decide +kernel) (pa_cons pa (pa_cons (pe_tup (pa_cons (pe_bltn (v := .ty T) hgx hmx hv rfl hnx hdx) (pa_cons (pe_bltn (v := .ty U) hgy hmy hw rfl hny hdy) pa_nil he4) he3)) pa_nil he2) he) (by decide) (by decide) he hpl, fun A F H S σ d S' Q k h post => ?_⟩
  obtain ⟨⟨d1, S1⟩, h1, h⟩ := bind_inv h
  cases h
  refine ra A F H S σ d1 _ _ k h1 fun A1 F1 H1 v p1 s1 k1 r1 => ?_
  refine ⟨by show 2 ≤ sizeLine; decide, fun q hq => ?_⟩
  have k2 := k1.laid (o := .tup [.ty T, .ty U]) hq
  have s2 : SameT F1 (upd F1 q (.tup [.ty T, .ty U])) := same_upd (k1.sub.none hq)
  refine ⟨v, q, _, _, _, _, rfl, upd_same, .cons (.ty T) (.cons (.ty U) .nil), rp_ty k2.sub.same.t (r1.mono s2 _ _), ?_, post A1 _ _ _ p1 (s1.trans s2) k2 (.bl _)⟩
  refine kitAny_cons (kit_ty (kt d1)) (fun e1 => ?_) (fun e1 => by rw [e1]; rfl)
  rw [e1]
  exact kitAny_cons (kit_ty (ku d1)) (fun e2 => by rw [e2]; exact kitAny_nil) (fun e2 => by rw [e2]; rfl)
end

/-! ### the calls of the text's own defs -/
/-- a def that writes nothing that was there: its value by data -/
def spF (K : PySem.W.Frag) (n : Nat) (f : List D → Option D) : Sp := fun vs H Q _ => ∃ ds z, ds.length = n ∧ Rps K H vs ds ∧ f ds = some z ∧ LamX.Tabs TabsC.T H ∧ ∀ H' v, SameT H H' → Rp K H' v z → Q v H'
theorem spF_len {K : PySem.W.Frag} {n : Nat} {f : List D → Option D} {ps : List Str} (h : ps.length = n) : ∀ vs H Q E, spF K n f vs H Q E → vs.length = ps.length := by
  intro vs H Q E ⟨ds, z, e, r, _⟩
  rw [r.length, e, h]
theorem same_mix {G H G' : Hp} (lost : ∀ b o, H b = some o → G b = none → G' b = none) : Same G' (mixH G H G') := fun b o e => by
  cases q : G b with
  | some u => rw [mix_held q]; exact e
  | none =>
    cases r : H b with
    | none => rw [mix_free r]; exact e
    | some u => rw [lost b u r q] at e; cases e
theorem Ok.mix {K : PySem.W.Frag} {A : List Addr} {F H G' : Hp} {S : Sx} {σ : L2.St} (k : Ok K A F H S σ) (s : SameT F G') (lost : ∀ b o, H b = some o → F b = none → G' b = none) : Ok K A G' (mixH F H G') S σ := by
  refine k.grow ⟨same_mix lost, fun b o e n => ?_⟩ s (fun a ha o e => ?_) fun a ha e => ?_
  · cases q : F b with
    | some u => rw [mix_held q, n] at e; cases e
    | none =>
      cases r : H b with
      | none => rw [mix_free r, n] at e; cases e
      | some u => rw [mix_lost q r] at e; cases e; exact k.sub.loose b _ r q
  · cases q : F a with
    | some u =>
      rw [mix_held q]
      have e2 := k.sub.same a u q
      rw [e] at e2; cases e2
      obtain ⟨_, ho, lo⟩ := k.trk a ha
      rw [e] at ho; cases ho
      exact s.old a _ q lo.nt
    | none => exact mix_lost q e
  · obtain ⟨o, ho, _⟩ := k.trk a ha
    exact lost a o ho e
def gCallF (n : Nat) (f : List D → Option D) (g : M (List D)) : M D := fun S => (g S).bind fun p => if p.1.length = n then (f p.1).bind fun z => some (z, p.2) else none
section
variable {X : Cx} {pos p p2 : Pos} {x : Str} {e : Expr} {es : List Expr} {gs : M (List D)} {f : List D → Option D} {CX : CXT} {k n : Nat} {fa : Addr} {fd : FuncData} {ps : List Str} {E : XK}
theorem e_call (F : FnOk X.prog X.w X.K X.mg X.base CX k fa fd ps (spF X.K n f)) (hr : Room k X.A) (hm : X.mg x = some (.ref fa)) (hk : PySem.W.keepIn X.K (.ref fa) = true) (hb : L2.Binds X.K fd ps []) (hx : Passes CX X E) (ha : GA X (e :: es) gs)
    (hg : Gl X x := by rfl) (hdb : (x == ("__debug__" : Str)) = false := by decide) (he : starEach (e :: es) X.env = (false, eval e X.env) :: starEach es X.env := by rfl) (hpl : (backTo pos (starEach es X.env)).any (·.1) = false := by rfl) :
    GE X (.Call (.Name x p) (e :: es) [] pos) (gCallF n f gs) := by
  obtain ⟨t, pa, ra⟩ := ha.ex
  refine ⟨_, pe_callF F hr hg hm hk hb .nil hx pa hdb he hpl, fun A F H S σ d S' Q k h post => ?_⟩
  obtain ⟨⟨ds, S1⟩, h1, h⟩ := bind_inv h
  simp only at h
  split at h
  · rename_i hn
    obtain ⟨z, h2, h⟩ := bind_inv h
    cases h
    refine ra A F H S σ ds _ _ k h1 fun A1 F1 H1 vs p1 s1 k1 r1 => ⟨F1, k1.sub, ds, _, hn, by rw [List.append_nil]; exact r1, h2, k1.tab, fun G' v sm rv => ⟨fun b xs q => sm.old b _ q trivial, fun lost => ?_⟩⟩
    exact post A1 G' _ v p1 (s1.trans sm) (k1.mix sm lost) rv
  · cases h
/-- a def that writes one list that is handed in, the first argument -/
def spIO (K : PySem.W.Frag) (n : Nat) (f : List D → List D → Option (D × List D)) : Sp := fun vs H Q _ => ∃ (a : Addr) (xs : List V) (rest : List V) (F : Hp) (cs ds : List D) (r : D) (cs' : List D), vs = .ref a :: rest ∧ F a = none ∧ H = upd F a (.lst xs) ∧ cs.length ≤ sizeLine ∧
  Rps K F xs cs ∧ Rps K F rest ds ∧ ds.length = n ∧ f cs ds = some (r, cs') ∧ LamX.Tabs TabsC.T F ∧ ∀ F' xs' v, SameT F F' → F' a = none → Rps K F' xs' cs' → cs'.length ≤ sizeLine → Rp K F' v r → Q v (upd F' a (.lst xs'))
theorem spIO_len {K : PySem.W.Frag} {n : Nat} {f : List D → List D → Option (D × List D)} {ps : List Str} (h : ps.length = n + 1) : ∀ vs H Q E, spIO K n f vs H Q E → vs.length = ps.length := by
  intro vs H Q E ⟨a, xs, rest, F, cs, ds, r, cs', e, _, _, _, _, hr, hn, _⟩
  rw [e, List.length_cons, hr.length, hn, h]
def gIO (i n : Nat) (f : List D → List D → Option (D × List D)) (g : M (List D)) : M D := fun S => match S.sl[i]? with
  | some (some (.own j)) => (g S).bind fun p => match p.2.os[j]? with
    | some (some (.lst cs)) => if p.1.length = n then (f cs p.1).bind fun z => some (z.1, ⟨p.2.sl, p.2.os.set j (some (.lst z.2))⟩) else none
    | _ => none
  | _ => none
theorem prefix_at {α : Type} {A B : List α} {j : Nat} {a : α} (p : A <+: B) (h : A[j]? = some a) : B[j]? = some a := by
  obtain ⟨C, rfl⟩ := p
  rw [List.getElem?_append_left (List.getElem?_eq_some_iff.mp h).1]; exact h
theorem e_callIO {f : List D → List D → Option (D × List D)} {y : Str} {py : Pos} (i : Nat) (F : FnOk X.prog X.w X.K X.mg X.base CX k fa fd ps (spIO X.K n f)) (hr : Room k X.A) (hm : X.mg x = some (.ref fa)) (hk : PySem.W.keepIn X.K (.ref fa) = true) (hb : L2.Binds X.K fd ps []) (hx : Passes CX X E) (ha : GA X es gs)
    (hN : X.N[i]? = some y := by rfl) (hv : Vis X.env.scope y := by first | exact Or.inl rfl | exact Or.inr (Or.inl rfl) | exact Or.inr (Or.inr rfl)) (hdy : (y == ("__debug__" : Str)) = false := by decide) (hcd : (y == ("__classdict__" : Str)) = false := by decide)
    (hg : Gl X x := by rfl) (hdb : (x == ("__debug__" : Str)) = false := by decide) (he : starEach (.Name y py :: es) X.env = (false, eval (.Name y py) X.env) :: starEach es X.env := by rfl) (hpl : (backTo pos (starEach es X.env)).any (·.1) = false := by rfl) :
    GE X (.Call (.Name x p) (.Name y py :: es) [] pos) (gIO i n f gs) := by
  obtain ⟨t, pa, ra⟩ := ha.ex
  refine ⟨_, pe_callF F hr hg hm hk hb .nil hx (pa_cons (pe_var hN hv hdy hcd) pa he) hdb he hpl, fun A F H S σ d S' Q k h post => ?_⟩
  unfold gIO at h
  split at h
  · rename_i j ej
    obtain ⟨⟨ds, S1⟩, h1, h⟩ := bind_inv h
    simp only at h
    split at h
    · rename_i cs ec
      split at h
      · rename_i hn
        obtain ⟨⟨r, cs'⟩, h2, h⟩ := bind_inv h
        cases h
        obtain ⟨a, ea, ev⟩ := k.oslot i j ej
        refine ⟨_, ev, ra A F H S σ ds S1 _ k h1 fun A1 F1 H1 vs p1 s1 k1 r1 => ?_⟩
        obtain ⟨a', ea', fa', xs, hxs, rxs, hz⟩ := k1.cell j _ ec
        rw [prefix_at p1 ea] at ea'; cases ea'
        have sub1 : Sub (upd F1 a (.lst xs)) H1 := ⟨fun b u q => by
            by_cases hb : b = a
            · subst hb; rw [upd_same] at q; cases q; exact hxs
            · rw [upd_ne hb] at q; exact k1.sub.same b u q, fun b u q n => by
            by_cases hb : b = a
            · subst hb; rw [upd_same] at n; cases n
            · rw [upd_ne hb] at n; exact k1.sub.loose b u q n⟩
        refine ⟨upd F1 a (.lst xs), sub1, a, xs, vs, F1, cs, ds, r, cs', by rw [List.append_nil], fa', rfl, hz, rxs, r1, hn, h2, k1.tab, fun F' xs' v sm fa2 rx hz' rv => ⟨fun b ys q => ?_, fun lost => ?_⟩⟩
        · by_cases hb : b = a
          · subst hb; rw [upd_same] at q; cases q
          · rw [upd_ne hb] at q ⊢; exact sm.old b _ q trivial
        · have lostF : ∀ b o, b ≠ a → H1 b = some o → F1 b = none → F' b = none := fun b o hb ho hf => by
            have := lost b o ho (by rw [upd_ne hb]; exact hf)
            rwa [upd_ne hb] at this
          have ma : mixH (upd F1 a (.lst xs)) H1 (upd F' a (.lst xs')) a = some (.lst xs') := by rw [mix_held upd_same, upd_same]
          have mb : ∀ b, b ≠ a → mixH (upd F1 a (.lst xs)) H1 (upd F' a (.lst xs')) b = mixH F1 H1 F' b := fun b hb => by
            unfold mixH
            rw [upd_ne hb, upd_ne hb]
          have km : Ok X.K A1 F' (upd (mixH F1 H1 F') a (.lst xs')) ⟨S1.sl, S1.os.set j (some (.lst cs'))⟩ σ := by
            have e1 : Ok X.K A1 F' (mixH F1 H1 F') S1 σ := by
              refine k1.mix sm fun b o ho hf => ?_
              by_cases hb : b = a
              · subst hb; exact fa2
              · exact lostF b o hb ho hf
            exact e1.cellSet ec (prefix_at p1 ea) trivial ⟨xs', upd_same, rx, hz'⟩
          have em : mixH (upd F1 a (.lst xs)) H1 (upd F' a (.lst xs')) = upd (mixH F1 H1 F') a (.lst xs') := by
            funext b
            by_cases hb : b = a
            · subst hb; rw [ma, upd_same]
            · rw [mb b hb, upd_ne hb]
          rw [em]
          exact post A1 F' _ v p1 (s1.trans sm) km rv
      · cases h
    · cases h
  · cases h
end
end Fu

set_option maxHeartbeats 4000000
namespace Fu
open PySem PySem.Spec PyProof.Rows L2 RZ
variable [TabsC]

/-! ### what is walked -/
/-- J yields the data ds, one by one, wherever F stands -/
structure Walk (K : PySem.W.Frag) (F : Hp) (J : It) (ds : List D) : Prop where
  stop : ∀ i H, SameT F H → ds.length ≤ i → J.stop i H
  go : ∀ i H, SameT F H → i < ds.length → J.go i H
  yld : ∀ (i : Nat) d H x H', SameT F H → ds[i]? = some d → J.yld i H x H' → (H' = H ∧ Rp K F x d) ∨ ∃ T vs es, x = .ref T ∧ H T = none ∧ H' = upd H T (.tup vs) ∧ d = .tuple es ∧ Rps K F vs es ∧ es.length ≤ sizeLine
def RdI (K : PySem.W.Frag) (t : TI) (g : M (List D)) : Prop := ∀ A F H S σ ds S' (R : It → Hp → Prop), Ok K A F H S σ → g S = some (ds, S') →
  (∀ A' F' H' J, A <+: A' → SameT F F' → Ok K A' F' H' S' σ → Walk K F' J ds → ds.length ≤ sizeLine → R J H') → t σ H R
structure GI (X : Cx) (tg iter : Expr) (g : M (List D)) : Prop where
  ex : ∃ t, PI X tg iter t ∧ RdI X.K t g
/-- .. of numbers alone: they stand in any heap -/
structure GI0 (X : Cx) (tg iter : Expr) (g : M (List D)) : Prop where
  ex : ∃ t, PI X tg iter t ∧ ∀ A F H S σ ds S' (R : It → Hp → Prop), Ok X.K A F H S σ → g S = some (ds, S') →
    (∀ A' F' H' J, A <+: A' → SameT F F' → Ok X.K A' F' H' S' σ → Walk X.K (fun _ => none) J ds → R J H') → t σ H R
theorem PI.or {X : Cx} {tg iter : Expr} {t u : TI} (h1 : PI X tg iter t) (h2 : PI X tg iter u) : PI X tg iter (fun σ H R => t σ H R ∨ u σ H R) :=
  ⟨fun pins s σ H R I h => h.elim (h1.run pins s σ H R I) (h2.run pins s σ H R I)⟩
section
variable {K : PySem.W.Frag} {F : Hp}
theorem walk_list {a : Addr} {vs : List V} {ds : List D} (h : F a = some (.lst vs)) (r : Rps K F vs ds) : Walk K F (Itl K a) ds where
  stop := fun i H s hi => ⟨vs, SqL.of (s.old _ _ h trivial), by rw [r.length]; exact hi⟩
  go := fun i H s hi => by
    obtain ⟨v, e, _⟩ := r.get (List.getElem?_eq_getElem hi)
    exact ⟨vs, v, SqL.of (s.old _ _ h trivial), e⟩
  yld := fun i d H x H' s hd y => by
    obtain ⟨e, y⟩ := y
    obtain ⟨v, ev, rv⟩ := r.get hd
    have := y vs (SqL.of (s.old _ _ h trivial))
    rw [ev] at this; cases this
    exact .inl ⟨e, rv⟩
theorem walk_tup {a : Addr} {vs : List V} {ds : List D} (h : SqT K F a vs) (r : Rps K F vs ds) : Walk K F (Itt K a) ds where
  stop := fun i H s hi => ⟨vs, sqT_same s h, by rw [r.length]; exact hi⟩
  go := fun i H s hi => by
    obtain ⟨v, e, _⟩ := r.get (List.getElem?_eq_getElem hi)
    exact ⟨vs, v, sqT_same s h, e⟩
  yld := fun i d H x H' s hd y => by
    obtain ⟨e, y⟩ := y
    obtain ⟨v, ev, rv⟩ := r.get hd
    have := y vs (sqT_same s h)
    rw [ev] at this; cases this
    exact .inl ⟨e, rv⟩
def chars (x : Str) : List D := x.cps.toList.map fun c => .str ⟨#[c]⟩
theorem walk_str (x : Str) : Walk K F (Its x) (chars x) where
  stop := fun i H s hi => by
    have : x.cps.size ≤ i := by simpa [chars] using hi
    exact this
  go := fun i H s hi => by
    have : i < x.cps.size := by simpa [chars] using hi
    exact this
  yld := fun i d H v H' s hd y => by
    obtain ⟨e, c, hc, rfl⟩ := y
    have h2 : x.cps.toList[i]? = some c := by rw [Array.getElem?_toList]; exact hc
    unfold chars at hd
    rw [List.getElem?_map, h2] at hd
    cases hd
    exact .inl ⟨e, .str (one_len c)⟩
def rng (lo : Int) (n : Nat) : List D := (List.range n).map fun i : Nat => .int (lo + (i : Int))
theorem walk_range (lo : Int) (n : Nat) : Walk K F (Itr lo n) (rng lo n) where
  stop := fun i H s hi => by
    have : n ≤ i := by simpa [rng] using hi
    exact this
  go := fun i H s hi => by
    have : i < n := by simpa [rng] using hi
    exact this
  yld := fun i d H v H' s hd y => by
    obtain ⟨e, rfl⟩ := y
    unfold rng at hd
    rw [List.getElem?_map] at hd
    obtain ⟨j, hj, rfl⟩ := Option.map_eq_some_iff.mp hd
    rw [List.getElem?_range (by
      have := (List.getElem?_eq_some_iff.mp hj).1
      simpa using this)] at hj
    cases hj
    exact .inl ⟨e, .int _⟩
end
def itemsOf : D → Option (List D)
  | .list xs => some xs
  | .tuple xs => some xs
  | .str x => some (chars x)
  | _ => none
/-- the items of a list, a tuple, a text -/
def gItems (g : M D) : M (List D) := fun S => (g S).bind fun p => (itemsOf p.1).bind fun xs => some (xs, p.2)
section
variable {X : Cx} {tg e e2 e3 : Expr} {ge ge2 : M D} {pos p p2 : Pos} {gs : M (List D)}
theorem chars_len {x : Str} (h : x.length ≤ sizeLine) : (chars x).length ≤ sizeLine := by
  unfold chars
  rw [List.length_map, Array.length_toList]
  exact h
theorem i_any (h : GE X e ge) : GI X tg e (gItems ge) := by
  obtain ⟨t, pe, re⟩ := h.ex
  refine ⟨_, PI.or (pi_list pe) (PI.or (pi_tup pe) (pi_str pe)), fun A F H S σ ds S' R k e post => ?_⟩
  obtain ⟨⟨d, S1⟩, h1, e⟩ := bind_inv e
  obtain ⟨xs, h2, e⟩ := bind_inv e
  cases e
  cases d <;> simp only [itemsOf] at h2 <;> cases h2
  · refine .inr (.inr (re A F H S σ _ _ _ k h1 fun A1 F1 H1 v p1 s1 k1 r1 => ?_))
    obtain ⟨rfl, hz⟩ := rp_str_inv r1
    exact ⟨_, rfl, post A1 F1 H1 _ p1 s1 k1 (walk_str _) (chars_len hz)⟩
  · refine .inl (re A F H S σ _ _ _ k h1 fun A1 F1 H1 v p1 s1 k1 r1 => ?_)
    obtain ⟨a, vs, rfl, g1, g2, g3⟩ := rp_list_inv r1
    exact ⟨a, rfl, ⟨vs, SqL.of (k1.sub.same _ _ g1)⟩, post A1 F1 H1 _ p1 s1 k1 (walk_list g1 g2) g3⟩
  · refine .inr (.inl (re A F H S σ _ _ _ k h1 fun A1 F1 H1 v p1 s1 k1 r1 => ?_))
    obtain ⟨a, vs, rfl, g1, g2, g3⟩ := rp_tup_inv r1
    exact ⟨a, rfl, ⟨vs, sqT_same k1.sub.same.t g1⟩, post A1 F1 H1 _ p1 s1 k1 (walk_tup g1 g2) g3⟩
/-- range(n), range(a, b) -/
def gRng1 (g : M (List D)) : M (List D) := fun S => (g S).bind fun p => match p.1 with
  | [.int j] => if -(2 ^ 62) ≤ j ∧ j ≤ sizeLine then some (rng 0 j.toNat, p.2) else none
  | _ => none
def gRng2 (g : M (List D)) : M (List D) := fun S => (g S).bind fun p => match p.1 with
  | [.int i, .int j] => if -(2 ^ 32) ≤ i ∧ i ≤ 2 ^ 32 ∧ -(2 ^ 32) ≤ j ∧ j ≤ 2 ^ 32 ∧ j - i ≤ sizeLine then some (rng i (j - i).toNat, p.2) else none
  | _ => none
theorem rng_len (lo : Int) (n : Nat) : (rng lo n).length = n := by simp [rng]
theorem rps_int1 {K : PySem.W.Frag} {F : Hp} {vs : List V} {i : Int} (r : Rps K F vs [.int i]) : vs = [.int i] := by
  obtain ⟨v, rfl, q⟩ := rps1 r
  cases rp_int_inv q; rfl
theorem line_int : (sizeLine : Int) < 2 ^ 32 := by rw [sizeLine_eq]; decide
theorem rd_rng1 {K : PySem.W.Frag} {ta : TA} (ra : RdA K ta gs) : ∀ A F H S σ ds S' (R : It → Hp → Prop), Ok K A F H S σ → gRng1 gs S = some (ds, S') →
    (∀ A' F' H' J, A <+: A' → SameT F F' → Ok K A' F' H' S' σ → (∀ G, Walk K G J ds) → ds.length ≤ sizeLine → R J H') → iRng1 ta σ H R := by
  intro A F H S σ ds S' R k e post
  obtain ⟨⟨xs, S1⟩, h1, e⟩ := bind_inv e
  simp only at e
  split at e
  · split at e
    · rename_i j hj
      cases e
      refine ra A F H S σ _ _ _ k h1 fun A1 F1 H1 vs p1 s1 k1 r1 => ?_
      have hl := line_int
      exact ⟨j, rps_int1 r1, hj.1, by omega, post A1 F1 H1 _ p1 s1 k1 (fun G => walk_range 0 _) (by rw [rng_len]; omega)⟩
    · cases e
  · cases e
theorem i_range1 (hm : X.mg "range" = none) (ha : GA X [e] gs) (hg : Gl X "range" := by rfl) (hs : starEach [e] X.env = [(false, eval e X.env)] := by rfl) : GI X tg (.Call (.Name "range" p) [e] [] pos) (gRng1 gs) := by
  obtain ⟨t, pa, ra⟩ := ha.ex
  exact ⟨_, pi_range1 hg hm pa hs, fun A F H S σ ds S' R k e post => rd_rng1 ra A F H S σ ds S' R k e fun A1 F1 H1 J p1 s1 k1 w hz => post A1 F1 H1 J p1 s1 k1 (w _) hz⟩
theorem i0_range1 (hm : X.mg "range" = none) (ha : GA X [e] gs) (hg : Gl X "range" := by rfl) (hs : starEach [e] X.env = [(false, eval e X.env)] := by rfl) : GI0 X tg (.Call (.Name "range" p) [e] [] pos) (gRng1 gs) := by
  obtain ⟨t, pa, ra⟩ := ha.ex
  exact ⟨_, pi_range1 hg hm pa hs, fun A F H S σ ds S' R k e post => rd_rng1 ra A F H S σ ds S' R k e fun A1 F1 H1 J p1 s1 k1 w hz => post A1 F1 H1 J p1 s1 k1 (w _)⟩
end

/-! ### targets: names, tuples of them -/
def RdG (K : PySem.W.Frag) (tgt : List Nat) (t : TG) (g : D → Sx → Option Sx) : Prop := ∀ A F H S σ v d S' (Q : L2.St → Hp → Prop), Ok K A F H S σ → Rp K F v d → g d S = some S' →
  (∀ A' F' H' σ', A <+: A' → SameT F F' → Ok K A' F' H' S' σ' → (∀ vs, (∀ i ∈ tgt, i ∈ vs) → wipe σ' vs = wipe σ vs) → Q σ' H') → t v σ H Q
def RdGs (K : PySem.W.Frag) (tgt : List Nat) (t : TGs) (g : List D → Sx → Option Sx) : Prop := ∀ A F H S σ vs ds S' (Q : L2.St → Hp → Prop), Ok K A F H S σ → Rps K F vs ds → g ds S = some S' →
  (∀ A' F' H' σ', A <+: A' → SameT F F' → Ok K A' F' H' S' σ' → (∀ vs, (∀ i ∈ tgt, i ∈ vs) → wipe σ' vs = wipe σ vs) → Q σ' H') → t vs σ H Q
structure GG (X : Cx) (tgt : List Nat) (e : Expr) (g : D → Sx → Option Sx) : Prop where
  ex : ∃ t, PG X e t ∧ RdG X.K tgt t g
structure GGs (X : Cx) (tgt : List Nat) (es : List Expr) (g : List D → Sx → Option Sx) : Prop where
  ex : ∃ t, PGs X es t ∧ RdGs X.K tgt t g
def sName (i : Nat) : D → Sx → Option Sx := fun d S => some ⟨S.sl.set i (some (.dat d)), S.os⟩
def sNil : List D → Sx → Option Sx := fun ds S => match ds with
  | [] => some S
  | _ => none
def sCons (g : D → Sx → Option Sx) (gs : List D → Sx → Option Sx) : List D → Sx → Option Sx := fun ds S => match ds with
  | d :: ds => (g d S).bind fun S1 => gs ds S1
  | [] => none
def sTup (n : Nat) (gs : List D → Sx → Option Sx) : D → Sx → Option Sx := fun d S => match d with
  | .tuple ds => if ds.length = n then gs ds S else none
  | _ => none
theorem wipe_set {σ : L2.St} {i : Nat} {x : Option V} : ∀ {vs : List Nat}, i ∈ vs → wipe (σ.set i x) vs = wipe σ vs
  | v :: vs, h => by
    unfold wipe
    by_cases hv : i = v
    · subst hv
      by_cases hm : i ∈ vs
      · rw [wipe_set hm]
      · have comm : ∀ ws : List Nat, i ∉ ws → wipe (σ.set i x) ws = (wipe σ ws).set i x := by
          intro ws
          induction ws with
          | nil => intro _; rfl
          | cons w ws ih =>
            intro hn
            simp only [List.mem_cons, not_or] at hn
            unfold wipe
            rw [ih hn.2, List.set_comm _ _ hn.1]
        rw [comm vs hm, List.set_set]
    · rcases List.mem_cons.mp h with e | h
      · exact absurd e hv
      · rw [wipe_set h]
section
variable {X : Cx} {pos : Pos} {e : Expr} {es : List Expr} {n : Nat} {tg ts : List Nat} {g : D → Sx → Option Sx} {gs : List D → Sx → Option Sx}
theorem g_name (i : Nat) {x : Str} (hN : X.N.Nodup) (hx : Loc X.env.scope x := by first | exact Or.inl rfl | exact Or.inr rfl) (hi : X.N[i]? = some x := by rfl) (hf : X.fn x = true ∨ X.env.scope.names.lookup x = some .local := by first | exact .inl rfl | exact .inr rfl | assumption) : GG X [i] (.Name x pos) (sName i) :=
  ⟨_, pg_name hN hi hx hf, fun A F H S σ v d S' Q k r e post => by
    cases e
    exact post A F H _ (List.prefix_refl _) (SameT.refl F) (k.setDat r) fun vs h => wipe_set (h i (by simp))⟩
theorem gs_nil : GGs X [] [] sNil := ⟨_, pgs_nil, fun A F H S σ vs ds S' Q k r e post => by
  cases ds with
  | cons _ _ => cases e
  | nil => cases e; cases r; exact ⟨rfl, post A F H σ (List.prefix_refl _) (SameT.refl F) k fun _ _ => rfl⟩⟩
theorem gs_cons (h1 : GG X tg e g) (h2 : GGs X ts es gs) (hs : (assignEach (e :: es) X.env).map (·.2) = assign e X.env :: (assignEach es X.env).map (·.2) := by rfl) : GGs X (tg ++ ts) (e :: es) (sCons g gs) := by
  obtain ⟨t, p1, r1⟩ := h1.ex
  obtain ⟨u, p2, r2⟩ := h2.ex
  refine ⟨_, pgs_cons p1 p2 hs, fun A F H S σ vs ds S' Q k r e post => ?_⟩
  cases ds with
  | nil => cases e
  | cons d ds =>
    cases r with
    | cons ra rb =>
      obtain ⟨S1, e1, e⟩ := bind_inv e
      refine ⟨_, _, rfl, r1 A F H S σ _ d S1 _ k ra e1 fun A1 F1 H1 σ1 q1 s1 k1 w1 => r2 A1 F1 H1 S1 σ1 _ ds S' Q k1 (Rps.mono s1 _ _ rb) e fun A2 F2 H2 σ2 q2 s2 k2 w2 => ?_⟩
      exact post A2 F2 H2 σ2 (q1.trans q2) (s1.trans s2) k2 fun vs h => (w2 vs fun i hi => h i (List.mem_append_right _ hi)).trans (w1 vs fun i hi => h i (List.mem_append_left _ hi))
theorem g_tup {k} (h : GGs X ts es gs) (hc : X.calm = true := by rfl) (hn : (assignEach es X.env).length = n := by rfl) (hst : (assignEach es X.env).findIdx? (·.1) = none := by rfl) : GG X ts (.Tuple es k pos) (sTup n gs) := by
  obtain ⟨t, p1, r1⟩ := h.ex
  refine ⟨_, pg_tup hc p1 hn hst, fun A F H S σ v d S' Q k r e post => ?_⟩
  cases d <;> simp only [sTup] at e <;> try cases e
  split at e
  · rename_i hl
    obtain ⟨a, vs, rfl, g1, g2, g3⟩ := rp_tup_inv r
    exact ⟨a, vs, rfl, sqT_same k.sub.same.t g1, by rw [g2.length]; exact hl, r1 A F H S σ vs _ S' Q k g2 e post⟩
  · cases e
end
end Fu

set_option maxHeartbeats 4000000
namespace Fu
open PySem PySem.Spec PyProof.Rows L2 RZ
variable [TabsC]

/-! ### slots of a comprehension's own names -/
def wipeS (sl : List (Option R)) : List Nat → List (Option R)
  | [] => sl
  | v :: vs => (wipeS sl vs).set v none
def backS (old new : List (Option R)) : List Nat → List (Option R)
  | [] => new
  | v :: vs => match old[v]? with
    | some x => (backS old new vs).set v x
    | none => backS old new vs
theorem wipeS_len (sl : List (Option R)) : ∀ vs, (wipeS sl vs).length = sl.length
  | [] => rfl
  | v :: vs => by unfold wipeS; rw [List.length_set, wipeS_len sl vs]
theorem backS_len (old new : List (Option R)) : ∀ vs, (backS old new vs).length = new.length
  | [] => rfl
  | v :: vs => by
    unfold backS
    split
    · rw [List.length_set, backS_len old new vs]
    · exact backS_len old new vs
theorem wipeS_in {sl : List (Option R)} {i : Nat} {r : R} : ∀ {vs : List Nat}, (wipeS sl vs)[i]? = some (some r) → sl[i]? = some (some r) ∧ i ∉ vs
  | [], h => ⟨h, by simp⟩
  | v :: vs, h => by
    unfold wipeS at h
    by_cases hi : v = i
    · subst hi
      by_cases hv : v < (wipeS sl vs).length
      · rw [List.getElem?_set_self hv] at h; cases h
      · rw [List.getElem?_eq_none (by simpa using hv)] at h; cases h
    · rw [List.getElem?_set_ne hi] at h
      obtain ⟨h1, h2⟩ := wipeS_in h
      exact ⟨h1, by simp only [List.mem_cons, not_or]; exact ⟨fun e => hi e.symm, h2⟩⟩
theorem wipeS_out {sl : List (Option R)} {i : Nat} : ∀ {vs : List Nat}, i ∉ vs → (wipeS sl vs)[i]? = sl[i]?
  | [], _ => rfl
  | v :: vs, h => by
    simp only [List.mem_cons, not_or] at h
    unfold wipeS
    rw [List.getElem?_set_ne (Ne.symm h.1), wipeS_out h.2]
theorem wipe_outV {σ : L2.St} {i : Nat} : ∀ {vs : List Nat}, i ∉ vs → (wipe σ vs)[i]? = σ[i]?
  | [], _ => rfl
  | v :: vs, h => by
    simp only [List.mem_cons, not_or] at h
    unfold wipe
    rw [List.getElem?_set_ne (Ne.symm h.1), wipe_outV h.2]
theorem backS_in {old new : List (Option R)} {i : Nat} : ∀ {vs : List Nat}, old.length = new.length → (backS old new vs)[i]? = if i ∈ vs then old[i]? else new[i]?
  | [], _ => by simp [backS]
  | v :: vs, h => by
    have ih := backS_in (i := i) (vs := vs) h
    unfold backS
    by_cases hv : v = i
    · subst hv
      simp only [List.mem_cons, true_or, if_true]
      cases e : old[v]? with
      | none =>
        show (backS old new vs)[v]? = none
        rw [ih]
        have hl : new[v]? = none := List.getElem?_eq_none (by rw [← h]; exact List.getElem?_eq_none_iff.mp e)
        split
        · exact e
        · exact hl
      | some x =>
        show ((backS old new vs).set v x)[v]? = some x
        rw [List.getElem?_set_self]
        rw [backS_len, ← h]
        exact (List.getElem?_eq_some_iff.mp e).1
    · have e2 : (match old[v]? with | some x => (backS old new vs).set v x | none => backS old new vs)[i]? = (backS old new vs)[i]? := by
        split
        · rw [List.getElem?_set_ne hv]
        · rfl
      rw [e2, ih]
      have : (i ∈ v :: vs) ↔ i ∈ vs := by
        simp only [List.mem_cons]
        exact ⟨fun z => z.elim (fun e => absurd e.symm hv) id, .inr⟩
      by_cases hm : i ∈ vs
      · rw [if_pos hm, if_pos (this.mpr hm)]
      · rw [if_neg hm, if_neg (fun z => hm (this.mp z))]
section
variable {K : PySem.W.Frag} {A A' : List Addr} {F F' G H : Hp} {S S' : Sx} {σ τ : L2.St}
theorem Ok.wipe {vs : List Nat} (k : Ok K A F H S τ) (e : L2.wipe τ vs = L2.wipe σ vs) : Ok K A F H ⟨wipeS S.sl vs, S.os⟩ (L2.wipe σ vs) := by
  refine ⟨k.sub, by rw [wipeS_len, k.len, ← e, wipe_length], k.alen, k.nd, fun i r h => ?_, k.cell, k.trk, k.tab⟩
  obtain ⟨h1, h2⟩ := wipeS_in h
  obtain ⟨v, e1, q⟩ := k.rslot i r h1
  exact ⟨v, by rw [← e, wipe_outV h2]; exact e1, q⟩
theorem Ok.back {vs : List Nat} (k0 : Ok K A F H S σ) (k : Ok K A' F' G ⟨wipeS S'.sl vs, S'.os⟩ (L2.wipe σ vs)) (p : A <+: A') (s : SameT F F') : Ok K A' F' G ⟨backS S.sl S'.sl vs, S'.os⟩ σ := by
  have hl : S.sl.length = S'.sl.length := by
    have := k.len
    rw [wipeS_len, wipe_length] at this
    rw [k0.len, this]
  refine ⟨k.sub, by rw [backS_len, ← hl]; exact k0.len, k.alen, k.nd, fun i r h => ?_, k.cell, k.trk, k.tab⟩
  simp only at h
  rw [backS_in hl] at h
  by_cases hi : i ∈ vs
  · rw [if_pos hi] at h
    obtain ⟨v, e1, q⟩ := k0.rslot i r h
    exact ⟨v, e1, q.mono p s _ _⟩
  · rw [if_neg hi] at h
    obtain ⟨v, e1, q⟩ := k.rslot i r (by simp only; rw [wipeS_out hi]; exact h)
    rw [wipe_outV hi] at e1
    exact ⟨v, e1, q⟩
/-- one list over a heap: what may be forgotten -/
theorem sub_one {p : Addr} {o : HO} (h : G p = none) (l : Loose o) : Sub G (upd G p o) := ⟨fun b u e => by rw [upd_ne (ne_of_none e h)]; exact e, fun b u e n => by
  by_cases hb : b = p
  · subst hb; rw [upd_same] at e; cases e; exact l
  · rw [upd_ne hb, n] at e; cases e⟩
theorem mix_one {G' : Hp} {p : Addr} {o : HO} (h : G p = none) (h' : G' p = none) : mixH G (upd G p o) G' = upd G' p o := by
  funext b
  by_cases hb : b = p
  · subst hb
    rw [mix_lost h upd_same, upd_same]
  · rw [upd_ne hb]
    cases q : G b with
    | some u => exact mix_held q
    | none => exact mix_free (by rw [upd_ne hb]; exact q)
end

/-! ### tests of a comprehension -/
structure GTs (X : Cx) (ifs : List Expr) (g : M Bool) : Prop where
  ex : ∃ t, PTs X ifs t ∧ RdT X.K t g
def gYes : M Bool := fun S => some (true, S)
theorem ts_nil {X : Cx} : GTs X [] gYes := ⟨_, pts_nil, fun A F H S σ b S' Q k e post => by cases e; exact post A F H (List.prefix_refl _) (SameT.refl F) k⟩
theorem ts_one {X : Cx} {c : Expr} {g : M Bool} (h : GT X c g) : GTs X [c] g := let ⟨_, p, r⟩ := h.ex; ⟨_, pts_one p, r⟩

/-! ### the turns of a comprehension -/
def gTurns (gg : D → Sx → Option Sx) (gt : M Bool) (ge : M D) (vs : List Nat) : List D → Sx → Option (List D × Sx)
  | [], S => some ([], S)
  | d :: ds, S => (gg d ⟨wipeS S.sl vs, S.os⟩).bind fun S1 => (gt S1).bind fun p =>
    if p.1 = true then (ge p.2).bind fun q => (gTurns gg gt ge vs ds q.2).bind fun r => some (q.1 :: r.1, r.2)
    else gTurns gg gt ge vs ds p.2
def gLc (gi : M (List D)) (gg : D → Sx → Option Sx) (gt : M Bool) (ge : M D) (vs : List Nat) : M D := fun S => (gi S).bind fun p => (gTurns gg gt ge vs p.1 p.2).bind fun r => some (.list r.1, ⟨backS p.2.sl r.2.sl vs, r.2.os⟩)
section
variable {K : PySem.W.Frag}
/-- a new list that is nobody's yet -/
def RdN (K : PySem.W.Frag) (t : TE) (g : M D) : Prop := ∀ A F H S σ d S' (Q : VK), Ok K A F H S σ → g S = some (d, S') →
  (∀ A' F' G p vs ds, A <+: A' → SameT F F' → Ok K A' F' G S' σ → G p = none → d = .list ds → Rps K F' vs ds → ds.length ≤ sizeLine → Q (.ref p) (upd G p (.lst vs))) → t σ H Q
theorem RdN.e {t : TE} {g : M D} (h : RdN K t g) : RdE K t g := by
  intro A F H S σ d S' Q k e post
  refine h A F H S σ d S' Q k e fun A1 F1 G p vs ds p1 s1 k1 hp ed r hz => ?_
  subst ed
  obtain ⟨s2, k2, r2⟩ := k1.newList hp r hz
  exact post A1 _ _ _ p1 (s1.trans s2) k2 r2
theorem rd_lc {wi : TI} {g : TG} {tt : TT} {te : TE} {gi : M (List D)} {gg : D → Sx → Option Sx} {gt : M Bool} {ge : M D} {tgt vs : List Nat} (hi : RdI K wi gi) (hg : RdG K tgt g gg) (ht : RdT K tt gt) (he : RdE K te ge) (hv : ∀ i ∈ tgt, i ∈ vs) :
    RdN K (tLc wi (gFr g) (tFrT tt) (tFr te) vs) (gLc gi gg gt ge vs) := by
  intro A F H S σ d S' Q k e post
  obtain ⟨⟨ds, S1⟩, e1, e⟩ := bind_inv e
  obtain ⟨⟨rs, S2⟩, e2, e⟩ := bind_inv e
  cases e
  refine hi A F H S σ ds S1 _ k e1 fun A1 F1 H1 J p1 s1 k1 w hz => fun L hL => ?_
  refine ⟨fun i m H => m = ds.length - i ∧ i ≤ ds.length ∧ ∃ A F G S acc us rest, SameT F1 F ∧ A1 <+: A ∧ Ok K A F G ⟨wipeS S.sl vs, S.os⟩ (wipe σ vs) ∧ G L = none ∧ H = upd G L (.lst us) ∧ Rps K F us acc ∧ acc.length ≤ i ∧
    gTurns gg gt ge vs (ds.drop i) S = some (rest, S2) ∧ acc ++ rest = rs, ⟨ds.length, by simp, Nat.zero_le _, A1, F1, H1, S1, [], [], rs, SameT.refl _, List.prefix_refl _, k1.wipe rfl, hL, rfl, .nil, Nat.le_refl _, by simpa using e2, rfl⟩, ?_⟩
  rintro i m H ⟨rfl, hil, A2, F2, G2, S3, acc, us, rest, s2, p2, k2, hG, rfl, ru, hla, et, ea⟩
  have sFH : SameT F1 (upd G2 L (.lst us)) := (s2.trans k2.sub.same.t).trans (same_upd hG)
  by_cases hlt : i < ds.length
  · refine .inr ⟨w.go i _ sFH hlt, fun H' => i + 1 ≤ ds.length ∧ ∃ A F G S acc us rest, SameT F1 F ∧ A1 <+: A ∧ Ok K A F G ⟨wipeS S.sl vs, S.os⟩ (wipe σ vs) ∧ G L = none ∧ H' = upd G L (.lst us) ∧ Rps K F us acc ∧ acc.length ≤ i + 1 ∧
      gTurns gg gt ge vs (ds.drop (i + 1)) S = some (rest, S2) ∧ acc ++ rest = rs, fun H' h => ⟨ds.length - (i + 1), by omega, rfl, h⟩, fun x H' hy => ?_⟩
    rw [List.drop_eq_getElem_cons hlt] at et
    obtain ⟨S4, e4, et⟩ := bind_inv (show (gg ds[i] ⟨wipeS S3.sl vs, S3.os⟩).bind _ = _ from et)
    obtain ⟨⟨b, S5⟩, e5, et⟩ := bind_inv et
    -- the item
    have key : ∃ F3 G3, SameT F2 F3 ∧ Ok K A2 F3 G3 ⟨wipeS S3.sl vs, S3.os⟩ (wipe σ vs) ∧ G3 L = none ∧ H' = upd G3 L (.lst us) ∧ Rp K F3 x ds[i] := by
      rcases w.yld i ds[i] _ x H' sFH (List.getElem?_eq_getElem hlt) hy with ⟨rfl, r⟩ | ⟨T, ws, es, rfl, hT, rfl, ed, r, hz2⟩
      · exact ⟨F2, G2, SameT.refl _, k2, hG, rfl, r.mono s2 _ _⟩
      · have hTL : T ≠ L := fun z => by subst z; rw [upd_same] at hT; cases hT
        have gT : G2 T = none := by rwa [upd_ne hTL] at hT
        obtain ⟨s3, k3, r3⟩ := k2.newTup gT (Rps.mono s2 _ _ r) hz2
        refine ⟨_, _, s3, k3, by rw [upd_ne (Ne.symm hTL)]; exact hG, ?_, by rw [ed]; exact r3⟩
        funext c
        by_cases h1 : c = T
        · subst h1; rw [upd_same, upd_ne hTL, upd_same]
        · rw [upd_ne h1]
          by_cases h2 : c = L
          · subst h2; rw [upd_same, upd_same]
          · rw [upd_ne h2, upd_ne h2, upd_ne h1]
    obtain ⟨F3, G3, s3, k3, hG3, rfl, rx⟩ := key
    refine ⟨G3, sub_one hG3 trivial, hg A2 F3 G3 _ _ x ds[i] S4 _ k3 rx e4 fun A4 F4 G4 σ4 p4 s4 k4 w4 => ⟨fun c xs q => ?_, fun lost => ?_⟩⟩
    · exact k4.sub.keep (k4.sub.same c _ (by
        have := k3.sub.keep q (fun z => z)
        exact s4.old c _ this trivial)) (fun z => z) |> fun z => k4.sub.same c _ z
    · have hG4 : G4 L = none := lost L _ upd_same hG3
      rw [mix_one hG3 hG4]
      refine ⟨(w4 vs hv).trans (by
        have : ∀ ws : List Nat, wipe (wipe σ ws) ws = wipe σ ws := by
          intro ws
          apply List.ext_getElem?
          intro n
          by_cases hn : n ∈ ws
          · have h1 : ∀ {τ : L2.St} {n : Nat} {ws : List Nat}, n ∈ ws → (wipe τ ws)[n]? = if n < τ.length then some none else none := by
              intro τ n ws
              induction ws with
              | nil => intro h; cases h
              | cons v ws ih =>
                intro h
                unfold wipe
                by_cases hv : v = n
                · subst hv
                  by_cases hl : v < τ.length
                  · rw [List.getElem?_set_self (by rw [wipe_length]; exact hl), if_pos hl]
                  · rw [List.getElem?_eq_none (by rw [List.length_set, wipe_length]; omega), if_neg hl]
                · rw [List.getElem?_set_ne hv]
                  exact ih ((List.mem_cons.mp h).resolve_left fun z => hv z.symm)
            rw [h1 hn, h1 hn, wipe_length]
          · rw [wipe_outV hn]
        exact this vs), G4, sub_one hG4 trivial, ht A4 F4 G4 S4 σ4 b S5 _ k4 e5 fun A5 F5 G5 p5 s5 k5 => ⟨fun c xs q => ?_, fun lost => ?_⟩⟩
      · exact k5.sub.same c _ (s5.old c _ (k4.sub.keep q (fun z => z)) trivial)
      · have hG5 : G5 L = none := lost L _ upd_same hG4
        rw [mix_one hG4 hG5]
        have w5 : wipe σ4 vs = wipe σ vs := (w4 vs hv).trans (by
          have h1 : ∀ {τ : L2.St} {n : Nat} {ws : List Nat}, n ∈ ws → (wipe τ ws)[n]? = if n < τ.length then some none else none := by
            intro τ n ws
            induction ws with
            | nil => intro h; cases h
            | cons v ws ih =>
              intro h
              unfold wipe
              by_cases hv : v = n
              · subst hv
                by_cases hl : v < τ.length
                · rw [List.getElem?_set_self (by rw [wipe_length]; exact hl), if_pos hl]
                · rw [List.getElem?_eq_none (by rw [List.length_set, wipe_length]; omega), if_neg hl]
              · rw [List.getElem?_set_ne hv]
                exact ih ((List.mem_cons.mp h).resolve_left fun z => hv z.symm)
          apply List.ext_getElem?
          intro n
          by_cases hn : n ∈ vs
          · rw [h1 hn, h1 hn, wipe_length]
          · rw [wipe_outV hn])
        cases b with
        | false =>
          rw [if_neg Bool.false_ne_true] at et
          show if false = true then _ else _
          rw [if_neg Bool.false_ne_true]
          exact ⟨hlt, A5, F5, G5, S5, acc, us, rest, s2.trans (s3.trans (s4.trans s5)), p2.trans (p4.trans p5), k5.wipe w5, hG5, rfl, Rps.mono (s3.trans (s4.trans s5)) _ _ ru, Nat.le_succ_of_le hla, et, ea⟩
        | true =>
          rw [if_pos rfl] at et
          show if true = true then _ else _
          rw [if_pos rfl]
          obtain ⟨⟨y, S6⟩, e6, et⟩ := bind_inv et
          obtain ⟨⟨rest', S7⟩, e7, et⟩ := bind_inv et
          cases et
          refine ⟨G5, sub_one hG5 trivial, he A5 F5 G5 S5 σ4 y S6 _ k5 e6 fun A6 F6 G6 v p6 s6 k6 r6 => ⟨fun c xs q => ?_, fun lost => ?_⟩⟩
          · exact k6.sub.same c _ (s6.old c _ (k5.sub.keep q (fun z => z)) trivial)
          · have hG6 : G6 L = none := lost L _ upd_same hG5
            rw [mix_one hG5 hG6]
            have ru' : Rps K F6 us acc := Rps.mono (s3.trans (s4.trans (s5.trans s6))) _ _ ru
            refine ⟨us, upd_same, ?_, hlt, A6, F6, G6, S6, acc ++ [y], us ++ [v], rest', s2.trans (s3.trans (s4.trans (s5.trans s6))), p2.trans (p4.trans (p5.trans p6)), k6.wipe w5, hG6, upd_upd, ru'.append (.cons r6 .nil), ?_, e7, ?_⟩
            · rw [ru'.length]
              omega
            · rw [List.length_append, List.length_singleton]
              omega
            · rw [← ea, List.append_assoc]; rfl
  · have ei : i = ds.length := by omega
    subst ei
    rw [List.drop_length] at et
    cases et
    refine .inl ⟨w.stop _ _ sFH (Nat.le_refl _), ?_⟩
    rw [List.append_nil] at ea
    subst ea
    exact post A2 F2 G2 L us acc (p1.trans p2) (s1.trans s2) (k1.back k2 p2 s2) hG rfl ru (Nat.le_trans hla hz)
end

/-! ### the one reading of each judgement -/
def tOf (K : PySem.W.Frag) (g : M D) : TE := fun σ H Q => ∃ A F S d S', Ok K A F H S σ ∧ g S = some (d, S') ∧ ∀ A' F' H' v, A <+: A' → SameT F F' → Ok K A' F' H' S' σ → Rp K F' v d → Q v H'
def ttOf (K : PySem.W.Frag) (g : M Bool) : TT := fun σ H Q => ∃ A F S d S', Ok K A F H S σ ∧ g S = some (d, S') ∧ ∀ A' F' H', A <+: A' → SameT F F' → Ok K A' F' H' S' σ → Q d H'
def gOf (K : PySem.W.Frag) (tgt : List Nat) (g : D → Sx → Option Sx) : TG := fun v σ H Q => ∃ A F S d S', Ok K A F H S σ ∧ Rp K F v d ∧ g d S = some S' ∧ ∀ A' F' H' σ', A <+: A' → SameT F F' → Ok K A' F' H' S' σ' → (∀ vs, (∀ i ∈ tgt, i ∈ vs) → wipe σ' vs = wipe σ vs) → Q σ' H'
def iOf (K : PySem.W.Frag) (g : M (List D)) : TI := fun σ H R => ∃ A F S ds S', Ok K A F H S σ ∧ g S = some (ds, S') ∧ ∀ A' F' H' J, A <+: A' → SameT F F' → Ok K A' F' H' S' σ → Walk K F' J ds → ds.length ≤ sizeLine → R J H'
theorem GE.pe {X : Cx} {e : Expr} {g : M D} (h : GE X e g) : PE X e (tOf X.K g) := by
  obtain ⟨t, p, r⟩ := h.ex
  exact ⟨fun pins s σ H Q I ⟨A, F, S, d, S', k, e, post⟩ => p.run pins s σ H Q I (r A F H S σ d S' Q k e post)⟩
theorem rd_of {K : PySem.W.Frag} {g : M D} : RdE K (tOf K g) g := fun A F H S σ d S' Q k e post => ⟨A, F, S, d, S', k, e, post⟩
theorem GTs.pts {X : Cx} {es : List Expr} {g : M Bool} (h : GTs X es g) : PTs X es (ttOf X.K g) := by
  obtain ⟨t, p, r⟩ := h.ex
  exact ⟨fun pins s σ H Q I ⟨A, F, S, d, S', k, e, post⟩ => p.run pins s σ H Q I (r A F H S σ d S' Q k e post)⟩
theorem rd_tof {K : PySem.W.Frag} {g : M Bool} : RdT K (ttOf K g) g := fun A F H S σ d S' Q k e post => ⟨A, F, S, d, S', k, e, post⟩
theorem GG.pg {X : Cx} {tgt : List Nat} {e : Expr} {g : D → Sx → Option Sx} (h : GG X tgt e g) : PG X e (gOf X.K tgt g) := by
  obtain ⟨t, p, r⟩ := h.ex
  exact ⟨fun pins s σ H v u Q I rv ⟨A, F, S, d, S', k, rd, e, post⟩ => p.run pins s σ H v u Q I rv (r A F H S σ v d S' Q k rd e post)⟩
theorem rd_gof {K : PySem.W.Frag} {tgt : List Nat} {g : D → Sx → Option Sx} : RdG K tgt (gOf K tgt g) g := fun A F H S σ v d S' Q k r e post => ⟨A, F, S, d, S', k, r, e, post⟩
theorem GI.pi {X : Cx} {tg e : Expr} {g : M (List D)} (h : GI X tg e g) : PI X tg e (iOf X.K g) := by
  obtain ⟨t, p, r⟩ := h.ex
  exact ⟨fun pins s σ H R I ⟨A, F, S, d, S', k, e, post⟩ => p.run pins s σ H R I (r A F H S σ d S' R k e post)⟩
theorem rd_iof {K : PySem.W.Frag} {g : M (List D)} : RdI K (iOf K g) g := fun A F H S σ d S' Q k e post => ⟨A, F, S, d, S', k, e, post⟩

/-! ### comprehensions -/
section
variable {X : Cx} {pos : Pos} {elt tg iter : Expr} {ifs : List Expr} {scope : Scope} {gi : M (List D)} {gg : D → Sx → Option Sx} {gt : M Bool} {ge : M D} {tgt : List Nat}
/-- the block of a comprehension, wherever it stands -/
abbrev InBlk (X : Cx) (scope : Scope) (P : Cx → Prop) : Prop := ∀ (s : Shared) (H : Hp) (C : Addr) (cl : List (Str × Addr)) (fp : List Addr), P (X.blk s H scope (compEnvC scope cl C X.env) fp)
structure GN (X : Cx) (e : Expr) (g : M D) : Prop where
  ex : ∃ t, PE X e t ∧ RdN X.K t g
theorem GN.e {X : Cx} {e : Expr} {g : M D} (h : GN X e g) : GE X e g := let ⟨_, p, r⟩ := h.ex; ⟨_, p, r.e⟩
theorem n_lc (own : List (Str × Nat)) (hN : X.N.Nodup) (hi : GI X tg iter gi) (ok : BlkOk X.N X.env.scope scope own) (hg : InBlk X scope fun Y => GG Y tgt tg gg) (ht : InBlk X scope fun Y => GTs Y ifs gt) (he : InBlk X scope fun Y => GE Y elt ge)
    (hv : ∀ i ∈ tgt, i ∈ own.map (·.2) := by decide) (hc : X.calm = true := by rfl) (hs : ∀ x, foldedSetIterable iter X.env x = pure x := by intro _; rfl) : GN X (.ListComp elt [⟨tg, iter, ifs, 0⟩] scope pos) (gLc gi gg gt ge (own.map (·.2))) :=
  ⟨_, pe_lc hc hN hi.pi ok (fun s H C cl fp => pg_fr (hg s H C cl fp).pg) (fun s H C cl fp => pts_fr (ht s H C cl fp).pts) (fun s H C cl fp => pe_fr (he s H C cl fp).pe) hs, rd_lc rd_iof rd_gof rd_tof rd_of hv⟩
end
end Fu

set_option maxHeartbeats 4000000
namespace Fu
open PySem PySem.Spec PyProof.Rows L2 RZ
variable [TabsC]

theorem wipe_at {τ : L2.St} {n : Nat} : ∀ {ws : List Nat}, n ∈ ws → (wipe τ ws)[n]? = if n < τ.length then some none else none
  | v :: ws, h => by
    unfold wipe
    by_cases hv : v = n
    · subst hv
      by_cases hl : v < τ.length
      · rw [List.getElem?_set_self (by rw [wipe_length]; exact hl), if_pos hl]
      · rw [List.getElem?_eq_none (by rw [List.length_set, wipe_length]; omega), if_neg hl]
    · rw [List.getElem?_set_ne hv]
      exact wipe_at ((List.mem_cons.mp h).resolve_left fun z => hv z.symm)
theorem wipe_wipe (σ : L2.St) (ws : List Nat) : wipe (wipe σ ws) ws = wipe σ ws := by
  apply List.ext_getElem?
  intro n
  by_cases hn : n ∈ ws
  · rw [wipe_at hn, wipe_at hn, wipe_length]
  · rw [wipe_outV hn]
/-- wiped twice, the second time less -/
theorem wipe_less {σ τ : L2.St} {vs ws : List Nat} (h : ∀ i ∈ ws, i ∈ vs) (e : wipe τ ws = wipe σ ws) : wipe τ vs = wipe σ vs := by
  have hl : τ.length = σ.length := by
    have := congrArg List.length e
    rwa [wipe_length, wipe_length] at this
  apply List.ext_getElem?
  intro n
  by_cases hn : n ∈ vs
  · rw [wipe_at hn, wipe_at hn, hl]
  · rw [wipe_outV hn, wipe_outV hn]
    have hw : n ∉ ws := fun z => hn (h n z)
    have := congrArg (fun l => l[n]?) e
    have h2 : (wipe τ ws)[n]? = (wipe σ ws)[n]? := this
    rwa [wipe_outV hw, wipe_outV hw] at h2
section
variable {K : PySem.W.Frag}
theorem yld_ok {A : List Addr} {F1 F2 G2 : Hp} {S : Sx} {τ : L2.St} {J : It} {ds : List D} {L : Addr} {us : List V} {i : Nat} {d : D} {x : V} {H' : Hp} (w : Walk K F1 J ds) (s2 : SameT F1 F2) (k2 : Ok K A F2 G2 S τ) (hG : G2 L = none) (hi : ds[i]? = some d)
    (hy : J.yld i (upd G2 L (.lst us)) x H') : ∃ F3 G3, SameT F2 F3 ∧ Ok K A F3 G3 S τ ∧ G3 L = none ∧ H' = upd G3 L (.lst us) ∧ Rp K F3 x d := by
  have sFH : SameT F1 (upd G2 L (.lst us)) := (s2.trans k2.sub.same.t).trans (same_upd hG)
  rcases w.yld i d _ x H' sFH hi hy with ⟨rfl, r⟩ | ⟨T, ws, es, rfl, hT, rfl, ed, r, hz2⟩
  · exact ⟨F2, G2, SameT.refl _, k2, hG, rfl, r.mono s2 _ _⟩
  · have hTL : T ≠ L := fun z => by subst z; rw [upd_same] at hT; cases hT
    have gT : G2 T = none := by rwa [upd_ne hTL] at hT
    obtain ⟨s3, k3, r3⟩ := k2.newTup gT (Rps.mono s2 _ _ r) hz2
    refine ⟨_, _, s3, k3, by rw [upd_ne (Ne.symm hTL)]; exact hG, ?_, by rw [ed]; exact r3⟩
    funext c
    by_cases h1 : c = T
    · subst h1; rw [upd_same, upd_ne hTL, upd_same]
    · rw [upd_ne h1]
      by_cases h2 : c = L
      · subst h2; rw [upd_same, upd_same]
      · rw [upd_ne h2, upd_ne h2, upd_ne h1]
theorem tup_keep {F F' G G' : Hp} (s1 : Sub F G) (s : SameT F F') (s2 : Sub F' G') : ∀ b xs, G b = some (.tup xs) → G' b = some (.tup xs) := fun b xs q =>
  s2.same b _ (s.old b _ (s1.keep q (fun z => z)) trivial)
end
/-- what is walked, over a part of the heap -/
theorem pi_fr {X : Cx} {tg e : Expr} {t : TI} (h : PI X tg e t) : PI X tg e (iFr t) := by
  refine ⟨fun pins s σ H R I ⟨G, S, q⟩ => ?_⟩
  refine thn (h.run _ s σ G _ (forget I S) q) fun v s1 h1 => thn h1 fun itv s2 h2 => ?_
  obtain ⟨it, fp, tn, J, G', e1, J1, T, st, hf, ht, hq⟩ := h2
  refine ⟨it, fp, tn, J, mixH G H G', e1, remember I S J1 ht, T, st, fun b hb => ?_, hq (lost_of I S J1)⟩
  obtain ⟨f0, f1, f2, f3, f4, f5⟩ := hf b hb
  refine ⟨?_, f1, f2, f3, f4, fun p hp => f5 p ((List.mem_append.mp hp).elim (fun z => List.mem_append_left _ z) fun z => List.mem_append_right _ (List.mem_append_left _ z))⟩
  cases q1 : G b with
  | some u => rw [mix_held q1]; exact f0
  | none =>
    cases q2 : H b with
    | none => rw [mix_free q2]; exact f0
    | some u =>
      obtain ⟨ob, hob⟩ := loose_there (I.hok b u q2) (S.loose b u q2 q1)
      exact absurd rfl (f5 (b, ob) (List.mem_append_right _ (List.mem_append_right _ (mem_lpins q2 q1 hob))))

/-! ### two clauses -/
def gTurns2 (gg : D → Sx → Option Sx) (gt : M Bool) (gi1 : M (List D)) (gg1 : D → Sx → Option Sx) (gt1 : M Bool) (ge : M D) (vs vs1 : List Nat) : List D → Sx → Option (List D × Sx)
  | [], S => some ([], S)
  | d :: ds, S => (gg d ⟨wipeS S.sl vs, S.os⟩).bind fun S1 => (gt S1).bind fun p =>
    if p.1 = true then (gi1 p.2).bind fun q => (gTurns gg1 gt1 ge vs1 q.1 q.2).bind fun r => (gTurns2 gg gt gi1 gg1 gt1 ge vs vs1 ds r.2).bind fun t => some (r.1 ++ t.1, t.2)
    else gTurns2 gg gt gi1 gg1 gt1 ge vs vs1 ds p.2
def gLc2 (gi : M (List D)) (gg : D → Sx → Option Sx) (gt : M Bool) (gi1 : M (List D)) (gg1 : D → Sx → Option Sx) (gt1 : M Bool) (ge : M D) (vs vs1 : List Nat) : M D := fun S => (gi S).bind fun p =>
  (gTurns2 gg gt gi1 gg1 gt1 ge vs vs1 p.1 p.2).bind fun r => if r.1.length ≤ sizeLine then some (.list r.1, ⟨backS p.2.sl r.2.sl vs, r.2.os⟩) else none
section
variable {K : PySem.W.Frag}
theorem rd_lc2 {wi wi1 : TI} {g g1 : TG} {tt tt1 : TT} {te : TE} {gi gi1 : M (List D)} {gg gg1 : D → Sx → Option Sx} {gt gt1 : M Bool} {ge : M D} {tgt tgt1 vs vs1 : List Nat} (hi : RdI K wi gi) (hg : RdG K tgt g gg) (ht : RdT K tt gt)
    (hi1 : RdI K wi1 gi1) (hg1 : RdG K tgt1 g1 gg1) (ht1 : RdT K tt1 gt1) (he : RdE K te ge) (hv : ∀ i ∈ tgt, i ∈ vs) (hv1 : ∀ i ∈ tgt1, i ∈ vs1) (hvv : ∀ i ∈ vs1, i ∈ vs) :
    RdN K (tLc2 wi (gFr g) (tFrT tt) (iFr wi1) (gFr g1) (tFrT tt1) (tFr te) vs vs1) (gLc2 gi gg gt gi1 gg1 gt1 ge vs vs1) := by
  intro A F H S σ d S' Q k e post
  obtain ⟨⟨ds, S1⟩, e1, e⟩ := bind_inv e
  obtain ⟨⟨rs, S2⟩, e2, e⟩ := bind_inv e
  simp only at e
  split at e
  case isFalse => cases e
  rename_i hrs
  cases e
  refine hi A F H S σ ds S1 _ k e1 fun A1 F1 H1 J p1 s1 k1 w hz => fun L hL => ?_
  refine ⟨fun i m H => m = ds.length - i ∧ i ≤ ds.length ∧ ∃ A F G S acc us rest, SameT F1 F ∧ A1 <+: A ∧ Ok K A F G ⟨wipeS S.sl vs, S.os⟩ (wipe σ vs) ∧ G L = none ∧ H = upd G L (.lst us) ∧ Rps K F us acc ∧
    gTurns2 gg gt gi1 gg1 gt1 ge vs vs1 (ds.drop i) S = some (rest, S2) ∧ acc ++ rest = rs, ⟨ds.length, by simp, Nat.zero_le _, A1, F1, H1, S1, [], [], rs, SameT.refl _, List.prefix_refl _, k1.wipe rfl, hL, rfl, .nil, by simpa using e2, rfl⟩, ?_⟩
  rintro i m H ⟨rfl, hil, A2, F2, G2, S3, acc, us, rest, s2, p2, k2, hG, rfl, ru, et, ea⟩
  have sFH : SameT F1 (upd G2 L (.lst us)) := (s2.trans k2.sub.same.t).trans (same_upd hG)
  by_cases hlt : i < ds.length
  · refine .inr ⟨w.go i _ sFH hlt, fun H' => i + 1 ≤ ds.length ∧ ∃ A F G S acc us rest, SameT F1 F ∧ A1 <+: A ∧ Ok K A F G ⟨wipeS S.sl vs, S.os⟩ (wipe σ vs) ∧ G L = none ∧ H' = upd G L (.lst us) ∧ Rps K F us acc ∧
      gTurns2 gg gt gi1 gg1 gt1 ge vs vs1 (ds.drop (i + 1)) S = some (rest, S2) ∧ acc ++ rest = rs, fun H' h => ⟨ds.length - (i + 1), by omega, rfl, h⟩, fun x H' hy => ?_⟩
    rw [List.drop_eq_getElem_cons hlt] at et
    obtain ⟨S4, e4, et⟩ := bind_inv (show (gg ds[i] ⟨wipeS S3.sl vs, S3.os⟩).bind _ = _ from et)
    obtain ⟨⟨b, S5⟩, e5, et⟩ := bind_inv et
    obtain ⟨F3, G3, s3, k3, hG3, rfl, rx⟩ := yld_ok w s2 k2 hG (List.getElem?_eq_getElem hlt) hy
    refine ⟨G3, sub_one hG3 trivial, hg A2 F3 G3 _ _ x ds[i] S4 _ k3 rx e4 fun A4 F4 G4 σ4 p4 s4 k4 w4 => ⟨tup_keep k3.sub s4 k4.sub, fun lost => ?_⟩⟩
    have hG4 : G4 L = none := lost L _ upd_same hG3
    rw [mix_one hG3 hG4]
    have w5 : wipe σ4 vs = wipe σ vs := (w4 vs hv).trans (wipe_wipe σ vs)
    refine ⟨by rw [w5], G4, sub_one hG4 trivial, ht A4 F4 G4 S4 σ4 b S5 _ k4 e5 fun A5 F5 G5 p5 s5 k5 => ⟨tup_keep k4.sub s5 k5.sub, fun lost => ?_⟩⟩
    have hG5 : G5 L = none := lost L _ upd_same hG4
    rw [mix_one hG4 hG5]
    have s35 : SameT F2 F5 := s3.trans (s4.trans s5)
    cases b with
    | false =>
      rw [if_neg Bool.false_ne_true] at et
      show if false = true then _ else _
      rw [if_neg Bool.false_ne_true]
      exact ⟨hlt, A5, F5, G5, S5, acc, us, rest, s2.trans s35, p2.trans (p4.trans p5), k5.wipe w5, hG5, rfl, Rps.mono s35 _ _ ru, et, ea⟩
    | true =>
      rw [if_pos rfl] at et
      show if true = true then _ else _
      rw [if_pos rfl]
      obtain ⟨⟨ds1, S6⟩, e6, et⟩ := bind_inv et
      obtain ⟨⟨rs1, S7⟩, e7, et⟩ := bind_inv et
      obtain ⟨⟨rest', S8⟩, e8, et⟩ := bind_inv et
      cases et
      refine ⟨G5, sub_one hG5 trivial, hi1 A5 F5 G5 S5 σ4 ds1 S6 _ k5 e6 fun A6 F6 G6 J1 p6 s6 k6 w6 hz6 => ⟨tup_keep k5.sub s6 k6.sub, fun lost => ?_⟩⟩
      have hG6 : G6 L = none := lost L _ upd_same hG5
      rw [mix_one hG5 hG6]
      have s36 : SameT F2 F6 := s35.trans s6
      refine ⟨fun j m H => m = ds1.length - j ∧ j ≤ ds1.length ∧ ∃ A F G S acc us rest, SameT F6 F ∧ A6 <+: A ∧ Ok K A F G ⟨wipeS S.sl vs1, S.os⟩ (wipe σ4 vs1) ∧ G L = none ∧ H = upd G L (.lst us) ∧ Rps K F us acc ∧
        gTurns gg1 gt1 ge vs1 (ds1.drop j) S = some (rest, S7) ∧ acc ++ (rest ++ rest') = rs, ⟨ds1.length, by simp, Nat.zero_le _, A6, F6, G6, S6, acc, us, rs1, SameT.refl _, List.prefix_refl _, k6.wipe rfl, hG6, rfl, Rps.mono s36 _ _ ru, by simpa using e7, ea⟩, ?_⟩
      rintro j m H ⟨rfl, hjl, A7, F7, G7, S9, acc7, us7, rest7, s7, p7, k7, hG7, rfl, ru7, et7, ea7⟩
      have sFH7 : SameT F6 (upd G7 L (.lst us7)) := (s7.trans k7.sub.same.t).trans (same_upd hG7)
      by_cases hlt7 : j < ds1.length
      · refine .inr ⟨w6.go j _ sFH7 hlt7, fun H' => j + 1 ≤ ds1.length ∧ ∃ A F G S acc us rest, SameT F6 F ∧ A6 <+: A ∧ Ok K A F G ⟨wipeS S.sl vs1, S.os⟩ (wipe σ4 vs1) ∧ G L = none ∧ H' = upd G L (.lst us) ∧ Rps K F us acc ∧
          gTurns gg1 gt1 ge vs1 (ds1.drop (j + 1)) S = some (rest, S7) ∧ acc ++ (rest ++ rest') = rs, fun H' h => ⟨ds1.length - (j + 1), by omega, rfl, h⟩, fun y H' hy7 => ?_⟩
        rw [List.drop_eq_getElem_cons hlt7] at et7
        obtain ⟨S10, e10, et7⟩ := bind_inv (show (gg1 ds1[j] ⟨wipeS S9.sl vs1, S9.os⟩).bind _ = _ from et7)
        obtain ⟨⟨b7, S11⟩, e11, et7⟩ := bind_inv et7
        obtain ⟨F8, G8, s8, k8, hG8, rfl, rx8⟩ := yld_ok w6 s7 k7 hG7 (List.getElem?_eq_getElem hlt7) hy7
        refine ⟨G8, sub_one hG8 trivial, hg1 A7 F8 G8 _ _ y ds1[j] S10 _ k8 rx8 e10 fun A9 F9 G9 σ9 p9 s9 k9 w9 => ⟨tup_keep k8.sub s9 k9.sub, fun lost => ?_⟩⟩
        have hG9 : G9 L = none := lost L _ upd_same hG8
        rw [mix_one hG8 hG9]
        have w10 : wipe σ9 vs1 = wipe σ4 vs1 := (w9 vs1 hv1).trans (wipe_wipe σ4 vs1)
        refine ⟨w10, G9, sub_one hG9 trivial, ht1 A9 F9 G9 S10 σ9 b7 S11 _ k9 e11 fun A10 F10 G10 p10 s10 k10 => ⟨tup_keep k9.sub s10 k10.sub, fun lost => ?_⟩⟩
        have hG10 : G10 L = none := lost L _ upd_same hG9
        rw [mix_one hG9 hG10]
        have s710 : SameT F7 F10 := s8.trans (s9.trans s10)
        cases b7 with
        | false =>
          rw [if_neg Bool.false_ne_true] at et7
          show if false = true then _ else _
          rw [if_neg Bool.false_ne_true]
          exact ⟨hlt7, A10, F10, G10, S11, acc7, us7, rest7, s7.trans s710, p7.trans (p9.trans p10), k10.wipe w10, hG10, rfl, Rps.mono s710 _ _ ru7, et7, ea7⟩
        | true =>
          rw [if_pos rfl] at et7
          show if true = true then _ else _
          rw [if_pos rfl]
          obtain ⟨⟨z, S12⟩, e12, et7⟩ := bind_inv et7
          obtain ⟨⟨rest8, S13⟩, e13, et7⟩ := bind_inv et7
          cases et7
          refine ⟨G10, sub_one hG10 trivial, he A10 F10 G10 S11 σ9 z S12 _ k10 e12 fun A11 F11 G11 v p11 s11 k11 r11 => ⟨tup_keep k10.sub s11 k11.sub, fun lost => ?_⟩⟩
          have hG11 : G11 L = none := lost L _ upd_same hG10
          rw [mix_one hG10 hG11]
          have ru' : Rps K F11 us7 acc7 := Rps.mono (s710.trans s11) _ _ ru7
          refine ⟨us7, upd_same, ?_, hlt7, A11, F11, G11, S12, acc7 ++ [z], us7 ++ [v], rest8, s7.trans (s710.trans s11), p7.trans (p9.trans (p10.trans p11)), k11.wipe w10, hG11, upd_upd, ru'.append (.cons r11 .nil), e13, ?_⟩
          · rw [ru'.length]
            have := congrArg List.length ea7
            simp only [List.length_append, List.length_cons] at this
            omega
          · rw [← ea7, List.append_assoc]; rfl
      · have ej : j = ds1.length := by omega
        subst ej
        rw [List.drop_length] at et7
        cases et7
        refine .inl ⟨w6.stop _ _ sFH7 (Nat.le_refl _), hlt, A7, F7, G7, S7, acc7, us7, rest', s2.trans (s36.trans s7), p2.trans (p4.trans (p5.trans (p6.trans p7))), ?_, hG7, rfl, ru7, e8, by simpa using ea7⟩
        -- wiped less becomes wiped more
        have k8 := k7.wipe (σ := σ) (vs := vs) ((wipe_less hvv (wipe_wipe σ4 vs1)).trans w5)
        have e9 : wipeS (wipeS S7.sl vs1) vs = wipeS S7.sl vs := by
          apply List.ext_getElem?
          intro n
          have at_ : ∀ {sl : List (Option R)} {n : Nat} {ws : List Nat}, n ∈ ws → (wipeS sl ws)[n]? = if n < sl.length then some none else none := by
            intro sl n ws
            induction ws with
            | nil => intro h; cases h
            | cons v ws ih =>
              intro h
              unfold wipeS
              by_cases hv : v = n
              · subst hv
                by_cases hl : v < sl.length
                · rw [List.getElem?_set_self (by rw [wipeS_len]; exact hl), if_pos hl]
                · rw [List.getElem?_eq_none (by rw [List.length_set, wipeS_len]; omega), if_neg hl]
              · rw [List.getElem?_set_ne hv]
                exact ih ((List.mem_cons.mp h).resolve_left fun z => hv z.symm)
          by_cases hn : n ∈ vs
          · rw [at_ hn, at_ hn, wipeS_len]
          · rw [wipeS_out hn, wipeS_out hn, wipeS_out fun z => hn (hvv n z)]
        simp only [e9] at k8
        exact k8
  · have ei : i = ds.length := by omega
    subst ei
    rw [List.drop_length] at et
    cases et
    refine .inl ⟨w.stop _ _ sFH (Nat.le_refl _), ?_⟩
    rw [List.append_nil] at ea
    subst ea
    exact post A2 F2 G2 L us acc (p1.trans p2) (s1.trans s2) (k1.back k2 p2 s2) hG rfl ru hrs
end
section
variable {X : Cx} {pos : Pos} {elt tg iter tg1 iter1 : Expr} {ifs ifs1 : List Expr} {scope : Scope} {gi gi1 : M (List D)} {gg gg1 : D → Sx → Option Sx} {gt gt1 : M Bool} {ge : M D} {tgt tgt1 : List Nat}
theorem n_lc2 (own : List (Str × Nat)) (vs1 : List Nat) (hN : X.N.Nodup) (hi : GI X tg iter gi) (ok : BlkOk X.N X.env.scope scope own) (hg : InBlk X scope fun Y => GG Y tgt tg gg) (ht : InBlk X scope fun Y => GTs Y ifs gt)
    (hi1 : InBlk X scope fun Y => GI Y tg1 iter1 gi1) (hg1 : InBlk X scope fun Y => GG Y tgt1 tg1 gg1) (ht1 : InBlk X scope fun Y => GTs Y ifs1 gt1) (he : InBlk X scope fun Y => GE Y elt ge)
    (hv : ∀ i ∈ tgt, i ∈ own.map (·.2) := by decide) (hv1 : ∀ i ∈ tgt1, i ∈ vs1 := by decide) (hvv : ∀ i ∈ vs1, i ∈ own.map (·.2) := by decide) (hc : X.calm = true := by rfl) (hs : ∀ x, foldedSetIterable iter X.env x = pure x := by intro _; rfl) (hs1 : ∀ env x, foldedSetIterable iter1 env x = pure x := by intro _ _; rfl) :
    GN X (.ListComp elt [⟨tg, iter, ifs, 0⟩, ⟨tg1, iter1, ifs1, 0⟩] scope pos) (gLc2 gi gg gt gi1 gg1 gt1 ge (own.map (·.2)) vs1) :=
  ⟨_, pe_lc2 hc hN hi.pi ok hvv (fun s H C cl fp => pg_fr (hg s H C cl fp).pg) (fun s H C cl fp => pts_fr (ht s H C cl fp).pts) (fun s H C cl fp => pi_fr (hi1 s H C cl fp).pi) (fun s H C cl fp => pg_fr (hg1 s H C cl fp).pg)
    (fun s H C cl fp => pts_fr (ht1 s H C cl fp).pts) (fun s H C cl fp => pe_fr (he s H C cl fp).pe) hs hs1, rd_lc2 rd_iof rd_gof rd_tof rd_iof rd_gof rd_tof rd_of hv hv1 hvv⟩
end
end Fu

set_option maxHeartbeats 4000000
namespace Fu
open PySem PySem.Spec PyProof.Rows L2 RZ
variable [TabsC]

/-! ### statements -/
inductive Out where
  | nx (S : Sx)
  | rt (d : D) (S : Sx)
  | bk (S : Sx)
  | ct (S : Sx)
  | ro (j : Nat) (S : Sx)
/-- what a statement's end hands on; B: what stands for good, A0: the cells that were there -/
def OutP (K : PySem.W.Frag) (B : Hp) (A0 : List Addr) (o : Out) (E : Ends) : Prop := match o with
  | .nx S' => ∀ A F H σ, SameT B F → A0 <+: A → Ok K A F H S' σ → E.nx σ H
  | .rt d S' => ∀ A F H σ v, SameT B F → A0 <+: A → Ok K A F H S' σ → Rp K F v d → E.rt v H
  | .bk S' => ∀ A F H σ, SameT B F → A0 <+: A → Ok K A F H S' σ → E.bk σ H
  | .ct S' => ∀ A F H σ, SameT B F → A0 <+: A → Ok K A F H S' σ → E.ct σ H
  | .ro j S' => ∀ A F H σ a, SameT B F → A0 <+: A → Ok K A F H S' σ → A[j]? = some a → E.rt (.ref a) H
def RdS (K : PySem.W.Frag) (P : Hp → Prop) (t : TS) (g : Sx → Option Out) : Prop := ∀ B A0 A F H S σ o (E : Ends), P B → SameT B F → A0 <+: A → Ok K A F H S σ → g S = some o → OutP K B A0 o E → t E σ H
structure GS (X : Cx) (P : Hp → Prop) (st : Stmt) (g : Sx → Option Out) : Prop where
  ex : ∃ t, PS X st t ∧ RdS X.K P t g
structure GSs (X : Cx) (P : Hp → Prop) (st : List Stmt) (g : Sx → Option Out) : Prop where
  ex : ∃ t, PSs X st t ∧ RdS X.K P t g
def qNx : Sx → Option Out := fun S => some (.nx S)
def qSeq (g h : Sx → Option Out) : Sx → Option Out := fun S => (g S).bind fun o => match o with
  | .nx S1 => h S1
  | o => some o
def qDrop (g : M D) : Sx → Option Out := fun S => (g S).bind fun p => some (.nx p.2)
def qRet (g : M D) : Sx → Option Out := fun S => (g S).bind fun p => some (.rt p.1 p.2)
def qRetN : Sx → Option Out := fun S => some (.rt .none S)
def qIf (t : M Bool) (g h : Sx → Option Out) : Sx → Option Out := fun S => (t S).bind fun p => if p.1 = true then g p.2 else h p.2
def qSet (i : Nat) (g : M D) : Sx → Option Out := fun S => (g S).bind fun p => some (.nx ⟨p.2.sl.set i (some (.dat p.1)), p.2.os⟩)
def qAsg (gg : D → Sx → Option Sx) (g : M D) : Sx → Option Out := fun S => (g S).bind fun p => (gg p.1 p.2).bind fun S1 => some (.nx S1)
/-- a new list of one's own -/
def qOwn (i : Nat) (g : M D) : Sx → Option Out := fun S => (g S).bind fun p => match p.1 with
  | .list ds => some (.nx ⟨p.2.sl.set i (some (.own p.2.os.length)), p.2.os ++ [some (.lst ds)]⟩)
  | _ => none
def qNone : Sx → Option Out := fun _ => none
section
variable {X : Cx} {P : Hp → Prop} {st : Stmt} {sts : List Stmt} {g h : Sx → Option Out} {e : Expr} {ge : M D} {pos : Pos}
theorem ss_nil : GSs X P [] qNx := ⟨_, pss_nil, fun B A0 A F H S σ o E hP s p k e post => by cases e; exact post A F H σ s p k⟩
theorem rd_seq {K : PySem.W.Frag} {t u : TS} (hg : RdS K P t g) (hh : RdS K P u h) : RdS K P (tSeq t u) (qSeq g h) := by
  intro B A0 A F H S σ o E hP s p k e post
  obtain ⟨o1, e1, e⟩ := bind_inv e
  refine hg B A0 A F H S σ o1 _ hP s p k e1 ?_
  cases o1 with
  | nx S1 => exact fun A1 F1 H1 σ1 s1 p1 k1 => hh B A0 A1 F1 H1 S1 σ1 o E hP s1 p1 k1 e post
  | rt d S1 => cases e; exact post
  | bk S1 => cases e; exact post
  | ct S1 => cases e; exact post
  | ro j S1 => cases e; exact post
theorem ss_cons (h1 : GS X P st g) (h2 : GSs X P sts h) : GSs X P (st :: sts) (qSeq g h) :=
  let ⟨_, p1, r1⟩ := h1.ex; let ⟨_, p2, r2⟩ := h2.ex; ⟨_, pss_cons p1 p2, rd_seq r1 r2⟩
theorem ss_one (h1 : GS X P st g) : GSs X P [st] g := let ⟨_, p1, r1⟩ := h1.ex; ⟨_, pss_one p1, r1⟩
theorem s_never : GS X P st qNone := ⟨_, ps_never, fun B A0 A F H S σ o E hP s p k e post => by cases e⟩
theorem s_expr (he : GE X e ge) (hs : swapsWith e none pos.line X.env = pure false := by rfl) : GS X P (.Expr e pos) (qDrop ge) := by
  obtain ⟨t, p1, r1⟩ := he.ex
  refine ⟨_, ps_expr p1 hs, fun B A0 A F H S σ o E hP s p k e post => ?_⟩
  obtain ⟨⟨d, S1⟩, e1, e⟩ := bind_inv e
  cases e
  exact r1 A F H S σ d S1 _ k e1 fun A1 F1 H1 v p1 s1 k1 _ => post A1 F1 H1 σ (s.trans s1) (p.trans p1) k1
theorem s_ret (he : GE X e ge) : GS X P (.Return (some e) pos) (qRet ge) := by
  obtain ⟨t, p1, r1⟩ := he.ex
  refine ⟨_, ps_ret p1, fun B A0 A F H S σ o E hP s p k e post => ?_⟩
  obtain ⟨⟨d, S1⟩, e1, e⟩ := bind_inv e
  cases e
  exact r1 A F H S σ d S1 _ k e1 fun A1 F1 H1 v p1 s1 k1 rv => post A1 F1 H1 σ v (s.trans s1) (p.trans p1) k1 rv
theorem s_if {c : Expr} {a b : List Stmt} {gt : M Bool} (hc : GT X c gt) (ha : GSs X P a g) (hb : GSs X P b h) : GS X P (.If c a b pos) (qIf gt g h) := by
  obtain ⟨t, pc, rc⟩ := hc.ex
  obtain ⟨_, pa, ra⟩ := ha.ex
  obtain ⟨_, pb, rb⟩ := hb.ex
  refine ⟨_, ps_if pc pa pb, fun B A0 A F H S σ o E hP s p k e post => ?_⟩
  obtain ⟨⟨x, S1⟩, e1, e⟩ := bind_inv e
  refine rc A F H S σ x S1 _ k e1 fun A1 F1 H1 p1 s1 k1 => ?_
  cases x with
  | true => exact ra B A0 A1 F1 H1 S1 σ o E hP (s.trans s1) (p.trans p1) k1 e post
  | false => exact rb B A0 A1 F1 H1 S1 σ o E hP (s.trans s1) (p.trans p1) k1 e post
theorem rd_asgN {K : PySem.W.Frag} {t : TE} (i : Nat) (r : RdE K t ge) : RdS K P (tAsg t (gName i)) (qSet i ge) := by
  intro B A0 A F H S σ o E hP s p k e post
  obtain ⟨⟨d, S1⟩, e1, e⟩ := bind_inv e
  cases e
  exact r A F H S σ d S1 _ k e1 fun A1 F1 H1 v p1 s1 k1 rv => post A1 F1 H1 _ (s.trans s1) (p.trans p1) (k1.setDat rv)
theorem s_set {x : Str} {pos' : Pos} (i : Nat) (hN : X.N.Nodup) (he : GE X e ge) (hx : Loc X.env.scope x := by first | exact Or.inl rfl | exact Or.inr rfl) (hi : X.N[i]? = some x := by rfl) (hs : swapsWith e (some (.Name x pos')) pos.line X.env = pure false := by rfl)
    (hf : X.fn x = true ∨ X.env.scope.names.lookup x = some .local := by first | exact .inl rfl | exact .inr rfl | assumption) : GS X P (.Assign [.Name x pos'] e pos) (qSet i ge) :=
  let ⟨_, p1, r1⟩ := he.ex; ⟨_, ps_set hN hi hx p1 hs hf, rd_asgN i r1⟩
theorem s_asg {tg : Expr} {tgt : List Nat} {gg : D → Sx → Option Sx} (hg : GG X tgt tg gg) (he : GE X e ge) (hs : swapsWithSole [tg] e pos.line X.env = pure false := by rfl) (hw : swappedStores [tg] e X.env = pure none := by rfl)
    (h1 : (assignEach [tg] X.env).map (·.2) = [assign tg X.env] := by rfl) : GS X P (.Assign [tg] e pos) (qAsg gg ge) := by
  obtain ⟨t, pa, ra⟩ := he.ex
  obtain ⟨u, pb, rb⟩ := hg.ex
  refine ⟨_, ps_asg pa pb hs hw h1, fun B A0 A F H S σ o E hP s p k e post => ?_⟩
  obtain ⟨⟨d, S1⟩, e1, e⟩ := bind_inv e
  obtain ⟨S2, e2, e⟩ := bind_inv e
  cases e
  exact ra A F H S σ d S1 _ k e1 fun A1 F1 H1 v p1 s1 k1 rv => rb A1 F1 H1 S1 σ v d S2 _ k1 rv e2 fun A2 F2 H2 σ2 p2 s2 k2 _ => post A2 F2 H2 σ2 (s.trans (s1.trans s2)) (p.trans (p1.trans p2)) k2
/-- a, b = x, y -/
def qPar (i j : Nat) (g : M (List D)) : Sx → Option Out := fun S => (g S).bind fun p => match p.1 with
  | [d, e] => some (.nx ⟨(p.2.sl.set i (some (.dat d))).set j (some (.dat e)), p.2.os⟩)
  | _ => none
/-- a list that stands in the heap and is nobody's becomes a cell -/
theorem Ok.adopt {K : PySem.W.Frag} {A : List Addr} {F G : Hp} {S : Sx} {σ : L2.St} (k : Ok K A F G S σ) {p : Addr} {vs : List V} {ds : List D} (hp : G p = none) (r : Rps K F vs ds) (hz : ds.length ≤ sizeLine) :
    Ok K (A ++ [p]) F (upd G p (.lst vs)) ⟨S.sl, S.os ++ [some (.lst ds)]⟩ σ := k.cellNew hp trivial ⟨vs, upd_same, r, hz⟩
theorem rd_asgO {K : PySem.W.Frag} {t : TE} (i : Nat) (r : RdN K t ge) : RdS K P (tAsg t (gName i)) (qOwn i ge) := by
  intro B A0 A F H S σ o E hP s p k e post
  obtain ⟨⟨d, S1⟩, e1, e⟩ := bind_inv e
  refine r A F H S σ d S1 _ k e1 fun A1 F1 G1 L vs ds p1 s1 k1 hL ed rv hz => ?_
  subst ed
  cases e
  have k2 := k1.adopt hL rv hz
  exact post _ F1 _ _ (s.trans s1) (p.trans (p1.trans (List.prefix_append _ _))) (k2.setOwn (j := S1.os.length) (by rw [k1.alen]; simp))
/-- a new list goes out, nobody's yet -/
def qRetO (g : M D) : Sx → Option Out := fun S => (g S).bind fun p => match p.1 with
  | .list ds => some (.ro p.2.os.length ⟨p.2.sl, p.2.os ++ [some (.lst ds)]⟩)
  | _ => none
theorem s_retNew (he : GN X e ge) : GS X P (.Return (some e) pos) (qRetO ge) := by
  obtain ⟨t, p1, r1⟩ := he.ex
  refine ⟨_, ps_ret p1, fun B A0 A F H S σ o E hP s p k e post => ?_⟩
  obtain ⟨⟨d, S1⟩, e1, e⟩ := bind_inv e
  refine r1 A F H S σ d S1 _ k e1 fun A1 F1 G1 L vs ds p1 s1 k1 hL ed rv hz => ?_
  subst ed
  cases e
  exact post _ F1 _ σ L (s.trans s1) (p.trans (p1.trans (List.prefix_append _ _))) (k1.adopt hL rv hz) (by rw [k1.alen]; simp)
theorem s_own {x : Str} {pos' : Pos} (i : Nat) (hN : X.N.Nodup) (he : GN X e ge) (hx : Loc X.env.scope x := by first | exact Or.inl rfl | exact Or.inr rfl) (hi : X.N[i]? = some x := by rfl) (hs : swapsWith e (some (.Name x pos')) pos.line X.env = pure false := by rfl)
    (hf : X.fn x = true ∨ X.env.scope.names.lookup x = some .local := by first | exact .inl rfl | exact .inr rfl | assumption) : GS X P (.Assign [.Name x pos'] e pos) (qOwn i ge) :=
  let ⟨_, p1, r1⟩ := he.ex; ⟨_, ps_set hN hi hx p1 hs hf, rd_asgO i r1⟩
end
section
variable {X : Cx} {P : Hp → Prop} {pos spos py : Pos} {y : Str} {elt tg iter tg1 iter1 : Expr} {ifs ifs1 : List Expr} {scope : Scope} {gi gi1 : M (List D)} {gg gg1 : D → Sx → Option Sx} {gt gt1 : M Bool} {ge : M D} {tgt tgt1 : List Nat}
/-- name = [..], on one line -/
structure Lc1 (X : Cx) (i : Nat) (st : Stmt) (g : M D) : Prop where
  ex : ∃ t, PS X st (tAsg t (gName i)) ∧ RdN X.K t g
theorem lc1 (i : Nat) (own : List (Str × Nat)) (hN : X.N.Nodup) (hi : GI X tg iter gi) (ok : BlkOk X.N X.env.scope scope own) (hg : InBlk X scope fun Y => GG Y tgt tg gg) (ht : InBlk X scope fun Y => GTs Y ifs gt) (he : InBlk X scope fun Y => GE Y elt ge)
    (hy : X.N[i]? = some y := by rfl) (hyl : X.env.scope.names.lookup y = some .local := by rfl) (hv : ∀ i ∈ tgt, i ∈ own.map (·.2) := by decide) (hc : X.calm = true := by rfl) (hs : ∀ x, foldedSetIterable iter X.env x = pure x := by intro _; rfl)
    (hsw : swapsWith (.ListComp elt [⟨tg, iter, ifs, 0⟩] scope pos) (some (.Name y py)) spos.line X.env = pure true := by exact sw_true rfl rfl rfl (by decide +kernel)) :
    Lc1 X i (.Assign [.Name y py] (.ListComp elt [⟨tg, iter, ifs, 0⟩] scope pos) spos) (gLc gi gg gt ge (own.map (·.2))) :=
  ⟨_, ps_setLc hc hN hy hyl hsw hi.pi ok (fun s H C cl fp => pg_fr (hg s H C cl fp).pg) (fun s H C cl fp => pts_fr (ht s H C cl fp).pts) (fun s H C cl fp => pe_fr (he s H C cl fp).pe) hs, rd_lc rd_iof rd_gof rd_tof rd_of hv⟩
theorem s_setLc {i : Nat} {st : Stmt} (h : Lc1 X i st ge) : GS X P st (qSet i ge) := let ⟨_, p, r⟩ := h.ex; ⟨_, p, rd_asgN i r.e⟩
end

/-! ### new lists -/
section
variable {X : Cx} {pos p : Pos} {a b e : Expr} {es : List Expr} {ga gb : M D} {gs : M (List D)}
theorem n_lst (hs : GA X es gs) : GN X (.List es pos) (gLst gs) := by
  obtain ⟨u, pb, rb⟩ := hs.ex
  refine ⟨_, pe_lst pb, fun A F H S σ d S' Q k e post => ?_⟩
  obtain ⟨⟨x, S1⟩, h1, e⟩ := bind_inv e
  simp only at e
  split at e
  · rename_i hz
    cases e
    exact rb A F H S σ x _ _ k h1 fun A1 F1 H1 vs p1 s1 k1 r1 => ⟨by rw [r1.length]; exact hz, fun p hp => post A1 F1 H1 p vs x p1 s1 k1 hp rfl r1 hz⟩
  · cases e
/-- [x] * n -/
def gRep (f : D → D → Option D) (ga gb : M D) : M D := fun S => (gBin f ga gb S).bind fun p => match p.1 with
  | .list ds => some (.list ds, p.2)
  | _ => none
end
end Fu

set_option maxHeartbeats 4000000
namespace Fu
open PySem PySem.Spec PyProof.Rows L2 RZ
variable [TabsC]

/-! ### lists that are written: items, length, comparisons -/
def ownOf (S : Sx) (i : Nat) : Option (Nat × List D) := match S.sl[i]? with
  | some (some (.own j)) => match S.os[j]? with
    | some (some (.lst cs)) => some (j, cs)
    | _ => none
  | _ => none
theorem own_at {K : PySem.W.Frag} {A : List Addr} {F H : Hp} {S : Sx} {σ : L2.St} {i j : Nat} {cs : List D} (k : Ok K A F H S σ) (h : ownOf S i = some (j, cs)) :
    ∃ a vs, S.sl[i]? = some (some (.own j)) ∧ S.os[j]? = some (some (.lst cs)) ∧ A[j]? = some a ∧ σ[i]? = some (some (.ref a)) ∧ F a = none ∧ H a = some (.lst vs) ∧ Rps K F vs cs ∧ cs.length ≤ sizeLine := by
  unfold ownOf at h
  split at h
  · rename_i j' ej
    split at h
    · rename_i cs' ec
      cases h
      obtain ⟨a, ha, ev⟩ := k.oslot i _ ej
      obtain ⟨a', ha', fa, vs, hv, r, hz⟩ := k.cell _ _ ec
      rw [ha] at ha'; cases ha'
      exact ⟨a, vs, ej, ec, ha, ev, fa, hv, r, hz⟩
    · cases h
  · cases h
/-- behind an expression: the cell as it stands by then -/
def cellOf (S : Sx) (j : Nat) : Option (List D) := match S.os[j]? with
  | some (some (.lst cs)) => some cs
  | _ => none
theorem cell_at {K : PySem.W.Frag} {A : List Addr} {F H : Hp} {S : Sx} {σ : L2.St} {j : Nat} {cs : List D} {a : Addr} (k : Ok K A F H S σ) (h : cellOf S j = some cs) (ha : A[j]? = some a) :
    ∃ vs, S.os[j]? = some (some (.lst cs)) ∧ F a = none ∧ H a = some (.lst vs) ∧ Rps K F vs cs ∧ cs.length ≤ sizeLine := by
  unfold cellOf at h
  split at h
  · rename_i cs' ec
    cases h
    obtain ⟨a', ha', fa, vs, hv, r, hz⟩ := k.cell _ _ ec
    rw [ha] at ha'; cases ha'
    exact ⟨vs, ec, fa, hv, r, hz⟩
  · cases h
section
variable {X : Cx} {P : Hp → Prop} {pos py p p2 apos : Pos} {y : Str} {b e : Expr} {es : List Expr} {gb ge : M D} {gs : M (List D)}
def gIxO (i : Nat) (gb : M D) : M D := fun S => (ownOf S i).bind fun o => (gb S).bind fun p => match p.1 with
  | .int n => (cellOf p.2 o.1).bind fun cs => (atI cs n).bind fun d => some (d, p.2)
  | _ => none
theorem e_ixO (i : Nat) (hb : GE X b gb) (hN : X.N[i]? = some y := by rfl) (hv : Vis X.env.scope y := by first | exact Or.inl rfl | exact Or.inr (Or.inl rfl) | exact Or.inr (Or.inr rfl)) (hs : PlainIx b := by exact fun _ _ => rfl) (hdy : (y == ("__debug__" : Str)) = false := by decide) (hcd : (y == ("__classdict__" : Str)) = false := by decide) :
    GE X (.Subscript (.Name y py) b pos) (gIxO i gb) := by
  obtain ⟨u, pb, rb⟩ := hb.ex
  refine ⟨_, pe_ix ix_list (pe_var hN hv hdy hcd) pb hs, fun A F H S σ d S' Q k h post => ?_⟩
  obtain ⟨⟨j, cs0⟩, e0, h⟩ := bind_inv h
  obtain ⟨⟨x, S1⟩, e1, h⟩ := bind_inv h
  obtain ⟨a, vs0, _, _, ha, ev, _⟩ := own_at k e0
  refine ⟨_, ev, rb A F H S σ x S1 _ k e1 fun A1 F1 H1 v p1 s1 k1 r1 => ?_⟩
  cases x <;> simp only at h <;> try cases h
  rename_i n
  obtain ⟨cs, e2, h⟩ := bind_inv h
  obtain ⟨d', e3, h⟩ := bind_inv h
  cases h
  obtain ⟨vs, _, _, hv', r, _⟩ := cell_at k1 e2 (prefix_at p1 ha)
  cases rp_int_inv r1
  obtain ⟨w, ew, rw'⟩ := rps_atI r e3
  exact ⟨a, vs, _, w, rfl, rfl, SqL.of hv', ew, post A1 F1 H1 w p1 s1 k1 rw'⟩
def gLenO (i : Nat) : M D := fun S => (ownOf S i).bind fun o => some (.int o.2.length, S)
theorem e_lenO (i : Nat) (hm : X.mg "len" = none) (hN : X.N[i]? = some y := by rfl) (hv : Vis X.env.scope y := by first | exact Or.inl rfl | exact Or.inr (Or.inl rfl) | exact Or.inr (Or.inr rfl)) (hdy : (y == ("__debug__" : Str)) = false := by decide) (hcd : (y == ("__classdict__" : Str)) = false := by decide)
    (hg : Gl X "len" := by rfl) (he : starEach [.Name y py] X.env = (false, eval (.Name y py) X.env) :: starEach [] X.env := by rfl) : GE X (.Call (.Name "len" p) [.Name y py] [] pos) (gLenO i) := by
  refine ⟨_, pe_callB call_len hg hm PySem.boot_len (pa_cons (pe_var hN hv hdy hcd) pa_nil he) (by decide) (by decide) he (by rfl), fun A F H S σ d S' Q k h post => ?_⟩
  obtain ⟨⟨j, cs⟩, e0, h⟩ := bind_inv h
  cases h
  obtain ⟨a, vs, _, _, ha, ev, _, hv', r, _⟩ := own_at k e0
  exact ⟨_, ev, _, _, rfl, .inl ⟨vs, SqL.of hv', r.length.symm⟩, post A F H _ (List.prefix_refl _) (SameT.refl F) k (.int _)⟩
/-- own on the left, own on the right -/
def gOL (f : D → D → Option D) (i : Nat) (gb : M D) : M D := fun S => (ownOf S i).bind fun o => (gb S).bind fun p => (cellOf p.2 o.1).bind fun cs => match f (.list cs) p.1 with
  | some (.bool b) => some (.bool b, p.2)
  | _ => none
def gOR (f : D → D → Option D) (gb : M D) (i : Nat) : M D := fun S => (gb S).bind fun p => (ownOf p.2 i).bind fun o => match f p.1 (.list o.2) with
  | some (.bool b) => some (.bool b, p.2)
  | _ => none
/-! ### lists that are written: append, extend, pop, xs[k] = v -/
def setCell (S : Sx) (j : Nat) (cs : List D) : Sx := ⟨S.sl, S.os.set j (some (.lst cs))⟩
/-- xs.append(e), its value None -/
def gApp (i : Nat) (ge : M D) : M D := fun S => (ownOf S i).bind fun o => (ge S).bind fun p => (cellOf p.2 o.1).bind fun cs => if cs.length < sizeLine then some (.none, setCell p.2 o.1 (cs ++ [p.1])) else none
theorem e_append (i : Nat) (he : GE X e ge) (hN : X.N[i]? = some y := by rfl) (hv : Vis X.env.scope y := by first | exact Or.inl rfl | exact Or.inr (Or.inl rfl) | exact Or.inr (Or.inr rfl)) (hdy : (y == ("__debug__" : Str)) = false := by decide) (hcd : (y == ("__classdict__" : Str)) = false := by decide)
    (hbase : attributeBase (.Name y py) "append" X.env (eval (.Name y py) X.env) = eval (.Name y py) X.env := by rfl)
    (hfew : ((backTo pos (starEach [e] X.env)).all (fun x => !x.1) && (backToKw pos (keywordEach [] X.env)).all (fun x => x.1.isSome) && decide (([e] : List Expr).length + ([] : List Keyword).length + (if ([] : List Keyword).isEmpty then 0 else 1) < 30)) = true := by rfl)
    (hline : (apos.endLine == pos.line) = true := by rfl) (hst : starEach [e] X.env = (false, eval e X.env) :: starEach [] X.env := by rfl) : GE X (.Call (.Attribute (.Name y py) "append" apos) [e] [] pos) (gApp i ge) := by
  obtain ⟨t, pa, ra⟩ := he.ex
  refine ⟨_, pe_bm PySem.F.plainAttrs_list PySem.F.slot_list_append PySem.F.type_list_append mt_append (pe_var hN hv hdy hcd) (pa_cons pa pa_nil hst) hbase hfew hline hst (by rfl), fun A F H S σ d S' Q k h post => ?_⟩
  obtain ⟨⟨j, cs0⟩, e0, h⟩ := bind_inv h
  obtain ⟨⟨x, S1⟩, e1, h⟩ := bind_inv h
  obtain ⟨cs, e2, h⟩ := bind_inv h
  simp only at h
  split at h
  · rename_i hlt
    cases h
    obtain ⟨a, vs0, _, _, ha, ev, _, hv0, _, _⟩ := own_at k e0
    refine ⟨_, ev, .inl ⟨rfl, _, SqL.of hv0⟩, ra A F H S σ x S1 _ k e1 fun A1 F1 H1 v p1 s1 k1 r1 => ?_⟩
    obtain ⟨vs, ec, fa, hv', rr, hz⟩ := cell_at k1 e2 (prefix_at p1 ha)
    refine ⟨a, vs, v, rfl, rfl, hv', by rw [rr.length]; exact hlt, ?_⟩
    exact post A1 F1 _ _ p1 s1 (k1.cellSet ec (prefix_at p1 ha) trivial ⟨_, upd_same, rr.append (.cons r1 .nil), by rw [List.length_append]; exact hlt⟩) .non
  · cases h
def gPopAt (i : Nat) (ge : M D) : M D := fun S => (ownOf S i).bind fun o => (ge S).bind fun p => (cellOf p.2 o.1).bind fun cs => match p.1 with
  | .int n => if 0 ≤ n ∧ n < cs.length then (cs[n.toNat]?).bind fun d => some (d, setCell p.2 o.1 (cs.eraseIdx n.toNat)) else none
  | _ => none
theorem e_popAt (i : Nat) (he : GE X e ge) (hN : X.N[i]? = some y := by rfl) (hv : Vis X.env.scope y := by first | exact Or.inl rfl | exact Or.inr (Or.inl rfl) | exact Or.inr (Or.inr rfl)) (hdy : (y == ("__debug__" : Str)) = false := by decide) (hcd : (y == ("__classdict__" : Str)) = false := by decide)
    (hbase : attributeBase (.Name y py) "pop" X.env (eval (.Name y py) X.env) = eval (.Name y py) X.env := by rfl)
    (hfew : ((backTo pos (starEach [e] X.env)).all (fun x => !x.1) && (backToKw pos (keywordEach [] X.env)).all (fun x => x.1.isSome) && decide (([e] : List Expr).length + ([] : List Keyword).length + (if ([] : List Keyword).isEmpty then 0 else 1) < 30)) = true := by rfl)
    (hline : (apos.endLine == pos.line) = true := by rfl) (hst : starEach [e] X.env = (false, eval e X.env) :: starEach [] X.env := by rfl) : GE X (.Call (.Attribute (.Name y py) "pop" apos) [e] [] pos) (gPopAt i ge) := by
  obtain ⟨t, pa, ra⟩ := he.ex
  refine ⟨_, pe_bm PySem.F.plainAttrs_list PySem.F.slot_list_pop PySem.F.type_list_pop mt_popAt (pe_var hN hv hdy hcd) (pa_cons pa pa_nil hst) hbase hfew hline hst (by rfl), fun A F H S σ d S' Q k h post => ?_⟩
  obtain ⟨⟨j, cs0⟩, e0, h⟩ := bind_inv h
  obtain ⟨⟨x, S1⟩, e1, h⟩ := bind_inv h
  obtain ⟨cs, e2, h⟩ := bind_inv h
  cases x with
  | int n =>
    simp only at h
    split at h
    · rename_i hn
      obtain ⟨d', e3, h⟩ := bind_inv h
      cases h
      obtain ⟨a, vs0, _, _, ha, ev, _, hv0, _, _⟩ := own_at k e0
      refine ⟨_, ev, .inl ⟨rfl, _, SqL.of hv0⟩, ra A F H S σ _ S1 _ k e1 fun A1 F1 H1 v p1 s1 k1 r1 => ?_⟩
      obtain ⟨vs, ec, fa, hv', rr, hz⟩ := cell_at k1 e2 (prefix_at p1 ha)
      cases rp_int_inv r1
      obtain ⟨w, ew, rw'⟩ := rr.get e3
      have hl := line_int
      refine ⟨a, vs, n, n.toNat, w, rfl, rfl, hv', by omega, by omega, seqIndex_of hn.1 (by rw [rr.length]; exact hn.2), ew, ?_⟩
      refine post A1 F1 _ w p1 s1 (k1.cellSet ec (prefix_at p1 ha) trivial ⟨_, upd_same, rr.erase _, ?_⟩) rw'
      have := len_erase cs n.toNat
      omega
    · cases h
  | _ => cases h
/-- xs[k] = v -/
def qSetO (i : Nat) (gb ge : M D) : Sx → Option Out := fun S => (ge S).bind fun p => (ownOf p.2 i).bind fun o => (gb p.2).bind fun q => match q.1 with
  | .int n => (cellOf q.2 o.1).bind fun cs => (ixN cs.length n).bind fun m => some (.nx (setCell q.2 o.1 (cs.set m p.1)))
  | _ => none
theorem s_setO {spos : Pos} (i : Nat) (hb : GE X b gb) (he : GE X e ge) (hN : X.N[i]? = some y := by rfl) (hv : Vis X.env.scope y := by first | exact Or.inl rfl | exact Or.inr (Or.inl rfl) | exact Or.inr (Or.inr rfl)) (hdy : (y == ("__debug__" : Str)) = false := by decide) (hcd : (y == ("__classdict__" : Str)) = false := by decide)
    (ha : ∀ v, assign (.Subscript (.Name y py) b pos) X.env v = (do
      let ov ← holding [v] (eval (.Name y py) X.env)
      let iv ← holding [v, ov] (eval b X.env)
      standAt pos
      holding [v, ov, iv] (setItem ov iv v)
      release [v, ov, iv] []) := by intro _; rfl)
    (hs : swapsWithSole [.Subscript (.Name y py) b pos] e spos.line X.env = pure false := by rfl) (hw : swappedStores [.Subscript (.Name y py) b pos] e X.env = pure none := by rfl)
    (h1 : (assignEach [.Subscript (.Name y py) b pos] X.env).map (·.2) = [assign (.Subscript (.Name y py) b pos) X.env] := by rfl) : GS X P (.Assign [.Subscript (.Name y py) b pos] e spos) (qSetO i gb ge) := by
  obtain ⟨t, pe, re⟩ := he.ex
  obtain ⟨u, pb, rb⟩ := hb.ex
  refine ⟨_, ps_asg pe (pg_sub (pe_var hN hv hdy hcd) pb set_list ha) hs hw h1, fun B A0 A F H S σ o E hP s p k h post => ?_⟩
  obtain ⟨⟨d, S1⟩, e1, h⟩ := bind_inv h
  obtain ⟨⟨j, cs0⟩, e0, h⟩ := bind_inv h
  obtain ⟨⟨x, S2⟩, e2, h⟩ := bind_inv h
  cases x <;> simp only at h <;> try cases h
  rename_i n
  obtain ⟨cs, e3, h⟩ := bind_inv h
  obtain ⟨m, e4, h⟩ := bind_inv h
  cases h
  refine re A F H S σ d S1 _ k e1 fun A1 F1 H1 v p1 s1 k1 r1 => ?_
  obtain ⟨a, vs0, _, _, ha', ev, _, hv0, _, _⟩ := own_at k1 e0
  refine ⟨_, ev, rb A1 F1 H1 S1 σ _ S2 _ k1 e2 fun A2 F2 H2 w p2 s2 k2 r2 => ?_⟩
  cases rp_int_inv r2
  obtain ⟨vs, ec, fa, hv', rr, hz⟩ := cell_at k2 e3 (prefix_at p2 ha')
  refine ⟨a, vs, n, m, rfl, rfl, hv', by rw [rr.length]; exact e4, ?_⟩
  exact post A2 F2 _ _ (s.trans (s1.trans s2)) (p.trans (p1.trans p2)) (k2.cellSet ec (prefix_at p2 ha') trivial ⟨_, upd_same, Rps.set _ (r1.mono s2 _ _) rr, by rw [List.length_set]; exact hz⟩)

/-! ### x += e of numbers -/
end

/-! ### loops -/
def gLoop (gg : D → Sx → Option Sx) (body : Sx → Option Out) : List D → Sx → Option Out
  | [], S => some (.nx S)
  | d :: ds, S => (gg d S).bind fun S1 => (body S1).bind fun o => match o with
    | .nx S2 => gLoop gg body ds S2
    | .ct S2 => gLoop gg body ds S2
    | .bk S2 => some (.nx S2)
    | .rt d S2 => some (.rt d S2)
    | .ro j S2 => some (.ro j S2)
def qFor (gi : M (List D)) (gg : D → Sx → Option Sx) (body : Sx → Option Out) : Sx → Option Out := fun S => (gi S).bind fun p => gLoop gg body p.1 p.2
section
variable {K : PySem.W.Frag} {P : Hp → Prop}
/-- the loop, its walk over a heap W that B holds -/
theorem rd_loop {g : TG} {tb : TS} {gg : D → Sx → Option Sx} {body : Sx → Option Out} {tgt : List Nat} (hg : RdG K tgt g gg) (hb : RdS K P tb body) {B W : Hp} {A0 : List Addr} {J : It} {ds : List D} {E : Ends} {o : Out} (hP : P B) (w : Walk K W J ds) (hW : SameT W B)
    (post : OutP K B A0 o E) {A : List Addr} {F H : Hp} {S : Sx} {σ : L2.St} (s : SameT B F) (p : A0 <+: A) (k : Ok K A F H S σ) (e : gLoop gg body ds S = some o) :
    ∃ Wi : Nat → Nat → L2.St → Hp → Prop, (∃ m, Wi 0 m σ H) ∧ ∀ i m σ H, Wi i m σ H →
      (J.stop i H ∧ E.nx σ H) ∨ (J.go i H ∧ ∃ N : L2.St → Hp → Prop, (∀ σ' H', N σ' H' → ∃ m', m' < m ∧ Wi (i + 1) m' σ' H') ∧ ∀ x H', J.yld i H x H' → g x σ H' fun σ2 H2 => tb { E with nx := N, ct := N, bk := E.nx } σ2 H2) := by
  refine ⟨fun i m σ H => m = ds.length - i ∧ i ≤ ds.length ∧ ∃ A F S, SameT B F ∧ A0 <+: A ∧ Ok K A F H S σ ∧ gLoop gg body (ds.drop i) S = some o, ⟨ds.length, by simp, Nat.zero_le _, A, F, S, s, p, k, by simpa using e⟩, ?_⟩
  rintro i m σ1 H1 ⟨rfl, hil, A1, F1, S1, s1, p1, k1, e1⟩
  have sWH : SameT W H1 := (hW.trans s1).trans k1.sub.same.t
  by_cases hlt : i < ds.length
  · refine .inr ⟨w.go i _ sWH hlt, fun σ' H' => i + 1 ≤ ds.length ∧ ∃ A F S, SameT B F ∧ A0 <+: A ∧ Ok K A F H' S σ' ∧ gLoop gg body (ds.drop (i + 1)) S = some o, fun σ' H' h => ⟨ds.length - (i + 1), by omega, rfl, h⟩, fun x H' hy => ?_⟩
    rw [List.drop_eq_getElem_cons hlt] at e1
    obtain ⟨S2, e2, e1⟩ := bind_inv (show (gg ds[i] S1).bind _ = _ from e1)
    obtain ⟨o2, e3, e1⟩ := bind_inv e1
    have key : ∃ F2, SameT F1 F2 ∧ Ok K A1 F2 H' S1 σ1 ∧ Rp K F2 x ds[i] := by
      rcases w.yld i ds[i] _ x H' sWH (List.getElem?_eq_getElem hlt) hy with ⟨rfl, r⟩ | ⟨T, ws, es, rfl, hT, rfl, ed, r, hz2⟩
      · exact ⟨F1, SameT.refl _, k1, (r.mono hW _ _).mono s1 _ _⟩
      · obtain ⟨s3, k3, r3⟩ := k1.newTup hT (Rps.mono s1 _ _ (Rps.mono hW _ _ r)) hz2
        exact ⟨_, s3, k3, by rw [ed]; exact r3⟩
    obtain ⟨F2, s2, k2, rx⟩ := key
    refine hg A1 F2 H' S1 σ1 x ds[i] S2 _ k2 rx e2 fun A3 F3 H3 σ3 p3 s3 k3 _ => ?_
    refine hb B A0 A3 F3 H3 S2 σ3 o2 _ hP (s1.trans (s2.trans s3)) (p1.trans p3) k3 e3 ?_
    cases o2 with
    | nx S4 => exact fun A4 F4 H4 σ4 s4 p4 k4 => ⟨hlt, A4, F4, S4, s4, p4, k4, e1⟩
    | ct S4 => exact fun A4 F4 H4 σ4 s4 p4 k4 => ⟨hlt, A4, F4, S4, s4, p4, k4, e1⟩
    | bk S4 => cases e1; exact post
    | rt d S4 => cases e1; exact post
    | ro j S4 => cases e1; exact post
  · have ei : i = ds.length := by omega
    subst ei
    rw [List.drop_length] at e1
    cases e1
    exact .inl ⟨w.stop _ _ sWH (Nat.le_refl _), post A1 F1 H1 σ1 s1 p1 k1⟩
end
section
variable {X : Cx} {P : Hp → Prop} {pos : Pos} {tg iter : Expr} {body : List Stmt} {gi : M (List D)} {gg : D → Sx → Option Sx} {g : Sx → Option Out} {tgt : List Nat}
theorem same_outp {K : PySem.W.Frag} {B B' : Hp} {A0 A0' : List Addr} {o : Out} {E : Ends} (s : SameT B B') (p : A0 <+: A0') (h : OutP K B A0 o E) : OutP K B' A0' o E := by
  cases o with
  | nx S => exact fun A F H σ s1 p1 k => h A F H σ (s.trans s1) (p.trans p1) k
  | rt d S => exact fun A F H σ v s1 p1 k => h A F H σ v (s.trans s1) (p.trans p1) k
  | bk S => exact fun A F H σ s1 p1 k => h A F H σ (s.trans s1) (p.trans p1) k
  | ct S => exact fun A F H σ s1 p1 k => h A F H σ (s.trans s1) (p.trans p1) k
  | ro j S => exact fun A F H σ a s1 p1 k => h A F H σ a (s.trans s1) (p.trans p1) k
/-- over data that stand: the body may be judged over any base -/
theorem s_for (hp : PassesOwn (model X.prog X.w) X.A X.env X.xe) (hi : GI X tg iter gi) (hg : GG X tgt tg gg) (hb : GSs X P body g) (hPall : ∀ B, P B) (hc : X.calm = true := by rfl) (hs : ∀ x, foldedSetIterable iter X.env x = pure x := by intro _; rfl) : GS X P (.For tg iter body [] pos) (qFor gi gg g) := by
  obtain ⟨t, pi, ri⟩ := hi.ex
  obtain ⟨u, pg, rg⟩ := hg.ex
  obtain ⟨v, pb, rb⟩ := hb.ex
  refine ⟨_, ps_for hp hc pi pg pb hs, fun B A0 A F H S σ o E hP s p k e post => ?_⟩
  obtain ⟨⟨ds, S1⟩, e1, e⟩ := bind_inv e
  exact ri A F H S σ ds S1 _ k e1 fun A1 F1 H1 J p1 s1 k1 w _ => rd_loop rg rb (hPall F1) w (SameT.refl F1) (same_outp (s.trans s1) p post) (SameT.refl F1) (p1) k1 e
/-- over numbers -/
theorem s_for0 (hp : PassesOwn (model X.prog X.w) X.A X.env X.xe) (hi : GI0 X tg iter gi) (hg : GG X tgt tg gg) (hb : GSs X P body g) (hc : X.calm = true := by rfl) (hs : ∀ x, foldedSetIterable iter X.env x = pure x := by intro _; rfl) : GS X P (.For tg iter body [] pos) (qFor gi gg g) := by
  obtain ⟨t, pi, ri⟩ := hi.ex
  obtain ⟨u, pg, rg⟩ := hg.ex
  obtain ⟨v, pb, rb⟩ := hb.ex
  refine ⟨_, ps_for hp hc pi pg pb hs, fun B A0 A F H S σ o E hP s p k e post => ?_⟩
  obtain ⟨⟨ds, S1⟩, e1, e⟩ := bind_inv e
  exact ri A F H S σ ds S1 _ k e1 fun A1 F1 H1 J p1 s1 k1 w => rd_loop rg rb hP w (SameT.empty _) post (s.trans s1) (p.trans p1) k1 e
/-- while: so many turns at most -/
def gWhile (gt : M Bool) (body : Sx → Option Out) : Nat → Sx → Option Out
  | 0, _ => none
  | n + 1, S => (gt S).bind fun p => if p.1 = true then (body p.2).bind fun o => match o with
      | .nx S2 => gWhile gt body n S2
      | .ct S2 => gWhile gt body n S2
      | .bk S2 => some (.nx S2)
      | .rt d S2 => some (.rt d S2)
      | .ro j S2 => some (.ro j S2)
    else some (.nx p.2)
theorem s_while (n : Nat) {c : Expr} {gt : M Bool} (hp : PassesOwn (model X.prog X.w) X.A X.env X.xe) (hcnd : GT X c gt) (hb : GSs X P body g) : GS X P (.While c body [] pos) (gWhile gt g n) := by
  obtain ⟨t, pc, rc⟩ := hcnd.ex
  obtain ⟨v, pb, rb⟩ := hb.ex
  refine ⟨_, ps_while hp pc pb, fun B A0 A F H S σ o E hP s p k e post => ?_⟩
  refine ⟨fun m σ H => ∃ A F S, SameT B F ∧ A0 <+: A ∧ Ok X.K A F H S σ ∧ gWhile gt g m S = some o, ⟨n, A, F, S, s, p, k, e⟩, ?_⟩
  rintro m σ1 H1 ⟨A1, F1, S1, s1, p1, k1, e1⟩
  cases m with
  | zero => cases e1
  | succ m =>
    obtain ⟨⟨b, S2⟩, e2, e1⟩ := bind_inv (show (gt S1).bind _ = _ from e1)
    refine rc A1 F1 H1 S1 σ1 b S2 _ k1 e2 fun A2 F2 H2 p2 s2 k2 => ?_
    cases b with
    | false =>
      cases e1
      exact post A2 F2 H2 σ1 (s1.trans s2) (p1.trans p2) k2
    | true =>
      rw [if_pos rfl] at e1
      obtain ⟨o2, e3, e1⟩ := bind_inv e1
      show if true = true then _ else _
      rw [if_pos rfl]
      refine ⟨fun σ' H' => ∃ A F S, SameT B F ∧ A0 <+: A ∧ Ok X.K A F H' S σ' ∧ gWhile gt g m S = some o, fun σ' H' h => ⟨m, Nat.lt_succ_self m, h⟩, ?_⟩
      refine rb B A0 A2 F2 H2 S2 σ1 o2 _ hP (s1.trans s2) (p1.trans p2) k2 e3 ?_
      cases o2 with
      | nx S4 => exact fun A4 F4 H4 σ4 s4 p4 k4 => ⟨A4, F4, S4, s4, p4, k4, e1⟩
      | ct S4 => exact fun A4 F4 H4 σ4 s4 p4 k4 => ⟨A4, F4, S4, s4, p4, k4, e1⟩
      | bk S4 => cases e1; exact post
      | rt d S4 => cases e1; exact post
      | ro j S4 => cases e1; exact post
end
end Fu

set_option maxHeartbeats 4000000
namespace Fu
open PySem PySem.Spec PyProof.Rows L2 RZ
variable [TabsC]

/-! ### defs -/
def initS (n : Nat) (ds : List D) : List (Option R) := ds.map (fun d => some (.dat d)) ++ List.replicate (n - ds.length) none
/-- a def's value by data -/
def mF (n : Nat) (g : Sx → Option Out) : List D → Option D := fun ds => (g ⟨initS n ds, []⟩).bind fun o => match o with
  | .nx _ => some .none
  | .rt d _ => some d
  | _ => none
/-- .. where the first argument is a list that it writes -/
def mIO (n : Nat) (g : Sx → Option Out) : List D → List D → Option (D × List D) := fun cs ds => (g ⟨some (.own 0) :: initS (n - 1) ds, [some (.lst cs)]⟩).bind fun o => match o with
  | .nx S => (cellOf S 0).bind fun c => some (.none, c)
  | .rt d S => (cellOf S 0).bind fun c => some (d, c)
  | _ => none
theorem initS_in {n : Nat} {ds : List D} {i : Nat} {r : R} (h : (initS n ds)[i]? = some (some r)) : ∃ d, ds[i]? = some d ∧ r = .dat d := by
  unfold initS at h
  by_cases hi : i < ds.length
  · rw [List.getElem?_append_left (by simpa using hi), List.getElem?_map] at h
    obtain ⟨d', e1, e2⟩ := Option.map_eq_some_iff.mp h
    cases e2
    exact ⟨d', e1, rfl⟩
  · rw [List.getElem?_append_right (by simp; omega)] at h
    have := List.mem_of_getElem? h
    rw [List.mem_replicate] at this
    exact nomatch this.2
theorem start_at {N : List Str} {vs : List V} {i : Nat} {v : V} (h : vs[i]? = some v) : (L2.start N vs)[i]? = some (some v) := by
  unfold L2.start
  rw [List.getElem?_append_left (by rw [List.length_map]; exact (List.getElem?_eq_some_iff.mp h).1), List.getElem?_map, h]
  rfl
theorem start_dat {K : PySem.W.Frag} {H : Hp} {N : List Str} {vs : List V} {ds : List D} (r : Rps K H vs ds) (hl : vs.length ≤ N.length) {H' : Hp} (s : Sub H H') (tb : LamX.Tabs TabsC.T H) : Ok K [] H H' ⟨initS N.length ds, []⟩ (L2.start N vs) := by
  refine ⟨s, ?_, rfl, List.nodup_nil, fun i q h => ?_, fun j c h => by simp at h, fun a h => by simp at h, tb⟩
  · simp [initS, L2.start, r.length]
  · obtain ⟨d, e1, rfl⟩ := initS_in h
    obtain ⟨v, ev, rv⟩ := r.get e1
    exact ⟨v, start_at ev, .dat rv⟩
section
variable {P : Program} {w : World} {K : PySem.W.Frag} {mg : Str → Option Value} {base : Heap} {x qual : Str} {st : Stmt} {f : Addr} {fd : FuncData} {N ps : List Str} {k n : Nat} {g : Sx → Option Out}
abbrev AnyB : Hp → Prop := fun _ => True
/-- the context of the def's body -/
abbrev cxF (P : Program) (w : World) (K : PySem.W.Frag) (mg : Str → Option Value) (base : Heap) (N : List Str) (qual : Str) (st : Stmt) (f : Addr) (cdv : Value) (A : Around) (outer : List Env) (s : Shared) (H : Hp) (E : XK) : Cx := (cxOf CX0 P w K mg base N qual (defScope st) f cdv A outer s H E).nox
theorem fn_pure (F : Fun K x qual st f fd) (S : FnScope N ps (defScope st)) (hn : ps.length = n) (hN : n ≤ N.length)
    (body : ∀ (cdv : Value) (A : Around) (outer : List Env) (s : Shared) (H : Hp) (E : XK), Room k (A.deeper (envOfC qual (defScope st) s.heap.objs.size f cdv)) → GSs (cxF P w K mg base N qual st f cdv A outer s H E) AnyB (defBody st) g) :
    FnOk P w K mg base CX0 (k + 1) f fd ps (spF K n (mF N.length g)) := by
  refine F.ok S (spF_len hn) fun cdv A outer s H vs Q E hr h => ?_
  obtain ⟨ds, z, hd, r, e, tb, post⟩ := h
  obtain ⟨t, p, rd⟩ := (body cdv A outer s H E hr).ex
  refine ⟨t, p, ?_⟩
  obtain ⟨o, e1, e⟩ := bind_inv e
  have hl : vs.length ≤ N.length := by rw [r.length, hd]; exact hN
  refine rd H [] [] H H _ (L2.start N vs) o _ trivial (SameT.refl H) (List.prefix_refl _) (start_dat r hl (Sub.refl H) tb) e1 ?_
  cases o with
  | nx S => cases e; exact fun A1 F1 H1 σ1 s1 p1 k1 => post H1 .non (s1.trans k1.sub.same.t) .non
  | rt d S => cases e; exact fun A1 F1 H1 σ1 v s1 p1 k1 rv => post H1 v (s1.trans k1.sub.same.t) (rv.mono k1.sub.same.t _ _)
  | bk S => cases e
  | ct S => cases e
  | ro j S => cases e
theorem start_own {K : PySem.W.Frag} {F : Hp} {N : List Str} {a : Addr} {xs vs : List V} {cs ds : List D} (fa : F a = none) (rc : Rps K F xs cs) (hz : cs.length ≤ sizeLine) (r : Rps K F vs ds) (hl : vs.length + 1 ≤ N.length) (tb : LamX.Tabs TabsC.T F) :
    Ok K [a] F (upd F a (.lst xs)) ⟨some (.own 0) :: initS (N.length - 1) ds, [some (.lst cs)]⟩ (L2.start N (.ref a :: vs)) := by
  obtain ⟨m, M, rfl⟩ : ∃ m M, N = m :: M := by
    cases N with
    | nil => simp at hl
    | cons m M => exact ⟨m, M, rfl⟩
  have hl' : vs.length ≤ M.length := by simpa using hl
  have k := start_dat (N := M) r hl' (sub_one fa (o := .lst xs) trivial) tb
  have es : L2.start (m :: M) (.ref a :: vs) = some (.ref a) :: L2.start M vs := by
    unfold L2.start
    simp
  rw [es]
  simp only [List.length_cons, Nat.add_sub_cancel]
  refine ⟨k.sub, by simpa using k.len, rfl, by simp, fun i r h => ?_, fun j c h => ?_, fun b h => ?_, tb⟩
  · cases i with
    | zero =>
      simp at h
      subst h
      exact ⟨_, rfl, .own rfl⟩
    | succ i =>
      obtain ⟨v, e1, r1⟩ := k.rslot i r (by simpa using h)
      exact ⟨v, by simpa using e1, r1.mono (List.nil_prefix) (SameT.refl _) _ _⟩
  · cases j with
    | zero =>
      simp at h
      subst h
      exact ⟨a, rfl, fa, xs, upd_same, rc, hz⟩
    | succ j => simp at h
  · simp at h
    subst h
    exact ⟨_, upd_same, trivial⟩
theorem fn_io (F : Fun K x qual st f fd) (S : FnScope N ps (defScope st)) (hn : ps.length = n + 1) (hN : n + 1 ≤ N.length)
    (body : ∀ (cdv : Value) (A : Around) (outer : List Env) (s : Shared) (H : Hp) (E : XK), Room k (A.deeper (envOfC qual (defScope st) s.heap.objs.size f cdv)) → GSs (cxF P w K mg base N qual st f cdv A outer s H E) AnyB (defBody st) g) :
    FnOk P w K mg base CX0 (k + 1) f fd ps (spIO K n (mIO N.length g)) := by
  refine F.ok S (spIO_len hn) fun cdv A outer s H vs Q E hr h => ?_
  obtain ⟨a, xs, rest, F0, cs, ds, r, cs', rfl, fa, rfl, hz, rc, rr, hd, e, tb, post⟩ := h
  obtain ⟨t, p, rd⟩ := (body cdv A outer s _ E hr).ex
  refine ⟨t, p, ?_⟩
  obtain ⟨o, e1, e⟩ := bind_inv e
  have hl : rest.length + 1 ≤ N.length := by rw [rr.length, hd]; exact hN
  have fin : ∀ (A1 : List Addr) (F1 H1 : Hp) (σ1 : L2.St) (S1 : Sx) (v : V) (d : D) (c : List D), SameT F0 F1 → [a] <+: A1 → Ok K A1 F1 H1 S1 σ1 → Rp K F1 v d → cellOf S1 0 = some c → (d, c) = (r, cs') → Q v H1 := by
    intro A1 F1 H1 σ1 S1 v d c s1 p1 k1 rv hc ee
    cases ee
    have ha : A1[0]? = some a := prefix_at p1 rfl
    obtain ⟨us, ec, fa1, hv, rc1, hz1⟩ := cell_at k1 hc ha
    have s2 : SameT F1 (fun b => if b = a then none else H1 b) := L2.Same.t fun b o q => by
      show (if b = a then none else H1 b) = some o
      rw [if_neg (ne_of_none q fa1)]
      exact k1.sub.same b o q
    have := post (fun b => if b = a then none else H1 b) us v (s1.trans s2) (if_pos rfl) (Rps.mono s2 _ _ rc1) hz1 (rv.mono s2 _ _)
    rwa [show upd (fun b => if b = a then none else H1 b) a (.lst us) = H1 from ?_] at this
    funext b
    by_cases hb : b = a
    · subst hb; rw [upd_same, hv]
    · rw [upd_ne hb]; exact if_neg hb
  refine rd F0 [a] [a] F0 _ _ _ o _ trivial (SameT.refl F0) (List.prefix_refl _) (start_own fa rc hz rr hl tb) e1 ?_
  cases o with
  | nx S =>
    obtain ⟨c, hc, e⟩ := bind_inv e
    exact fun A1 F1 H1 σ1 s1 p1 k1 => fin A1 F1 H1 σ1 S .non .none c s1 p1 k1 .non hc (by cases e; rfl)
  | rt d S =>
    obtain ⟨c, hc, e⟩ := bind_inv e
    exact fun A1 F1 H1 σ1 v s1 p1 k1 rv => fin A1 F1 H1 σ1 S v d c s1 p1 k1 rv hc (by cases e; rfl)
  | bk S => cases e
  | ct S => cases e
  | ro j S => cases e
end
theorem hu65 {A : Around} {k : Nat} (hr : Room k A) : A.units + 65 < cLine := by have := hr.un; omega


/-! ### defs that hand back a new list -/
/-- the heap without the list at a -/
def lessH (H : Hp) (a : Addr) : Hp := fun b => if b = a then none else H b
theorem less_upd {H : Hp} {a : Addr} {o : HO} (h : H a = some o) : upd (lessH H a) a o = H := by
  funext b
  by_cases hb : b = a
  · subst hb; rw [upd_same, h]
  · rw [upd_ne hb]; exact if_neg hb
theorem less_same {K : PySem.W.Frag} {A : List Addr} {F H : Hp} {S : Sx} {σ : L2.St} (k : Ok K A F H S σ) {a : Addr} (fa : F a = none) : SameT F (lessH H a) := L2.Same.t fun b o q => by
  show (if b = a then none else H b) = some o
  rw [if_neg (ne_of_none q fa)]
  exact k.sub.same b o q
section
variable {P : Program} {w : World} {K : PySem.W.Frag} {mg : Str → Option Value} {base : Heap} {x qual : Str} {st : Stmt} {f : Addr} {fd : FuncData} {N ps : List Str} {k n : Nat} {g : Sx → Option Out}
end
/-! ### the script -/
section
variable {X : Cx} {pos p p2 py : Pos} {y : Str} {lo hi : Option Expr} {gl gh : M (Option Int)}
def scrOf (S : Sx) (i : Nat) : Option (List Int) := match S.sl[i]? with
  | some (some (.scr ns)) => some ns
  | _ => none
theorem scr_at {K : PySem.W.Frag} {A : List Addr} {F H : Hp} {S : Sx} {σ : L2.St} {i : Nat} {ns : List Int} (k : Ok K A F H S σ) (h : scrOf S i = some ns) : ns.length ≤ 63 ∧ ∃ a, σ[i]? = some (some (.ref a)) ∧ SqL K F a (ns.map V.int) := by
  unfold scrOf at h
  split at h
  · rename_i ns' e
    cases h
    exact k.sslot i _ e
  · cases h
def gScrSl (i : Nat) (gl gh : M (Option Int)) : M D := fun S => (scrOf S i).bind fun ns => (gl S).bind fun q => (gh q.2).bind fun r => some (.list ((cutL ns q.1 r.1).map .int), r.2)
theorem cut_map {α β : Type} (f : α → β) (xs : List α) (lo hi : Option Int) : cutL (xs.map f) lo hi = (cutL xs lo hi).map f := by
  unfold cutL
  rw [List.length_map, List.map_take, List.map_drop]
theorem e_scrSl (i : Nat) (hl : GO X lo gl) (hh : GO X hi gh) (hN : X.N[i]? = some y := by rfl) (hv : Vis X.env.scope y := by first | exact Or.inl rfl | exact Or.inr (Or.inl rfl) | exact Or.inr (Or.inr rfl)) (hdy : (y == ("__debug__" : Str)) = false := by decide) (hcd : (y == ("__classdict__" : Str)) = false := by decide) :
    GE X (.Subscript (.Name y py) (.Slice lo hi none p2) pos) (gScrSl i gl gh) := by
  obtain ⟨_, pl, rl⟩ := hl.ex
  obtain ⟨_, ph, rh⟩ := hh.ex
  refine ⟨_, pe_slice sl_list (pe_var hN hv hdy hcd) pl ph, fun A F H S σ d S' Q k e post => ?_⟩
  obtain ⟨ns, e0, e⟩ := bind_inv e
  obtain ⟨⟨l, S2⟩, h2, e⟩ := bind_inv e
  obtain ⟨⟨u, S3⟩, h3, e⟩ := bind_inv e
  cases e
  obtain ⟨hz, a, ev, hs⟩ := scr_at k e0
  refine ⟨_, ev, rl A F H S σ l _ _ k h2 fun A2 F2 H2 p2 s2 k2 => rh A2 F2 H2 _ σ u _ _ k2 h3 fun A3 F3 H3 p3 s3 k3 => ⟨a, _, rfl, k3.sub.same.seq (s3.seq (s2.seq hs)), fun p hp => ?_⟩⟩
  have e2 : cutV (ns.map V.int) l u = (cutL ns l u).map V.int := cut_map V.int ns l u
  rw [e2]
  obtain ⟨s4, k4, r4⟩ := k3.newList hp (Rps.ints (cutL ns l u)) (by
    rw [List.length_map]
    have h1 := cutL_le ns l u
    have h2 : (63 : Nat) ≤ sizeLine := by decide
    omega)
  exact post A3 _ _ _ (p2.trans p3) (s2.trans (s3.trans s4)) k4 r4
def gScrLen (i : Nat) : M D := fun S => (scrOf S i).bind fun ns => some (.int ns.length, S)
theorem e_scrLen (i : Nat) (hm : X.mg "len" = none) (hN : X.N[i]? = some y := by rfl) (hv : Vis X.env.scope y := by first | exact Or.inl rfl | exact Or.inr (Or.inl rfl) | exact Or.inr (Or.inr rfl)) (hdy : (y == ("__debug__" : Str)) = false := by decide) (hcd : (y == ("__classdict__" : Str)) = false := by decide)
    (hg : Gl X "len" := by rfl) (he : starEach [.Name y py] X.env = (false, eval (.Name y py) X.env) :: starEach [] X.env := by rfl) : GE X (.Call (.Name "len" p) [.Name y py] [] pos) (gScrLen i) := by
  refine ⟨_, pe_callB call_len hg hm PySem.boot_len (pa_cons (pe_var hN hv hdy hcd) pa_nil he) (by decide) (by decide) he (by rfl), fun A F H S σ d S' Q k h post => ?_⟩
  obtain ⟨ns, e0, h⟩ := bind_inv h
  cases h
  obtain ⟨hz, a, ev, hs⟩ := scr_at k e0
  exact ⟨_, ev, _, _, rfl, .inl ⟨_, k.sub.same.seq hs, (List.length_map _).symm⟩, post A F H _ (List.prefix_refl _) (SameT.refl F) k (.int _)⟩
end
/-- a def of the script that hands back a new list -/
def spScrN (K : PySem.W.Frag) (f : List Int → Option (List D)) : Sp := fun vs H Q _ => ∃ a ns zs, vs = [.ref a] ∧ SqL K H a (ns.map V.int) ∧ ns.length ≤ 63 ∧ f ns = some zs ∧ LamX.Tabs TabsC.T H ∧
  ∀ F p us, SameT H F → F p = none → Rps K F us zs → zs.length ≤ sizeLine → Q (.ref p) (upd F p (.lst us))
def mScrN (n : Nat) (g : Sx → Option Out) : List Int → Option (List D) := fun ns => (g ⟨some (.scr ns) :: List.replicate (n - 1) none, []⟩).bind fun o => match o with
  | .ro j S => cellOf S j
  | _ => none
/-- the law: True -/
def mScr (n : Nat) (g : Sx → Option Out) : List Int → Option D := fun ns => (g ⟨some (.scr ns) :: List.replicate (n - 1) none, []⟩).bind fun o => match o with
  | .rt d _ => some d
  | _ => none
/-- nothing that is written stands there -/
def NoLst (B : Hp) : Prop := ∀ b xs, B b ≠ some (.lst xs)
def spLaw (K : PySem.W.Frag) (f : List Int → Option D) : Sp := fun vs H Q _ => ∃ a ns, vs = [.ref a] ∧ SqL K H a (ns.map V.int) ∧ ns.length ≤ 63 ∧ NoLst H ∧ f ns = some (.bool true) ∧ LamX.Tabs TabsC.T H ∧ ∀ H', Q (.bl true) H'
theorem start_scr {K : PySem.W.Frag} {H : Hp} {N : List Str} {a : Addr} {ns : List Int} (h : SqL K H a (ns.map V.int)) (hz : ns.length ≤ 63) (hN : 1 ≤ N.length) (tb : LamX.Tabs TabsC.T H) : Ok K [] H H ⟨some (.scr ns) :: List.replicate (N.length - 1) none, []⟩ (L2.start N [.ref a]) := by
  refine ⟨Sub.refl H, ?_, rfl, List.nodup_nil, fun i r e => ?_, fun j c e => by simp at e, fun b e => by simp at e, tb⟩
  · simp [L2.start]
  · cases i with
    | zero =>
      simp at e
      subst e
      exact ⟨_, rfl, .scr hz h⟩
    | succ i =>
      have := List.mem_of_getElem? (show (List.replicate (N.length - 1) (none : Option R))[i]? = some (some r) by simpa using e)
      rw [List.mem_replicate] at this
      exact nomatch this.2
section
variable {P : Program} {w : World} {K : PySem.W.Frag} {mg : Str → Option Value} {base : Heap} {x qual : Str} {st : Stmt} {f : Addr} {fd : FuncData} {N ps : List Str} {k n : Nat} {g : Sx → Option Out}
theorem fn_scrN (F : Fun K x qual st f fd) (S : FnScope N ps (defScope st)) (hn : ps.length = 1) (hN : 1 ≤ N.length)
    (body : ∀ (cdv : Value) (A : Around) (outer : List Env) (s : Shared) (H : Hp) (E : XK), Room k (A.deeper (envOfC qual (defScope st) s.heap.objs.size f cdv)) → GSs (cxF P w K mg base N qual st f cdv A outer s H E) AnyB (defBody st) g) :
    FnOk P w K mg base CX0 (k + 1) f fd ps (spScrN K (mScrN N.length g)) := by
  refine F.ok S (fun vs H Q E h => by obtain ⟨a, ns, zs, rfl, _⟩ := h; exact hn.symm) fun cdv A outer s H vs Q E hr h => ?_
  obtain ⟨a, ns, zs, rfl, hs, hz, e, tb, post⟩ := h
  obtain ⟨t, p, rd⟩ := (body cdv A outer s H E hr).ex
  refine ⟨t, p, ?_⟩
  obtain ⟨o, e1, e⟩ := bind_inv e
  refine rd H [] [] H H _ _ o _ trivial (SameT.refl H) (List.prefix_refl _) (start_scr hs hz hN tb) e1 ?_
  cases o with
  | nx S => cases e
  | rt d S => cases e
  | bk S => cases e
  | ct S => cases e
  | ro j S =>
    intro A1 F1 H1 σ1 a s1 p1 k1 ha
    obtain ⟨us, ec, fa, hv, rc, hz⟩ := cell_at k1 e ha
    have := post (lessH H1 a) a us (s1.trans (less_same k1 fa)) (if_pos rfl) (Rps.mono (less_same k1 fa) _ _ rc) hz
    rwa [less_upd hv] at this
end

/-! ### a def by its name -/
def Has (P : Program) (w : World) (K : PySem.W.Frag) (mg : Str → Option Value) (base : Heap) (x : Str) (k : Nat) (ps : List Str) (sp : Sp) : Prop :=
  ∃ f fd, mg x = some (.ref f) ∧ PySem.W.keepIn K (.ref f) = true ∧ L2.Binds K fd ps [] ∧ FnOk P w K mg base CX0 k f fd ps sp
def DefAt (K : PySem.W.Frag) (mg : Str → Option Value) (x : Str) (st : Stmt) (ps : List Str) : Prop := ∃ f fd, mg x = some (.ref f) ∧ Fun K x x st f fd ∧ L2.Binds K fd ps []
theorem Has.imp {P : Program} {w : World} {K : PySem.W.Frag} {mg : Str → Option Value} {base : Heap} {x : Str} {k : Nat} {ps : List Str} {sp sp' : Sp} (h : Has P w K mg base x k ps sp) (i : ∀ vs H Q E, sp' vs H Q E → sp vs H Q E) : Has P w K mg base x k ps sp' :=
  let ⟨f, fd, a, b, c, F⟩ := h; ⟨f, fd, a, b, c, F.imp i⟩
section
variable {P : Program} {w : World} {K : PySem.W.Frag} {mg : Str → Option Value} {base : Heap} {x : Str} {st : Stmt} {N ps : List Str} {k n : Nat} {g : Sx → Option Out}
abbrev Body (P : Program) (w : World) (K : PySem.W.Frag) (mg : Str → Option Value) (base : Heap) (N : List Str) (x : Str) (st : Stmt) (k : Nat) (Pb : Hp → Prop) (g : Sx → Option Out) : Prop :=
  ∀ (f : Addr) (cdv : Value) (A : Around) (outer : List Env) (s : Shared) (H : Hp) (E : XK), Room k (A.deeper (envOfC x (defScope st) s.heap.objs.size f cdv)) → GSs (cxF P w K mg base N x st f cdv A outer s H E) Pb (defBody st) g
theorem has_pure (D : DefAt K mg x st ps) (S : FnScope N ps (defScope st)) (hn : ps.length = n) (hN : n ≤ N.length) (body : Body P w K mg base N x st k AnyB g) : Has P w K mg base x (k + 1) ps (spF K n (mF N.length g)) :=
  let ⟨f, fd, m, F, b⟩ := D; ⟨f, fd, m, F.kp, b, fn_pure F S hn hN (body f)⟩
theorem has_io (D : DefAt K mg x st ps) (S : FnScope N ps (defScope st)) (hn : ps.length = n + 1) (hN : n + 1 ≤ N.length) (body : Body P w K mg base N x st k AnyB g) : Has P w K mg base x (k + 1) ps (spIO K n (mIO N.length g)) :=
  let ⟨f, fd, m, F, b⟩ := D; ⟨f, fd, m, F.kp, b, fn_io F S hn hN (body f)⟩
theorem has_scrN (D : DefAt K mg x st ps) (S : FnScope N ps (defScope st)) (hn : ps.length = 1) (hN : 1 ≤ N.length) (body : Body P w K mg base N x st k AnyB g) : Has P w K mg base x (k + 1) ps (spScrN K (mScrN N.length g)) :=
  let ⟨f, fd, m, F, b⟩ := D; ⟨f, fd, m, F.kp, b, fn_scrN F S hn hN (body f)⟩
end
section
variable {X : Cx} {pos p p2 py : Pos} {x y : Str} {e : Expr} {es : List Expr} {gs : M (List D)} {k n : Nat} {ps : List Str}
theorem e_callH {f : List D → Option D} (h : Has X.prog X.w X.K X.mg X.base x k ps (spF X.K n f)) (hr : Room k X.A) (ha : GA X (e :: es) gs) (hg : Gl X x := by rfl) (hdb : (x == ("__debug__" : Str)) = false := by decide)
    (he : starEach (e :: es) X.env = (false, eval e X.env) :: starEach es X.env := by rfl) (hpl : (backTo pos (starEach es X.env)).any (·.1) = false := by rfl) : GE X (.Call (.Name x p) (e :: es) [] pos) (gCallF n f gs) :=
  let ⟨fa, fd, m, kp, b, F⟩ := h; e_call F hr m kp b pass0 ha hg hdb he hpl
theorem e_callHIO {f : List D → List D → Option (D × List D)} (i : Nat) (h : Has X.prog X.w X.K X.mg X.base x k ps (spIO X.K n f)) (hr : Room k X.A) (ha : GA X es gs)
    (hN : X.N[i]? = some y := by rfl) (hv : Vis X.env.scope y := by first | exact Or.inl rfl | exact Or.inr (Or.inl rfl) | exact Or.inr (Or.inr rfl)) (hdy : (y == ("__debug__" : Str)) = false := by decide) (hcd : (y == ("__classdict__" : Str)) = false := by decide)
    (hg : Gl X x := by rfl) (hdb : (x == ("__debug__" : Str)) = false := by decide) (he : starEach (.Name y py :: es) X.env = (false, eval (.Name y py) X.env) :: starEach es X.env := by rfl) (hpl : (backTo pos (starEach es X.env)).any (·.1) = false := by rfl) :
    GE X (.Call (.Name x p) (.Name y py :: es) [] pos) (gIO i n f gs) :=
  let ⟨fa, fd, m, kp, b, F⟩ := h; e_callIO i F hr m kp b pass0 ha hN hv hdy hcd hg hdb he hpl
theorem mix_new {F1 H1 F' : Hp} {p : Addr} {o : HO} (hp : mixH F1 H1 (upd F' p o) p = some o) (hn : F' p = none) : mixH F1 H1 (upd F' p o) = upd (mixH F1 H1 F') p o := by
  funext b
  by_cases hb : b = p
  · subst hb; rw [upd_same, hp]
  · rw [upd_ne hb]
    unfold mixH
    rw [upd_ne hb]
def gCallScr (i : Nat) (f : List Int → Option (List D)) : M D := fun S => (scrOf S i).bind fun ns => (f ns).bind fun z => some (.list z, S)
theorem n_callScr {f : List Int → Option (List D)} (i : Nat) (h : Has X.prog X.w X.K X.mg X.base x k ps (spScrN X.K f)) (hr : Room k X.A)
    (hN : X.N[i]? = some y := by rfl) (hv : Vis X.env.scope y := by first | exact Or.inl rfl | exact Or.inr (Or.inl rfl) | exact Or.inr (Or.inr rfl)) (hdy : (y == ("__debug__" : Str)) = false := by decide) (hcd : (y == ("__classdict__" : Str)) = false := by decide)
    (hg : Gl X x := by rfl) (hdb : (x == ("__debug__" : Str)) = false := by decide) (he : starEach [.Name y py] X.env = (false, eval (.Name y py) X.env) :: starEach [] X.env := by rfl) : GN X (.Call (.Name x p) [.Name y py] [] pos) (gCallScr i f) := by
  obtain ⟨fa, fd, m, kp, b, F⟩ := h
  refine ⟨_, pe_callF F hr hg m kp b .nil pass0 (pa_cons (pe_var hN hv hdy hcd) pa_nil he) hdb he (by rfl), fun A F H S σ d S' Q k h post => ?_⟩
  obtain ⟨ns, h1, h⟩ := bind_inv h
  obtain ⟨z, h2, h⟩ := bind_inv h
  cases h
  obtain ⟨hz, a, ev, hs⟩ := scr_at k h1
  refine ⟨_, ev, F, k.sub, a, ns, z, by rfl, hs, hz, h2, k.tab, fun F' L us sm hL ru hz => ⟨fun b xs q => by
      rw [upd_ne (ne_of_none (sm.old b _ q trivial) hL)]; exact sm.old b _ q trivial, fun lost => ?_⟩⟩
  have lostF : ∀ b o, H b = some o → F b = none → F' b = none := fun b o ho hf => by
    have := lost b o ho hf
    by_cases hb : b = L
    · subst hb; exact hL
    · rwa [upd_ne hb] at this
  have hLH : H L = none := by
    cases q : H L with
    | none => rfl
    | some u =>
      cases q2 : F L with
      | none => have := lost L u q q2; rw [upd_same] at this; cases this
      | some v => obtain ⟨v', e'⟩ := sm.stay L v q2; rw [e'] at hL; cases hL
  rw [mix_new (by rw [mix_free hLH, upd_same]) hL]
  exact post A F' _ L us z (List.prefix_refl _) sm (k.mix sm lostF) (by rw [mix_free hLH]; exact hL) rfl ru hz
theorem e_gintE {i : Int} (hm : ∃ t, X.mg x = some (.int i t)) (hg : Gl X x := by rfl) (hd : (x == ("__debug__" : Str)) = false := by decide) : GE X (.Name x pos) (gC (.int i)) := let ⟨_, m⟩ := hm; e_gint m hg hd
theorem e_gstrE {z : Str} (hm : ∃ t, X.mg x = some (.str z t)) (hg : Gl X x := by rfl) (hz : z.length ≤ sizeLine := by decide) (hd : (x == ("__debug__" : Str)) = false := by decide) : GE X (.Name x pos) (gC (.str z)) := let ⟨_, m⟩ := hm; e_gstr m hg hz hd
end
end Fu

set_option maxHeartbeats 4000000
namespace Fu
open PySem PySem.Spec PyProof.Rows L2 RZ
variable [TabsC]

section
variable {K : PySem.W.Frag} {F H : Hp}
end

/-! ### sorted(xs) of data -/
def sortOk (xs : List D) : Bool := (xs.all fun d => xs.all fun e => PySem.W.alike d e) && ((xs.all fun d => match d with
  | .tuple (_ :: _) => true
  | _ => false) || (xs.all fun d => match d with
  | .none => false
  | .tuple _ => false
  | _ => true)) && xs.all fun d => d.depth ≤ 20 && d.canLay0
abbrev leD : D → D → Bool := PySem.W.dataLe false (fun d : D => d)
def dSorted : List D → Option D
  | [.list xs] => if sortOk xs = true then some (.list (xs.mergeSort leD)) else none
  | [.tuple xs] => none
  | _ => none
theorem sortOk_all {xs : List D} (h : sortOk xs = true) : PySem.W.AllAlike xs ∧ PySem.W.Sortable xs ∧ ∀ d ∈ xs, d.depth ≤ 20 ∧ d.canLay0 = true := by
  unfold sortOk at h
  rw [Bool.and_eq_true, Bool.and_eq_true, Bool.or_eq_true] at h
  obtain ⟨⟨h1, h2⟩, h3⟩ := h
  refine ⟨fun d hd e he => List.all_eq_true.mp (List.all_eq_true.mp h1 d hd) e he, ?_, fun d hd => ?_⟩
  · rcases h2 with h2 | h2
    · refine .inl fun d hd => ?_
      have := List.all_eq_true.mp h2 d hd
      split at this
      · exact ⟨_, _, rfl⟩
      · cases this
    · refine .inr fun d hd => ?_
      have := List.all_eq_true.mp h2 d hd
      refine ⟨fun e => ?_, fun ys e => ?_⟩
      · rw [e] at this; cases this
      · rw [e] at this; cases this
  · have := List.all_eq_true.mp h3 d hd
    rw [Bool.and_eq_true] at this
    exact ⟨of_decide_eq_true this.1, this.2⟩
/-- its reading: values and data side by side -/
def rSorted (K : PySem.W.Frag) : List V → Hp → VK → Prop := fun xs H Q => ∃ (a : Addr) (ps : List (V × D)), xs = [.ref a] ∧ SqL K H a (ps.map (·.1)) ∧ (∀ p ∈ ps, Dp K H p.1 p.2) ∧ sortOk (ps.map (·.2)) = true ∧ ps.length ≤ sizeLine ∧
  ∀ p, H p = none → Q (.ref p) (upd H p (.lst ((ps.mergeSort (PySem.W.dataLe false fun q : V × D => q.2)).map (·.1))))
theorem each_mk {X : Cx} {pins : List (Addr × Obj)} {σ : L2.St} {H : Hp} {s : Shared} (I : Inv X pins σ H s) : ∀ {ps : List (V × D)} {us : List Value}, Vals (ps.map (·.1)) us → (∀ p ∈ ps, Dp X.K H p.1 p.2) →
    PySem.W.EachIs (fun (v : Value) (b : V × D) => RelV b.1 v) us ps ∧ PySem.W.EachIs (fun (v : Value) (b : V × D) => ∃ as, Reads s.heap v b.2 as) us ps
  | [], us, r, _ => by cases r; exact ⟨.nil, .nil⟩
  | p :: ps, us, r, h => by
    rw [List.map_cons] at r
    cases r with
    | cons r1 r2 =>
      obtain ⟨a, b⟩ := each_mk I r2 fun q hq => h q (List.mem_cons_of_mem _ hq)
      exact ⟨.cons r1 a, .cons (Dp.reads I _ _ _ (h p List.mem_cons_self) r1) b⟩
theorem each_vals : ∀ {ps : List (V × D)} {us : List Value}, PySem.W.EachIs (fun (v : Value) (b : V × D) => RelV b.1 v) us ps → Vals (ps.map (·.1)) us
  | [], _, .nil => .nil
  | _ :: _, _, .cons r t => .cons r (each_vals t)
theorem call_sortedAll {X : Cx} {k : Nat} (hr : Room k X.A) : CallR X (.builtin "sorted") (rSorted X.K) := by
  intro pins s σ H xs us Q I r h
  obtain ⟨a, ps, rfl, hs, hd, so, hz, q⟩ := h
  obtain ⟨u, rfl, ru⟩ := vals1 r
  cases ru
  obtain ⟨its, rv, pl, hzl⟩ := I.list hs
  obtain ⟨e1, e2⟩ := each_mk I rv hd
  obtain ⟨al, sb, dp⟩ := sortOk_all so
  have hun := hr.un
  refine PySem.W.sorted_data (β := V × D) (enc := fun b => b.2) pl.isList e1 e2 al sb hz (fun b hb => ?_) fun out ho eo => ?_
  · have := (dp b.2 (List.mem_map.mpr ⟨b, hb, rfl⟩)).1
    omega
  · have rv2 := each_vals eo
    obtain ⟨c, hc⟩ := sortedAll_at s.heap its out.toArray
    refine ⟨.ref (s.heap.objs.size + 1), _, I.laid (t' := s.toks) (o := .lst ((ps.mergeSort (PySem.W.dataLe false fun q : V × D => q.2)).map (·.1))) (fun b o hb => sortedAll_old hb) (Nat.le_succ _) ⟨?_, out, c, rv2, hc⟩, rfl, q _ (I.hok.fresh (Nat.le_succ _))⟩
    rw [List.length_map, List.length_mergeSort]
    exact hz
theorem zip_rps {K : PySem.W.Frag} {F : Hp} : ∀ {vs : List V} {ds : List D}, Rps K F vs ds → (vs.zip ds).map (·.1) = vs ∧ (vs.zip ds).map (·.2) = ds ∧ ∀ p ∈ vs.zip ds, Rp K F p.1 p.2
  | _, [], h => by cases h; exact ⟨rfl, rfl, fun p hp => by cases hp⟩
  | _, d :: ds, h => by
    cases h with
    | cons h1 h2 =>
      obtain ⟨a, b, c⟩ := zip_rps h2
      refine ⟨by rw [List.zip_cons_cons, List.map_cons, a], by rw [List.zip_cons_cons, List.map_cons, b], fun p hp => ?_⟩
      rw [List.zip_cons_cons] at hp
      rcases List.mem_cons.mp hp with rfl | hp
      · exact h1
      · exact c p hp
theorem rps_zip {K : PySem.W.Frag} {F : Hp} : ∀ {ps : List (V × D)}, (∀ p ∈ ps, Rp K F p.1 p.2) → Rps K F (ps.map (·.1)) (ps.map (·.2))
  | [], _ => .nil
  | p :: ps, h => .cons (h p List.mem_cons_self) (rps_zip fun q hq => h q (List.mem_cons_of_mem _ hq))
theorem rd_sorted {K : PySem.W.Frag} : RdC K (rSorted K) dSorted := by
  intro A F H S σ xs ds z Q k r h post
  unfold dSorted at h
  split at h
  · split at h
    · rename_i ys hso
      cases h
      obtain ⟨v, rfl, rv⟩ := rps1 r
      obtain ⟨a, vs, rfl, h1, h2, h3⟩ := rp_list_inv rv
      obtain ⟨z1, z2, z3⟩ := zip_rps h2
      have hl : (vs.zip ys).length = ys.length := by rw [List.length_zip, h2.length]; omega
      refine ⟨a, vs.zip ys, rfl, SqL.of (by rw [z1]; exact k.sub.same _ _ h1), fun p hp => ?_, by rw [z2]; exact hso, by rw [hl]; exact h3, fun p hp => ?_⟩
      · exact Rp.dp _ _ ((sortOk_all hso).2.2 p.2 (by rw [← z2]; exact List.mem_map.mpr ⟨p, hp, rfl⟩)).2 ((z3 p hp).mono k.sub.same.t _ _)
      · have e2 : ((vs.zip ys).mergeSort (PySem.W.dataLe false fun q : V × D => q.2)).map (·.2) = ys.mergeSort leD := by
          have := List.map_mergeSort (s := leD) (r := PySem.W.dataLe false fun q : V × D => q.2) (f := fun q : V × D => q.2) (l := vs.zip ys) (fun a _ b _ => rfl)
          rw [this, z2]
        have rr := rps_zip (K := K) (F := F) (ps := (vs.zip ys).mergeSort (PySem.W.dataLe false fun q : V × D => q.2)) fun p hp => z3 p (List.mem_mergeSort.mp hp)
        rw [e2] at rr
        obtain ⟨s1, k1, r1⟩ := k.newList hp rr (by rw [List.length_mergeSort]; exact h3)
        exact post _ _ _ s1 k1 r1
    · cases h
  · cases h
  · cases h

/-! ### max(xs), min(xs) of data -/
/-! ### sum(xs) of ints -/
def allInts : List D → Option (List Int)
  | [] => some []
  | .int b :: ds => (allInts ds).bind fun bs => some (b :: bs)
  | _ => none
theorem allInts_map : ∀ {ds : List D} {bs : List Int}, allInts ds = some bs → ds = bs.map .int
  | [], _, h => by cases h; rfl
  | .int b :: ds, _, h => by
    obtain ⟨bs, h1, h2⟩ := bind_inv h
    cases h2
    rw [List.map_cons, allInts_map h1]
  | .none :: _, _, h => by simp [allInts] at h
  | .bool _ :: _, _, h => by simp [allInts] at h
  | .str _ :: _, _, h => by simp [allInts] at h
  | .list _ :: _, _, h => by simp [allInts] at h
  | .tuple _ :: _, _, h => by simp [allInts] at h
  | .dict _ :: _, _, h => by simp [allInts] at h
theorem allInts_of : ∀ bs : List Int, allInts (bs.map .int) = some bs
  | [] => rfl
  | b :: bs => by
    show (allInts (bs.map .int)).bind _ = _
    rw [allInts_of bs]; rfl
theorem rps_ints {K : PySem.W.Frag} {F : Hp} : ∀ {vs : List V} {bs : List Int}, Rps K F vs (bs.map .int) → vs = bs.map V.int
  | _, [], h => by cases h; rfl
  | _, b :: bs, h => by
    cases h with
    | cons h1 h2 => rw [rp_int_inv h1, rps_ints h2]; rfl
def dSum : List D → Option D
  | [.list xs] => (allInts xs).bind fun bs => some (.int bs.sum)
  | _ => none
theorem rd_sum {K : PySem.W.Frag} : RdC K (rSum K) dSum := by
  intro A F H S σ xs ds z Q k r h post
  unfold dSum at h
  split at h
  · obtain ⟨bs, h1, h2⟩ := bind_inv h
    cases h2
    obtain ⟨v, rfl, rv⟩ := rps1 r
    obtain ⟨a, vs, rfl, g1, g2, g3⟩ := rp_list_inv rv
    rw [allInts_map h1] at g2
    rw [rps_ints g2] at g1
    exact ⟨a, bs, rfl, SqL.of (k.sub.same _ _ g1), post F H _ (SameT.refl F) k (.int _)⟩
  · cases h
section
variable {X : Cx} {pos p p2 : Pos} {e : Expr} {es : List Expr} {gs : M (List D)} {k : Nat}
theorem e_sorted (hr : Room k X.A) (hm : X.mg "sorted" = none) (ha : GA X [e] gs) (hg : Gl X "sorted" := by rfl) (he : starEach [e] X.env = (false, eval e X.env) :: starEach [] X.env := by rfl) : GE X (.Call (.Name "sorted" p) [e] [] pos) (gCall dSorted gs) :=
  e_callB (call_sortedAll hr) rd_sorted hm (by decide +kernel) ha hg (he := he) (hpl := by rfl)
theorem e_sum (hm : X.mg "sum" = none) (ha : GA X [e] gs) (hc : X.calm = true := by rfl) (hg : Gl X "sum" := by rfl) (he : starEach [e] X.env = (false, eval e X.env) :: starEach [] X.env := by rfl) : GE X (.Call (.Name "sum" p) [e] [] pos) (gCall dSum gs) :=
  e_callB (cr_sum hc) rd_sum hm (by decide +kernel) ha hg (he := he) (hpl := by rfl)
end
end Fu

set_option maxHeartbeats 4000000
namespace Fu
open PySem PySem.Spec PyProof.Rows L2
variable [TabsC]
/-! ### list(range(..)), xs[::-1], len(set(ints)) -/
section
variable {X : Cx} {pos p p2 p3 p4 : Pos} {a b e e2 : Expr} {ga gb ge ge2 : M D}
theorem rps_rg {K : PySem.W.Frag} {F : Hp} (lo hi : Int) : Rps K F (rgV lo hi) (rng lo (hi - lo).toNat) := by
  have h := Rps.ints (K := K) (H := F) ((List.range (hi - lo).toNat).map fun i : Nat => lo + (i : Int))
  rw [List.map_map, List.map_map] at h
  exact h
def gListRng1 (g : M D) : M D := fun S => (g S).bind fun q => match q.1 with
  | .int j => if -4611686018427387904 ≤ j ∧ j ≤ 16777216 then some (.list (rng 0 j.toNat), q.2) else none
  | _ => none
theorem n_listRng1 (hm : X.mg "list" = none) (hr : X.mg "range" = none) (ha : GE X e ge) (hc : X.calm = true := by rfl) (hg : Gl X "list" := by rfl) (hg2 : Gl X "range" := by rfl)
    (hs : starEach [e] X.env = (false, eval e X.env) :: starEach [] X.env := by rfl) (hs2 : starEach [.Call (.Name "range" p2) [e] [] p3] X.env = (false, eval (.Call (.Name "range" p2) [e] [] p3) X.env) :: starEach [] X.env := by rfl) :
    GN X (.Call (.Name "list" p) [.Call (.Name "range" p2) [e] [] p3] [] pos) (gListRng1 ge) := by
  obtain ⟨_, pa, ra⟩ := ha.ex
  refine ⟨_, pe_listRg hc hg hm (prg_1 hg2 hr pa hs) hs2, fun A F H S σ d S' Q k h post => ?_⟩
  obtain ⟨⟨x, S1⟩, h1, h⟩ := bind_inv h
  cases x with
  | int j =>
    simp only at h
    split at h
    · rename_i hj
      cases h
      refine ra A F H S σ _ _ _ k h1 fun A1 F1 H1 v s1 f1 k1 r1 => ?_
      cases rp_int_inv r1
      refine ⟨j, rfl, ⟨by omega, by omega, by omega, by omega, by omega⟩, fun q hq => post A1 F1 H1 q _ _ s1 f1 k1 hq rfl ?_ ?_⟩
      · have := rps_rg (K := X.K) (F := F1) 0 j
        rwa [Int.sub_zero] at this
      · rw [rng_len, sizeLine_eq]; omega
    · cases h
  | _ => cases h
/-- how many unlike ones -/
def unlike (ns : List Int) : Nat := (PyProof.Rows.firstMet (fun i => ns.getD i 0) ns.length).length
end
end Fu

set_option maxHeartbeats 4000000
namespace Fu
open PySem PySem.Spec PyProof.Rows L2
variable [TabsC]
/-! ### promises of functions that may ask what is being shown: with no show under way around them -/
structure FnG (P : Program) (w : World) (K : PySem.W.Frag) (mg : Str → Option Value) (base : Heap) (k : Nat) (fa : Addr) (fd : FuncData) (ps : List Str) (sp : Sp) : Prop where
  len : ∀ vs H Q E, sp vs H Q E → vs.length = ps.length
  go : ∀ (A : Around) (out : List Env) (t : Shared) (H : Hp) (ar : Args) (us : List Value) (vs : List V) (Q : VK) (E : XK), Room k A → A.guards = some [] → Env0 P w K mg base A out t H → BindsTo t fd ar (ps.zip us) → Vals vs us → sp vs H Q E →
    codeAny (model P w) A (.call (.ref fa) ar) (CR CX0 out P w H t Q E) t
section
variable {P : Program} {w : World} {K : PySem.W.Frag} {mg : Str → Option Value} {base : Heap} {x qual : Str} {st : Stmt} {f : Addr} {fd : FuncData} {N ps : List Str} {k n : Nat} {sp : Sp}
theorem FnG.of (F : FnOk P w K mg base CX0 k f fd ps sp) : FnG P w K mg base k f fd ps sp := ⟨F.len, fun A out t H ar us vs Q E hr _ => F.run A out t H ar us vs Q E hr⟩
theorem fun_okG (F : L2.Fun K x qual st f fd) (S : FnScope N ps (defScope st)) (len : ∀ vs H Q E, sp vs H Q E → vs.length = ps.length)
    (hb : ∀ (cdv : Value) (A : Around) (out : List Env) (t : Shared) (H : Hp) (vs : List V) (Q : VK) (E : XK), Room k (A.deeper (envOfC qual (defScope st) t.heap.objs.size f cdv)) → A.guards = some [] → sp vs H Q E →
      ∃ u, PSs (cxOf CX0 P w K mg base N qual (defScope st) f cdv A out t H E).nox (defBody st) u ∧ u { nx := fun _ G => Q .non G, rt := Q } (start N vs) H) : FnG P w K mg base (k + 1) f fd ps sp := by
  obtain ⟨oc, od, kV, doc, pm, an, cdv, ct, osl, rfl, lk, hcd⟩ := F.ex
  refine ⟨len, fun A out t H ar us vs Q E hr hg e0 hbd hv hs => ?_⟩
  have many := len _ _ _ _ hs
  have inK : K.In t.heap := e0.mod.kin.keeps fun b o z => (e0.bs b o z).1
  have nol : t.heap.NoLimit := e0.mod.nolimit.keeps fun b o z => (e0.bs b o z).1
  have kinds : ∀ q ∈ ps.zip us, (defScope st).names.lookup q.1 = some .local ∨ ((defScope st).names.lookup q.1 = some .cell ∧ ((cellsFrom (t.heap.objs.size + 1) (defScope st).names []).lookup q.1).isSome = true) := by
    rintro ⟨m, v⟩ hq
    exact (S.par m (List.of_mem_zip hq).1).imp id fun z => ⟨z, PySem.W.cellsFrom_some _ _ _ (.inl z)⟩
  refine codeAny_call_function hr.depth (inK _ _ lk) rfl S.co S.gen rfl (PySem.W.codeRec_of inK hcd) (hbd _ _ _ _ ?_)
  refine wpAny_newFunctionEnv_cells S.kind kinds fun en hen t1 made => ?_
  subst hen
  refine ⟨nol.keeps made.toInCall.keep, codeAny_func ?_⟩
  obtain ⟨u, hu, q⟩ := hb cdv A out t H vs Q E (hr.deeper _) hg hs
  have J : Inv (cxOf CX0 P w K mg base N qual (defScope st) f cdv A out t H E) [] (start N vs) H t1 := inv_start S hr.hd e0 many hv made
  have back : ∀ {σ : L2.St} {G : Hp} {v : V} {z : Value} {t2 : Shared}, Inv (cxOf CX0 P w K mg base N qual (defScope st) f cdv A out t H E) [] σ G t2 → RelV v z → Q v G → CE out P w H t Q z t2 := fun {σ G v z t2} I r p => ⟨v, G, I.os, I.bare, I.base, I.hok, r, p⟩
  refine wpAny_mono (hu.nox.run [] t1 (start N vs) H _ J q) (fun fl t2 z => ?_) fun e t2 z => z
  cases fl with
  | next =>
    obtain ⟨σ, G, I, p⟩ := z
    exact back (v := V.non) (z := Value.none) I rfl p
  | ret y =>
    obtain ⟨v, σ, G, I, r, p⟩ := z
    exact back I r p
  | cont => exact z.elim fun _ z => z.elim fun _ z => z.2.elim
  | brk => exact z.elim fun _ z => z.elim fun _ z => z.2.elim
end
section
variable {X : Cx} {k : Nat} {f : Addr} {fd : FuncData} {ps : List Str} {sp : Sp} {E : XK} {x : Str} {p pos : Pos} {e : Expr} {es : List Expr} {t : TA}
end
/-! ### the law's call, from such a promise -/
theorem law_callG {P : Program} {w : World} {K : PySem.W.Frag} {mg mb : Str → Option Value} {k : Nat} {fa ad : Addr} {fd : FuncData} {x : Str} {sp : Sp} {t : Shared} {us : List Value} {ms : List Int}
    (inK : K.In t.heap) (gl : t.heap.Ns mainGlobals mg) (bl : t.heap.Ns builtinsNs mb) (boot : ∀ y : Str, y ≠ "__name__" → mb y = bootBuiltins y) (nol : t.heap.NoLimit) (ng : t.gens = #[])
    (scr : t.heap.get? ad = some { cls := .type "list", data := .seq us.toArray }) (isI : IntsAre us ms) (few : ms.length ≤ sizeLine) (rm : Room k callerA)
    (F : ∀ b : Heap, K.In b → b.Ns mainGlobals mg → FnG P w K mg b k fa fd [x] sp) (bd : ∀ (q : Shared) (u : Value), BindsTo q fd ⟨[u], []⟩ [(x, u)])
    (due : ∀ G : Hp, Only G → SqL K G ad (ms.map V.int) → sp [.ref ad] G (fun v _ => v = .bl true) fun _ _ _ => False) :
    codeAny (model P w) callerA (.call (.ref fa) ⟨[.ref ad], []⟩) (fun r q => r = .ok (.ret (.bool true)) ∧ OldK t.heap q.heap ∧ q.os = t.os ∧ AllBare q.gens) t := by
  have vals := vals_ints isI
  have size := isI.length
  have main : ∀ G : Hp, Only G → SqL K G ad (ms.map V.int) → HOk P w G t.heap → (∀ b, G b ≠ none → b = ad) → (G ad ≠ none → K.lookup ad = none) →
      codeAny (model P w) callerA (.call (.ref fa) ⟨[.ref ad], []⟩) (fun r q => r = .ok (.ret (.bool true)) ∧ OldK t.heap q.heap ∧ q.os = t.os ∧ AllBare q.gens) t := by
    intro G only sq okG one free
    have put : ∀ {c : Addr} {o : Obj}, t.heap.get? c = some o → G c = none → (hidT t.heap G).get? c = some o := fun a b => hidT_get a b
    have noD : ∀ {c : Addr} {o : Obj} {es : Array DictEntry} {ep : Nat}, t.heap.get? c = some o → o.data = .dict es ep → G c = none := by
      intro c o es ep h1 h2
      cases z : G c with
      | none => rfl
      | some u =>
        obtain rfl : c = ad := one c (by rw [z]; simp)
        rw [scr] at h1
        cases h1
        exact absurd (show Data.seq us.toArray _ = Data.dict es ep from h2) (fun y => nomatch y)
    have space : ∀ {c : Addr} {m : Str → Option Value}, t.heap.Ns c m → (hidT t.heap G).Ns c m := by
      rintro c m ⟨o, es, ep, h1, h2, h3⟩
      exact ⟨o, es, ep, put h1 (noD h1 h2), h2, h3⟩
    have inB : K.In (hidT t.heap G) := by
      intro c o h1
      refine put (inK c o h1) ?_
      cases z : G c with
      | none => rfl
      | some u =>
        obtain rfl : c = ad := one c (by rw [z]; simp)
        rw [free (by rw [z]; simp)] at h1
        cases h1
    have md : Mod K mg (hidT t.heap G) := by
      obtain ⟨mc, h1, h2⟩ := nol
      exact ⟨inB, space gl, ⟨mb, space bl, boot⟩, ⟨mc, space h1, h2⟩⟩
    have ev : Env0 P w K mg (hidT t.heap G) callerA [] t G := ⟨rfl, md, fun c o z => of_hidT z, Nat.le_of_eq (hidT_size _ _), trivial, (fun c z => (List.not_mem_nil (show c ∈ ([] : List Addr) from z)).elim), okG, .of_eq ng⟩
    refine codeAny_mono ((F _ inB (space gl)).go callerA [] t G ⟨[.ref ad], []⟩ [.ref ad] [.ref ad] _ _ rm rfl ev (bd t (.ref ad)) (.cons rfl .nil) (due G only sq)) fun z q y => ?_
    cases z with
    | error e => exact (show False from y).elim
    | ok fl =>
      cases fl with
      | ret u =>
        obtain ⟨v, G', osE, bareE, un, okG', rel, vt⟩ := y
        have vt : v = .bl true := vt
        subst vt
        obtain rfl : u = Value.bool true := rel
        refine ⟨rfl, OldK.of_keep fun c o h1 => ?_, osE, bareE⟩
        cases z : G c with
        | none => exact un.keep c o h1 z (fun h => List.not_mem_nil (show c ∈ ([] : List Addr) from h)) (by simp)
        | some u =>
          rcases only c with h2 | ⟨oc, xs, h2⟩
          · rw [z] at h2; cases h2
          · have h3 := un.frzs c oc _ h2
            have h4 := (okG c _ h2).1
            have h5 := (okG' c _ h3).1
            rw [h1] at h4
            cases h4
            exact h5
      | next => exact y.elim
      | cont => exact y.elim
      | brk => exact y.elim
  cases hk : K.lookup ad with
  | some o =>
    have z := inK ad o hk
    rw [scr] at z
    cases z
    exact main (fun _ => none) (fun _ => .inl rfl) (.inr ⟨_, us.toArray, _, hk, rfl, rfl, rfl, by rw [List.size_toArray, size]; exact few, by simpa using vals⟩) (fun c u z => nomatch (show (none : Option HO) = some u from z)) (fun c z => absurd rfl z) fun z => absurd rfl z
  | none =>
    refine main (fun c => if c = ad then some (.frz { cls := .type "list", data := .seq us.toArray } (.lst (ms.map V.int))) else none) ?_ (.inl (.inr ⟨{ cls := .type "list", data := .seq us.toArray }, if_pos rfl⟩)) ?_ ?_ fun _ => hk
    · intro c
      by_cases hc : c = ad
      · exact .inr ⟨_, _, if_pos hc⟩
      · exact .inl (if_neg hc)
    · intro c u z
      by_cases hc : c = ad
      · have y := (if_pos hc).symm.trans z
        cases y
        subst hc
        exact ⟨scr, by rw [List.length_map]; exact few, us, _, vals, scr⟩
      · have y := (if_neg hc).symm.trans z
        cases y
    · intro c z
      by_cases hc : c = ad
      · exact hc
      · exact absurd (if_neg hc) z
theorem walk_ofG {l : PySem.W.OpenLaw} {n k : Nat} {q : Program} {loose : List Str} {XP : (Str → Option Value) → Heap → Prop} {YP : World → Heap → Prop} {d : DefRec} {K : Params → PySem.W.Frag} {sp : World → Sp} {x : Str}
    (hn : l.most = some n) (hn2 : n ≤ sizeLine) (hdf : d.params.defaults = []) (rm : Room k callerA) (hY : ∀ (w : World) (h : Heap), YP w h → (K w.params).In h)
    (F : ∀ (w : World) (mg : Str → Option Value) (fa : Addr) (h : Heap), (K w.params).In h → h.Ns mainGlobals mg → mg d.name = some (.ref fa) →
      ∃ fd : FuncData, (∀ (s : Shared) (u : Value), BindsTo s fd ⟨[u], []⟩ [(x, u)]) ∧ ∀ b : Heap, (K w.params).In b → b.Ns mainGlobals mg → FnG l.prog w (K w.params) mg b k fa fd [x] (sp w))
    (due : ∀ (w : World) (G : Hp) (ad : Addr) (ms : List Int), ms.length ≤ n → Only G → SqL (K w.params) G ad (ms.map V.int) → sp w [.ref ad] G (fun v _ => v = .bl true) fun _ _ _ => False) :
    PySem.W.WalkO q loose XP YP l.row.toRowW d [] (fun f vs => PySem.call f vs) := by
  refine Att.attach_call hn hdf fun w s0 t mg mb fa o pm cd doc ad us ms g Y h1 h2 h3 h4 h5 h6 h7 h8 => ?_
  obtain ⟨fd, bd, FF⟩ := F w mg fa _ (hY w _ Y) g.T.g h4
  exact law_callG (hY w _ Y) g.T.g g.T.b g.T.builtins g.T.nolimit h8 h5 h6 (Nat.le_trans h7 hn2) rm FF bd fun G a b => due w G ad ms h7 a b
end Fu

set_option maxHeartbeats 4000000
namespace Fu
open PySem PySem.Spec PyProof.Rows L2
variable [TabsC]
/-! ### defs whose promise wants that no show is under way -/
section
variable {P : Program} {w : World} {K : PySem.W.Frag} {mg : Str → Option Value} {base : Heap} {x qual : Str} {st : Stmt} {f : Addr} {fd : FuncData} {N ps : List Str} {k n : Nat} {g : Sx → Option Out}
theorem fn_lawG {Pb : Hp → Prop} (hPb : ∀ B, NoLst B → Pb B) (F : Fun K x qual st f fd) (S : FnScope N ps (defScope st)) (hn : ps.length = 1) (hN : 1 ≤ N.length)
    (body : ∀ (cdv : Value) (A : Around) (outer : List Env) (s : Shared) (H : Hp) (E : XK), Room k (A.deeper (envOfC qual (defScope st) s.heap.objs.size f cdv)) → A.guards = some [] → GSs (cxF P w K mg base N qual st f cdv A outer s H E) Pb (defBody st) g) :
    FnG P w K mg base (k + 1) f fd ps (spLaw K (mScr N.length g)) := by
  refine fun_okG F S (fun vs H Q E h => by obtain ⟨a, ns, rfl, _⟩ := h; exact hn.symm) fun cdv A outer s H vs Q E hr hgd h => ?_
  obtain ⟨a, ns, rfl, hs, hz, hB, e, tb, post⟩ := h
  obtain ⟨t, p, rd⟩ := (body cdv A outer s H E hr hgd).ex
  refine ⟨t, p, ?_⟩
  obtain ⟨o, e1, e⟩ := bind_inv e
  refine rd H [] [] H H _ _ o _ (hPb H hB) (SameT.refl H) (List.prefix_refl _) (start_scr hs hz hN tb) e1 ?_
  cases o with
  | nx S => cases e
  | rt d S =>
    cases e
    intro A1 F1 H1 σ1 v s1 p1 k1 rv
    cases rv
    exact post H1
  | bk S => cases e
  | ct S => cases e
  | ro j S => cases e
end
section
variable {X : Cx} {pos p p2 : Pos} {x : Str} {e : Expr} {es : List Expr} {gs : M (List D)} {f : List D → Option D} {k n : Nat} {fa : Addr} {fd : FuncData} {ps : List Str} {E : XK}
end
section
variable {P : Program} {w : World} {K : PySem.W.Frag} {mg : Str → Option Value} {base : Heap} {x : Str} {st : Stmt} {N ps : List Str} {k n : Nat} {g : Sx → Option Out}
abbrev BodyG (P : Program) (w : World) (K : PySem.W.Frag) (mg : Str → Option Value) (base : Heap) (N : List Str) (x : Str) (st : Stmt) (k : Nat) (Pb : Hp → Prop) (g : Sx → Option Out) : Prop :=
  ∀ (f : Addr) (cdv : Value) (A : Around) (outer : List Env) (s : Shared) (H : Hp) (E : XK), Room k (A.deeper (envOfC x (defScope st) s.heap.objs.size f cdv)) → A.guards = some [] → GSs (cxF P w K mg base N x st f cdv A outer s H E) Pb (defBody st) g
end
section
variable {X : Cx} {pos p p2 py : Pos} {x y : Str} {e : Expr} {es : List Expr} {gs : M (List D)} {k n : Nat} {ps : List Str}
end
end Fu

set_option maxHeartbeats 4000000
namespace Fu
open PySem PySem.Spec PyProof.Rows L2
variable [TabsC]
/-! ### repr of lists and tuples -/
def showOk (d : D) : Bool := d.showable && !d.hasDict && d.canLay0 && decide (d.depth ≤ 60) && decide (d.shown.length ≤ 16777216)
theorem showOk_all {d : D} (h : showOk d = true) : d.showable = true ∧ d.hasDict = false ∧ d.canLay0 = true ∧ d.depth ≤ 60 ∧ d.shown.length ≤ sizeLine := by
  unfold showOk at h
  simp only [Bool.and_eq_true, decide_eq_true_eq, Bool.not_eq_true'] at h
  exact ⟨h.1.1.1.1, h.1.1.1.2, h.1.1.2, h.1.2, by rw [sizeLine_eq]; exact h.2⟩
def rRepr (K : PySem.W.Frag) : List V → Hp → VK → Prop := fun xs H Q => ∃ (a : Addr) (d : D), xs = [.ref a] ∧ Dp K H (.ref a) d ∧ showOk d = true ∧ Q (.str d.shown) H
theorem call_reprD {X : Cx} {k : Nat} (hr : Room k X.A) (hgd : X.A.guards = some []) : CallR X (.builtin "repr") (rRepr X.K) := by
  intro pins s σ H xs us Q I r h
  obtain ⟨a, d, rfl, hd, ok, q⟩ := h
  obtain ⟨u, rfl, ru⟩ := vals1 r
  cases ru
  obtain ⟨h1, h2, h3, h4, h5⟩ := showOk_all ok
  obtain ⟨as, rd⟩ := Dp.reads I d _ _ hd rfl
  have hun := hr.un
  exact repr_of_reads' rd h1 (fun e => by rw [h2] at e; cases e) hgd (by omega) (fun _ _ e => e) (fun h' u tk keep => ⟨.str d.shown, H, I.kept (t' := tk) keep, ⟨u, rfl⟩, q⟩) h5
/-- .. and of what is no display -/
def rRepr1 : List V → Hp → VK → Prop := fun xs H Q => (xs = [.non] ∧ Q (.str "None") H) ∨ (∃ x, xs = [.str x] ∧ (reprText x).length ≤ sizeLine ∧ Q (.str (reprText x)) H) ∨ (∃ i : Int, xs = [.int i] ∧ i.natAbs.log2 < 1920 ∧ Q (.str (toString i)) H) ∨ (∃ a, xs = [.ref a] ∧ H a = some (.dK []) ∧ Q (.str (PyData.dict []).shown) H)
theorem call_repr1 {X : Cx} {k : Nat} (hr : Room k X.A) (hgd : X.A.guards = some []) : CallR X (.builtin "repr") rRepr1 := by
  intro pins s σ H xs us Q I r h
  rcases h with ⟨rfl, q⟩ | ⟨x, rfl, hl, q⟩ | ⟨i, rfl, hi, q⟩ | ⟨a, rfl, ha, q⟩
  · obtain ⟨u, rfl, ru⟩ := vals1 r
    cases ru
    exact call_repr_gives (typeIs_none s) PySem.F.slot_NoneType_repr PySem.F.entry_NoneType_repr (PySem.F.args_NoneType_repr_1 _) gives_none_repr ⟨.str "None", H, I.kept (t' := s.toks + 1) (fun _ _ z => z), ⟨_, rfl⟩, q⟩
  · obtain ⟨u, rfl, ru⟩ := vals1 r
    obtain ⟨t, rfl⟩ := ru
    exact PySem.P.repr_of_str ⟨.str (reprText x), H, I.kept (t' := s.toks + 1) (fun _ _ z => z), ⟨_, rfl⟩, q⟩ hl
  · exact SkE.call_repr_int pins s σ H _ us Q I r ⟨i, rfl, hi, q⟩
  · obtain ⟨u, rfl, ru⟩ := vals1 r
    cases ru
    obtain ⟨_, hs, vs, kv, o, es, ep, e1, e2, e3, e4, e5, e6⟩ := (show ObjOk X.prog X.w H s.heap a (.dK []) from I.hok a _ ha)
    have hun := hr.un
    cases kv
    have he : es.toList = [] := by
      revert e5
      generalize es.toList = l
      intro e5
      cases e5; rfl
    have rd : Reads s.heap (.ref a) (.dict []) [a] := Reads.dict (as := []) (bs := []) e1 e2.1 e3 (by rw [he]; exact .nil) (by rw [he]; exact .nil)
    refine repr_of_reads' rd (by rfl) (fun _ hm => ?_) hgd (by
      have : PyData.depth (.dict []) ≤ 60 := (by decide +kernel)
      omega) (fun _ _ e => e) (fun h' u tk keep => ⟨.str _, H, I.kept (t' := tk) keep, ⟨u, rfl⟩, q⟩) (by decide +kernel)
    rw [List.mem_singleton.mp hm] at hs
    simp at hs
def dRepr : List D → Option D
  | [.none] => some (.str "None")
  | [.str x] => if (reprText x).length ≤ sizeLine then some (.str (reprText x)) else none
  | [.int i] => if i.natAbs.log2 < 1920 ∧ (Str.ofString (toString i)).length ≤ sizeLine then some (.str (Str.ofString (toString i))) else none
  | [.dict []] => some (.str (PyData.dict []).shown)
  | [.list xs] => if showOk (.list xs) = true then some (.str (PyData.list xs).shown) else none
  | [.tuple xs] => if showOk (.tuple xs) = true then some (.str (PyData.tuple xs).shown) else none
  | _ => none
def rRepr2 (K : PySem.W.Frag) : List V → Hp → VK → Prop := fun xs H Q => rRepr K xs H Q ∨ rRepr1 xs H Q
theorem call_repr2 {X : Cx} {k : Nat} (hr : Room k X.A) (hgd : X.A.guards = some []) : CallR X (.builtin "repr") (rRepr2 X.K) := fun pins s σ H xs us Q I r h => h.elim (call_reprD hr hgd pins s σ H xs us Q I r) (call_repr1 hr hgd pins s σ H xs us Q I r)
theorem rd_repr {K : PySem.W.Frag} : RdC K (rRepr2 K) dRepr := by
  intro A F H S σ xs ds z Q k r h post
  unfold dRepr at h
  split at h
  · cases h
    obtain ⟨v, rfl, rv⟩ := rps1 r
    cases rv
    exact .inr (.inl ⟨rfl, post F H _ (SameT.refl F) k (.str (by decide))⟩)
  · split at h
    · rename_i x hz
      cases h
      obtain ⟨v, rfl, rv⟩ := rps1 r
      obtain ⟨rfl, _⟩ := rp_str_inv rv
      exact .inr (.inr (.inl ⟨x, rfl, hz, post F H _ (SameT.refl F) k (.str hz)⟩))
    · cases h
  · split at h
    · rename_i i hz
      cases h
      obtain ⟨v, rfl, rv⟩ := rps1 r
      cases rp_int_inv rv
      exact .inr (.inr (.inr (.inl ⟨i, rfl, hz.1, post F H _ (SameT.refl F) k (.str hz.2)⟩)))
    · cases h
  · cases h
    obtain ⟨v, rfl, rv⟩ := rps1 r
    cases rv with
    | dct h1 h2 => exact .inr (.inr (.inr (.inr ⟨_, rfl, k.sub.same _ _ (h2 rfl), post F H _ (SameT.refl F) k (.str (by decide +kernel))⟩)))
  · split at h
    · rename_i ys ok
      cases h
      obtain ⟨v, rfl, rv⟩ := rps1 r
      have rv2 := rv.mono k.sub.same.t _ _
      obtain ⟨a, vs, rfl, g1, g2, g3⟩ := rp_list_inv rv
      obtain ⟨h1, h2, h3, h4, h5⟩ := showOk_all ok
      exact .inl ⟨a, _, rfl, Rp.dp _ _ h3 rv2, ok, post F H _ (SameT.refl F) k (.str h5)⟩
    · cases h
  · split at h
    · rename_i ys ok
      cases h
      obtain ⟨v, rfl, rv⟩ := rps1 r
      have rv2 := rv.mono k.sub.same.t _ _
      obtain ⟨a, vs, rfl, g1, g2, g3⟩ := rp_tup_inv rv
      obtain ⟨h1, h2, h3, h4, h5⟩ := showOk_all ok
      exact .inl ⟨a, _, rfl, Rp.dp _ _ h3 rv2, ok, post F H _ (SameT.refl F) k (.str h5)⟩
    · cases h
  · cases h
section
variable {X : Cx} {pos p p2 : Pos} {e : Expr} {es : List Expr} {gs : M (List D)} {k : Nat}
theorem e_repr (hr : Room k X.A) (hgd : X.A.guards = some []) (hm : X.mg "repr" = none) (ha : GA X [e] gs) (hg : Gl X "repr" := by rfl) (he : starEach [e] X.env = (false, eval e X.env) :: starEach [] X.env := by rfl) : GE X (.Call (.Name "repr" p) [e] [] pos) (gCall dRepr gs) :=
  e_callB (call_repr2 hr hgd) rd_repr hm (by decide +kernel) ha hg (he := he) (hpl := by rfl)
end
end Fu

set_option maxHeartbeats 4000000
namespace Fu
open PySem PySem.Spec PyProof.Rows L2
variable [TabsC]
/-! ### a < b < c, list + list as a new list -/
def gChain (f f' : D → D → Option D) (ga gb gc : M D) : M D := fun S => (ga S).bind fun p => (gb p.2).bind fun q => match f p.1 q.1 with
  | some (.bool true) => (gc q.2).bind fun r => (f' q.1 r.1).bind fun z => some (z, r.2)
  | some (.bool false) => some (.bool false, q.2)
  | _ => none
theorem rd_chain {K : PySem.W.Frag} {r r' : R2} {f f' : D → D → Option D} {ta tb tc : TE} {ga gb gc : M D} (hf : RdOp K r f) (hf' : RdOp K r' f') (ra : RdE K ta ga) (rb : RdE K tb gb) (rc : RdE K tc gc) : RdE K (tChain r r' ta tb tc) (gChain f f' ga gb gc) := by
  intro A F H S σ d S' Q k h post
  obtain ⟨⟨x, S1⟩, h1, h⟩ := bind_inv h
  obtain ⟨⟨y, S2⟩, h2, h⟩ := bind_inv h
  simp only at h
  refine ra A F H S σ x S1 _ k h1 fun A1 F1 H1 v1 p1 s1 k1 r1 => rb A1 F1 H1 S1 σ y S2 _ k1 h2 fun A2 F2 H2 v2 p2 s2 k2 r2 => ?_
  split at h
  · rename_i e
    obtain ⟨⟨w, S3⟩, h3, h⟩ := bind_inv h
    obtain ⟨z, h4, h⟩ := bind_inv h
    cases h
    refine hf A2 F2 H2 _ σ v1 v2 x y _ _ k2 (r1.mono s2 _ _) r2 e fun F3 H3 v s3 k3 r3 => ?_
    cases rp_bool_inv r3
    refine ⟨true, rfl, ?_⟩
    rw [if_pos rfl]
    refine rc A2 F3 H3 _ σ w _ _ k3 h3 fun A4 F4 H4 v4 p4 s4 k4 r4 => ?_
    exact hf' A4 F4 H4 _ σ v2 v4 y w _ Q k4 (r2.mono (s3.trans s4) _ _) r4 h4 fun F5 H5 v5 s5 k5 r5 => post A4 F5 H5 v5 ((p1.trans p2).trans p4) (s1.trans (s2.trans (s3.trans (s4.trans s5)))) k5 r5
  · rename_i e
    cases h
    refine hf A2 F2 H2 _ σ v1 v2 x y _ _ k2 (r1.mono s2 _ _) r2 e fun F3 H3 v s3 k3 r3 => ?_
    cases rp_bool_inv r3
    refine ⟨false, rfl, ?_⟩
    rw [if_neg (by decide)]
    exact post A2 F3 H3 _ (p1.trans p2) (s1.trans (s2.trans s3)) k3 (.bl false)
  · cases h
section
variable {X : Cx} {pos p p2 : Pos} {a b c e : Expr} {ga gb gc : M D} {op op' : CmpOp}
theorem t_chain {r r' : R2} {f f' : D → D → Option D} (ho : OpR X (compareOp op) r) (ho' : OpR X (compareOp op') r') (hf : RdOp X.K r f) (hf' : RdOp X.K r' f') (ha : GE X a ga) (hb : GE X b gb) (hc : GE X c gc) (hm : lastMarks [op, op'] [b, c] = false := by with_unfolding_all rfl) :
    GT X (.Compare a [op, op'] [b, c] pos) (gB (gChain f f' ga gb gc)) := by
  obtain ⟨_, pa, ra⟩ := ha.ex
  obtain ⟨_, pb, rb⟩ := hb.ex
  obtain ⟨_, pc, rc⟩ := hc.ex
  exact ⟨_, pt_chain ho ho' pa pb pc hm, rd_test (rd_chain hf hf' ra rb rc)⟩
end
end Fu

set_option maxHeartbeats 4000000
namespace Fu
open PySem PySem.Spec PyProof.Rows L2
variable [TabsC]
/-! ### xs.count(x), slices as new lists -/
def rCountD (K : PySem.W.Frag) : V → List V → Hp → VK → Prop := fun x xs H Q => ∃ (l : Addr) (vs : List V) (v : V) (ds : List D) (d : D), x = .ref l ∧ xs = [v] ∧ SqL K H l vs ∧ DpAll K H vs ds ∧ Dp K H v d ∧ PyData.canLayAll0 ds = true ∧ d.canLay0 = true ∧ d.depth ≤ 60 ∧ Q (.int ((ds.countP fun y => PyData.eqv y d : Nat) : Int)) H
theorem mt_countD {X : Cx} {k : Nat} (hr : Room k X.A) : MtR X "list.count" (rCountD X.K) := by
  intro pins s σ H x xs v us Q I rx rxs h
  obtain ⟨l, vs, y, ds, d, rfl, rfl, hs, hd, hy, c1, c2, dp, q⟩ := h
  cases rx
  obtain ⟨u, rfl, ru⟩ := rxs.one
  obtain ⟨its, rv, pl, hz⟩ := I.list hs
  obtain ⟨as, r1⟩ := Dp.readsAll I ds _ its hd rv
  obtain ⟨bs, r2⟩ := Dp.reads I d _ _ hy ru
  have hun := hr.un
  refine SeqAt.count_list_data pl.isList (by simpa using r1) r2 (PyData.plainAll_of_canLay0 _ c1) (PyData.plain_of_canLay0 _ c2) (by omega) ?_
  exact ⟨.int _, H, I.tok _, ⟨s.toks, rfl⟩, q⟩
def dCount : D → D → Option D
  | .list ds, d => if PyData.canLayAll0 ds = true ∧ d.canLay0 = true ∧ d.depth ≤ 60 then some (.int ((ds.countP fun y => PyData.eqv y d : Nat) : Int)) else none
  | _, _ => none
section
variable {X : Cx} {pos p p2 apos : Pos} {a b e o : Expr} {ga gb ge go : M D} {k : Nat} {gl gh : M (Option Int)} {lo hi : Option Expr}
theorem e_count (hr : Room k X.A) (ho : GE X o go) (he : GE X e ge) (hbase : attributeBase o "count" X.env (eval o X.env) = eval o X.env := by rfl)
    (hfew : ((backTo pos (starEach [e] X.env)).all (fun x => !x.1) && (backToKw pos (keywordEach [] X.env)).all (fun x => x.1.isSome) && decide (([e] : List Expr).length + ([] : List Keyword).length + (if ([] : List Keyword).isEmpty then 0 else 1) < 30)) = true := by rfl)
    (hline : (apos.endLine == pos.line) = true := by rfl) (hst : starEach [e] X.env = (false, eval e X.env) :: starEach [] X.env := by rfl) : GE X (.Call (.Attribute o "count" apos) [e] [] pos) (gBin dCount go ge) := by
  obtain ⟨_, po, ro⟩ := ho.ex
  obtain ⟨_, pe, re⟩ := he.ex
  refine ⟨_, pe_bm PySem.F.plainAttrs_list PySem.F.slot_list_count PySem.F.type_list_count (mt_countD hr) po (pa_cons pe pa_nil hst) hbase hfew hline hst (by rfl), fun A F H S σ z S' Q k h post => ?_⟩
  obtain ⟨⟨x, S1⟩, h1, h⟩ := bind_inv h
  obtain ⟨⟨y, S2⟩, h2, h⟩ := bind_inv h
  obtain ⟨w, h3, h⟩ := bind_inv h
  cases h
  cases x <;> simp only [dCount] at h3 <;> try cases h3
  split at h3
  · rename_i ok
    cases h3
    refine ro A F H S σ _ _ _ k h1 fun A1 F1 H1 v1 p1 s1 k1 r1 => ?_
    obtain ⟨l, vs, rfl, g1, g2, g3⟩ := rp_list_inv r1
    refine ⟨.inl ⟨rfl, _, SqL.of (k1.sub.same _ _ g1)⟩, re A1 F1 H1 _ σ _ _ _ k1 h2 fun A2 F2 H2 v2 p2 s2 k2 r2 => ?_⟩
    exact ⟨l, vs, v2, _, _, rfl, rfl, SqL.of ((s2.trans k2.sub.same.t).old _ _ g1 trivial), Rps.dp _ _ ok.1 (Rps.mono (s2.trans k2.sub.same.t) _ _ g2), Rp.dp _ _ ok.2.1 (r2.mono k2.sub.same.t _ _), ok.1, ok.2.1, ok.2.2, post A2 F2 H2 _ (p1.trans p2) (s1.trans s2) k2 (.int _)⟩
  · cases h3
end
end Fu

set_option maxHeartbeats 4000000
namespace Fu
open PySem PySem.Spec PyProof.Rows L2
variable [TabsC]
/-! ### an item of an own list as a target among others -/
def sIxO (i : Nat) (gb : M D) : D → Sx → Option Sx := fun d S => (ownOf S i).bind fun o => (gb S).bind fun q => match q.1 with
  | .int n => (cellOf q.2 o.1).bind fun cs => (ixN cs.length n).bind fun m => some (setCell q.2 o.1 (cs.set m d))
  | _ => none
section
variable {X : Cx} {pos p p2 py : Pos} {y : Str} {b : Expr} {gb : M D} {tgt : List Nat}
theorem g_ixO (i : Nat) (hb : GE X b gb) (hN : X.N[i]? = some y := by rfl) (hv : Vis X.env.scope y := by first | exact Or.inl rfl | exact Or.inr (Or.inl rfl) | exact Or.inr (Or.inr rfl)) (hdy : (y == ("__debug__" : Str)) = false := by decide) (hcd : (y == ("__classdict__" : Str)) = false := by decide)
    (ha : ∀ v, assign (.Subscript (.Name y py) b pos) X.env v = (do
      let ov ← holding [v] (eval (.Name y py) X.env)
      let iv ← holding [v, ov] (eval b X.env)
      standAt pos
      holding [v, ov, iv] (setItem ov iv v)
      release [v, ov, iv] []) := by intro _; rfl) : GG X tgt (.Subscript (.Name y py) b pos) (sIxO i gb) := by
  obtain ⟨u, pb, rb⟩ := hb.ex
  refine ⟨_, pg_sub (pe_var hN hv hdy hcd) pb set_list ha, fun A F H S σ v d S' Q k rv h post => ?_⟩
  obtain ⟨⟨j, cs0⟩, e0, h⟩ := bind_inv h
  obtain ⟨⟨x, S2⟩, e2, h⟩ := bind_inv h
  cases x <;> simp only at h <;> try cases h
  rename_i n
  obtain ⟨cs, e3, h⟩ := bind_inv h
  obtain ⟨m, e4, h⟩ := bind_inv h
  cases h
  obtain ⟨a, vs0, _, _, ha', ev, _, hv0, _, _⟩ := own_at k e0
  refine ⟨_, ev, rb A F H S σ _ S2 _ k e2 fun A2 F2 H2 w p2 s2 k2 r2 => ?_⟩
  cases rp_int_inv r2
  obtain ⟨vs, ec, fa, hv', rr, hz⟩ := cell_at k2 e3 (prefix_at p2 ha')
  refine ⟨a, vs, n, m, rfl, rfl, hv', by rw [rr.length]; exact e4, ?_⟩
  exact post A2 F2 _ _ p2 s2 (k2.cellSet ec (prefix_at p2 ha') trivial ⟨_, upd_same, Rps.set _ (rv.mono s2 _ _) rr, by rw [List.length_set]; exact hz⟩) fun _ _ => rfl
end
end Fu

set_option maxHeartbeats 4000000
namespace Fu
open PySem PySem.Spec PyProof.Rows L2
variable [TabsC]
/-! ### a def that calls itself, where it may go no deeper: nothing is promised -/
section
variable {P : Program} {w : World} {K : PySem.W.Frag} {mg : Str → Option Value} {base : Heap} {x : Str} {st : Stmt} {ps : List Str} {k n : Nat}
theorem has_none_pure (D : DefAt K mg x st ps) (hn : ps.length = n) : Has P w K mg base x k ps (spF K n fun _ => none) :=
  let ⟨f, fd, m, F, b⟩ := D; ⟨f, fd, m, F.kp, b, ⟨fun vs H Q E h => (by obtain ⟨ds, z, _, _, h, _⟩ := h; cases h), fun A outer s H args us vs Q E _ _ _ _ h => (by obtain ⟨ds, z, _, _, h, _⟩ := h; cases h)⟩⟩
end
end Fu

set_option maxHeartbeats 4000000
namespace Fu
open PySem PySem.Spec PyProof.Rows L2 RZ
variable [TabsC]
/-! ### slices of a list that is written: the list stays one's own -/
section
variable {X : Cx} {P : Hp → Prop} {pos py p p2 p3 p4 apos : Pos} {x y : Str} {a b c d e : Expr} {es : List Expr} {ga gb gc gd ge : M D} {gs : M (List D)} {lo hi : Option Expr} {gl gh : M (Option Int)}
/-! ### xs += e, a list that is written -/
def qAugL (i : Nat) (ge : M D) : Sx → Option Out := fun S => (ownOf S i).bind fun o => (ge S).bind fun p => (cellOf p.2 o.1).bind fun cs => match p.1 with
  | .list xs => if cs.length + xs.length ≤ sizeLine then some (.nx ⟨p.2.sl.set i (some (.own o.1)), p.2.os.set o.1 (some (.lst (cs ++ xs)))⟩) else none
  | _ => none
theorem s_augL (i : Nat) (hN : X.N.Nodup) (he : GE X e ge) (hx : Loc X.env.scope y := by first | exact Or.inl rfl | exact Or.inr rfl) (hi : X.N[i]? = some y := by rfl)
    (hf : X.fn y = true ∨ X.env.scope.names.lookup y = some .local := by first | exact .inl rfl | exact .inr rfl | assumption) : GS X P (.AugAssign (.Name y py) .Add e pos) (qAugL i ge) := by
  obtain ⟨t, pe, re⟩ := he.ex
  refine ⟨_, ps_aug hN hi hx pe (show PIp X .Add rExt2 from iop_ext) hf, fun B A0 A F H S σ o E hP s p k h post => ?_⟩
  obtain ⟨⟨j, cs0⟩, e0, h⟩ := bind_inv h
  obtain ⟨⟨d, S1⟩, e1, h⟩ := bind_inv h
  obtain ⟨cs, e2, h⟩ := bind_inv h
  cases d <;> simp only at h <;> try cases h
  split at h
  · rename_i hlt
    cases h
    obtain ⟨a, vs0, _, _, ha, ev, _⟩ := own_at k e0
    refine ⟨_, ev, re A F H S σ _ S1 _ k e1 fun A1 F1 H1 v p1 s1 k1 r1 => ?_⟩
    obtain ⟨vs, ec, fa, hv', rr, hz⟩ := cell_at k1 e2 (prefix_at p1 ha)
    obtain ⟨b, us, rfl, g1, g2, g3⟩ := rp_list_inv r1
    refine ⟨a, b, vs, us, rfl, rfl, hv', k1.sub.same _ _ g1, by rw [rr.length, g2.length]; exact hlt, ?_⟩
    have k2 := (k1.cellSet ec (prefix_at p1 ha) trivial (o := .lst (vs ++ us)) (c' := .lst (cs ++ _)) ⟨_, upd_same, rr.append g2, by rw [List.length_append]; exact hlt⟩)
    exact post A1 F1 _ _ (s.trans s1) (p.trans p1) (k2.setOwn (prefix_at p1 ha))
  · cases h

/-! ### the script: walked, as a list -/
/-! ### enumerate(xs) -/
/-! ### a < b <= c < d -/
end
end Fu

set_option maxHeartbeats 4000000
namespace Fu
open PySem PySem.Spec PyProof.Rows L2 RZ
variable [TabsC]
section
variable {X : Cx} {P : Hp → Prop} {pos py p p2 p3 p4 apos : Pos} {x y : Str} {a b c d e e2 e3 o : Expr} {es : List Expr} {ga gb gc gd ge go g2 : M D} {gs : M (List D)} {k : Nat}
/-! ### xs[::c], c is 1 or -1 -/
/-! ### xs.index(x) -/
/-! ### max(a, b, c) -/
end
end Fu

set_option maxHeartbeats 4000000
namespace Fu
open PySem PySem.Spec PyProof.Rows L2 RZ
variable [TabsC]
/-! ### calls that look at lists of one's own: they stay one's own, the answer holds no list -/
mutual
def hardD : D → Bool
  | .none | .bool _ | .int _ | .str _ => true
  | .list _ | .dict _ => false
  | .tuple ds => hardDs ds
def hardDs : List D → Bool
  | [] => true
  | d :: ds => hardD d && hardDs ds
end
mutual
theorem Rp.hard {K : PySem.W.Frag} {F H : Hp} (ht : ∀ b xs, SqT K H b xs → SqT K F b xs) : ∀ (d : D) (v : V), hardD d = true → Rp K H v d → Rp K F v d
  | .none, _, _, h => by cases h; exact .non
  | .bool b, _, _, h => by cases h; exact .bl b
  | .int i, _, _, h => by cases h; exact .int i
  | .str x, _, _, h => by
    cases h with
    | str hz => exact .str hz
  | .list ds, _, c, _ => by simp [hardD] at c
  | .dict kvs, _, c, _ => by simp [hardD] at c
  | .tuple ds, _, c, h => by
    cases h with
    | tup hs ha hz => exact .tup (ht _ _ hs) (Rps.hard ht ds _ (by simpa [hardD] using c) ha) hz
theorem Rps.hard {K : PySem.W.Frag} {F H : Hp} (ht : ∀ b xs, SqT K H b xs → SqT K F b xs) : ∀ (ds : List D) (vs : List V), hardDs ds = true → Rps K H vs ds → Rps K F vs ds
  | [], _, _, h => by cases h; exact .nil
  | d :: ds, _, c, h => by
    have c' : hardD d = true ∧ hardDs ds = true := by simpa [hardDs] using c
    cases h with
    | cons h1 h2 => exact .cons (Rp.hard ht d _ c'.1 h1) (Rps.hard ht ds _ c'.2 h2)
end
section
variable {X : Cx} {pos py p p2 : Pos} {x y : Str} {e : Expr} {es : List Expr} {ge : M D} {gs : M (List D)} {k n : Nat} {ps : List Str}
/-- what was not there before is known for good -/
def newH (F H H' : Hp) : Hp := fun b => match H b with
  | none => H' b
  | some (.tbl _) => H' b
  | some _ => F b
theorem newH_new {F H H' : Hp} {b : Addr} (h : H b = none) : newH F H H' b = H' b := by unfold newH; rw [h]
theorem newH_old {F H H' : Hp} {b : Addr} {o : HO} (h : H b = some o) (n : NT o) : newH F H H' b = F b := by
  unfold newH
  rw [h]
  cases o <;> first | rfl | exact n.elim
theorem newH_tbl {F H H' : Hp} {b : Addr} {o : HO} (h : H b = some o) (n : ¬ NT o) : newH F H H' b = H' b := by
  unfold newH
  rw [h]
  cases o <;> first | rfl | exact (n trivial).elim
theorem newH_get {K : PySem.W.Frag} {A : List Addr} {F H H' : Hp} {S : Sx} {σ : L2.St} (k : Ok K A F H S σ) (s : SameT H H') {b : Addr} (o : HO) (q : H' b = some o) (nl : ¬ Loose o) : Fu.newH F H H' b = some o := by
  cases e : H b with
  | none => rw [newH_new e]; exact q
  | some u =>
    by_cases n : NT u
    · have := s.old b u e n
      rw [q] at this; cases this
      rw [newH_old e n]
      exact k.sub.keep e nl
    · rw [newH_tbl e n]; exact q
theorem Ok.newH {K : PySem.W.Frag} {A : List Addr} {F H H' : Hp} {S : Sx} {σ : L2.St} (k : Ok K A F H S σ) (s : SameT H H') : SameT F (newH F H H') ∧ Ok K A (newH F H H') H' S σ := by
  have sm : SameT F (Fu.newH F H H') := ⟨fun b o q n => by
    rw [newH_old (k.sub.same b o q) n]; exact q, fun t => fun p hp => by
    obtain ⟨ps, e, t1, t2⟩ := s.tab (k.tab.ext k.sub.same) p hp
    exact ⟨ps, newH_get k s _ e (fun z => z), t1, fun pos cv h => let ⟨c, e1, e2⟩ := t2 pos cv h; ⟨c, e1, newH_get k s _ e2 (fun z => z)⟩⟩, fun b o q => by
    by_cases n : NT o
    · rw [newH_old (k.sub.same b o q) n]; exact ⟨o, q⟩
    · rw [newH_tbl (k.sub.same b o q) n]; exact s.stay _ _ (k.sub.same b o q)⟩
  refine ⟨sm, k.grow ⟨fun b o q => ?_, fun b o q n => ?_⟩ sm (fun a ha o q => ?_) fun a ha q => ?_⟩
  · cases e : H b with
    | none => rw [newH_new e] at q; exact q
    | some u =>
      by_cases n : NT u
      · rw [newH_old e n] at q
        have := k.sub.same b o q
        rw [e] at this; cases this
        exact s.old b _ e n
      · rw [newH_tbl e n] at q; exact q
  · cases e : H b with
    | none => rw [newH_new e, q] at n; cases n
    | some u =>
      by_cases nn : NT u
      · rw [newH_old e nn] at n
        have := s.old b u e nn
        rw [q] at this; cases this
        exact k.sub.loose b o e n
      · rw [newH_tbl e nn, q] at n; cases n
  · obtain ⟨o', ho, l⟩ := k.trk a ha
    rw [q] at ho; cases ho
    exact s.old a o q l.nt
  · obtain ⟨o, ho, l⟩ := k.trk a ha
    rw [newH_old ho l.nt]; exact q
theorem sqT_newH {K : PySem.W.Frag} {A : List Addr} {F H H' : Hp} {S : Sx} {σ : L2.St} (k : Ok K A F H S σ) (s : SameT H H') {b : Addr} {xs : List V} (h : SqT K H' b xs) : SqT K (Fu.newH F H H') b xs := by
  have go := newH_get k s (b := b)
  rcases h with (h | ⟨o, h⟩) | h
  · exact .inl (.inl (go _ h (fun z => z)))
  · exact .inl (.inr ⟨o, go _ h (fun z => z)⟩)
  · exact .inr h
end
end Fu

set_option maxHeartbeats 4000000
namespace Fu
open PySem PySem.Spec PyProof.Rows L2 RZ
variable [TabsC]
/-! ### looks: an expression that writes nothing sees one's own lists as data; they stay one's own -/
def mapO {α β : Type} (f : α → Option β) : List α → Option (List β)
  | [] => some []
  | x :: xs => (f x).bind fun y => (mapO f xs).map fun ys => y :: ys
def snapR (os : List (Option Cell)) : Nat → R → Option D
  | 0, .dat d => some d
  | 0, _ => none
  | _ + 1, .dat d => some d
  | _ + 1, .scr _ => none
  | _ + 1, .exc _ => none
  | n + 1, .tup rs => (mapO (snapR os n) rs).map .tuple
  | n + 1, .own j => match os[j]? with
    | some (some (.lst ds)) => some (.list ds)
    | some (some (.lR rs)) => (mapO (snapR os n) rs).map .list
    | _ => none
def sealS (os : List (Option Cell)) : Option R → Option R
  | some (.scr ns) => some (.scr ns)
  | some (.exc c) => some (.exc c)
  | some r => (snapR os 8 r).map .dat
  | none => none
def sealAll (S : Sx) : Sx := ⟨S.sl.map (sealS S.os), S.os.map fun _ => none⟩
section
variable {K : PySem.W.Frag} {A : List Addr} {F H H' : Hp} {S : Sx} {σ : L2.St}
theorem mapO_len {α β : Type} {f : α → Option β} : ∀ {xs : List α} {ys : List β}, mapO f xs = some ys → ys.length = xs.length
  | [], _, h => by cases h; rfl
  | x :: xs, _, h => by
    obtain ⟨y, _, h⟩ := bind_inv h
    obtain ⟨ys, h1, rfl⟩ := Option.map_eq_some_iff.mp h
    rw [List.length_cons, List.length_cons, mapO_len h1]
theorem snaps_ok {n : Nat} {os : List (Option Cell)} {P : V → R → Prop} (h : ∀ r v d, snapR os n r = some d → P v r → Rp K H v d) : ∀ (rs : List R) (vs : List V) (ds : List D), mapO (snapR os n) rs = some ds → (∀ (i : Nat) r, rs[i]? = some r → ∃ v, vs[i]? = some v ∧ P v r) → vs.length = rs.length → Rps K H vs ds
  | [], vs, _, e, _, l => by
    cases e
    have : vs = [] := List.length_eq_zero_iff.mp l
    rw [this]; exact .nil
  | r :: rs, vs, _, e, g, l => by
    obtain ⟨d, e1, e⟩ := bind_inv e
    obtain ⟨ds, e2, rfl⟩ := Option.map_eq_some_iff.mp e
    cases vs with
    | nil => cases l
    | cons v vs =>
      obtain ⟨v', e3, p⟩ := g 0 r rfl
      cases e3
      exact .cons (h r v d e1 p) (snaps_ok h rs vs ds e2 (fun i r hr => by simpa using g (i + 1) r (by simpa using hr)) (by simpa using l))
theorem snap_ok (k : Ok K A F H S σ) : ∀ (n : Nat) (r : R) (v : V) (d : D), snapR S.os n r = some d → Rr K A F v r → Rp K H v d := by
  intro n
  induction n with
  | zero =>
    intro r v d e q
    cases q with
    | dat q => cases e; exact Rp.mono k.sub.same.t _ _ q
    | own _ => cases e
    | scr _ _ => cases e
    | tup _ _ _ => cases e
    | exc _ _ => cases e
  | succ n ih =>
    intro r v d e q
    cases q with
    | dat q => cases e; exact Rp.mono k.sub.same.t _ _ q
    | scr _ _ => cases e
    | exc _ _ => cases e
    | tup hs hr hz =>
      obtain ⟨ds, e1, rfl⟩ := Option.map_eq_some_iff.mp e
      exact .tup (sqT_same k.sub.same.t hs) (snaps_ok ih _ _ _ e1 (fun i r h => hr.get h) hr.length) (by rw [mapO_len e1]; exact hz)
    | @own j a ha =>
      unfold snapR at e
      split at e
      · rename_i ds ej
        cases e
        obtain ⟨a', e1, fa, vs, hv, r, hz⟩ := k.cell j _ ej
        rw [ha] at e1; cases e1
        exact .lst hv (Rps.mono k.sub.same.t _ _ r) hz
      · rename_i rs ej
        obtain ⟨ds, e2, rfl⟩ := Option.map_eq_some_iff.mp e
        obtain ⟨a', e1, fa, vs, hv, r, hz⟩ := k.cell j _ ej
        rw [ha] at e1; cases e1
        exact .lst hv (snaps_ok ih _ _ _ e2 (fun i r' h => r.get h) r.length) (by rw [mapO_len e2]; exact hz)
      · cases e
theorem Ok.view (k : Ok K A F H S σ) : Ok K A H H (sealAll S) σ where
  sub := Sub.refl H
  len := by rw [← k.len]; simp [sealAll]
  alen := by rw [← k.alen]; simp [sealAll]
  nd := k.nd
  rslot := fun i r h => by
    unfold sealAll at h
    simp only [List.getElem?_map, Option.map_eq_some_iff] at h
    obtain ⟨x, hx, h⟩ := h
    unfold sealS at h
    split at h
    · rename_i ns
      cases h
      obtain ⟨v, e, q⟩ := k.rslot i _ hx
      exact ⟨v, e, q.mono (List.prefix_refl _) k.sub.same.t _ _⟩
    · rename_i c'
      cases h
      obtain ⟨v, e, q⟩ := k.rslot i _ hx
      exact ⟨v, e, q.mono (List.prefix_refl _) k.sub.same.t _ _⟩
    · rename_i r' nr nr2
      obtain ⟨d, e1, rfl⟩ := Option.map_eq_some_iff.mp h
      obtain ⟨v, e, q⟩ := k.rslot i _ hx
      exact ⟨v, e, .dat (snap_ok k _ _ _ _ e1 q)⟩
    · cases h
  cell := fun j c h => by
    unfold sealAll at h
    simp only [List.getElem?_map, Option.map_eq_some_iff] at h
    obtain ⟨_, _, h⟩ := h
    cases h
  trk := k.trk
  tab := k.tab.ext k.sub.same
end
section
variable {X : Cx} {e : Expr} {g : M D} {gt : M Bool}
def gViewN (g : M D) : M D := fun S => (g (sealAll S)).bind fun q => match q.1 with
  | .list ds => if hardDs ds = true then some (.list ds, S) else none
  | _ => none
theorem n_view (h : GN X e g) : GN X e (gViewN g) := by
  obtain ⟨t, p, r⟩ := h.ex
  refine ⟨t, p, fun A F H S σ d S' Q k e post => ?_⟩
  obtain ⟨⟨d, S1⟩, e1, e⟩ := bind_inv e
  simp only at e
  split at e
  · rename_i ds
    split at e
    · rename_i hz
      cases e
      refine r A H H _ σ _ S1 Q k.view e1 fun A1 F1 G p vs ds' p1 s1 k1 hp ed r1 hl => ?_
      cases ed
      have sm : SameT H G := s1.trans k1.sub.same.t
      obtain ⟨s2, k2⟩ := k.newH sm
      exact post A _ G p vs _ (List.prefix_refl _) s2 k2 hp rfl (Rps.hard (fun b xs q => sqT_newH k sm (sqT_same k1.sub.same.t q)) _ _ hz r1) hl
    · cases e
  · cases e
end
end Fu

set_option maxHeartbeats 4000000
namespace L2
open PySem PySem.Spec PyProof.Rows
open Fu (XO)
/-! ### an exception that is looked at behind its suite: it is tracked from the suite's end on -/
section
variable {X : Cx} {pins : List (Addr × Obj)} {σ : St} {H : Hp} {s : Shared}
/-- an object that came to stand since the frame began, and that nobody tracks, is tracked -/
theorem adopt {a : Addr} {cls : Value} {o : Obj} {fs : Array Value} (I : Inv X pins σ H s) (na : H a = none) (ha : s.heap.get? a = some o) (hz : Zc cls none o) (hf : o.data = .fields fs) (h0 : X.s_0.heap.get? a = none) (nL : a ≠ X.env.locals)
    (hp : ∀ p ∈ X.pn ++ pins, p.1 ≠ a) : Inv X pins σ (upd H a (XO cls a)) s := by
  have ne : ∀ b u, H b = some u → b ≠ a := fun b u e z => by rw [z, na] at e; cases e
  have ne0 : ∀ b u, X.s_0.heap.get? b = some u → b ≠ a := fun b u e z => by rw [z, h0] at e; cases e
  have nc : ∀ x c, X.env.cells.lookup x = some c → c ≠ a := fun x c e z => by
    obtain ⟨v, o', ho', hd'⟩ := I.cell x c e
    rw [z, ha] at ho'; cases ho'
    rw [hf] at hd'; cases hd'
  refine ⟨I.ok, I.os, I.bare, ⟨I.base.keep, I.base.slot, fun b u e n hx => ?_, I.base.there, fun b xs e => ?_, fun b u xs e => ?_, fun b ps e => ?_⟩, I.loc, I.cell, ?_, fun x c e => ?_, fun p hm => ?_, fun b u e => ?_, I.len⟩
  · rw [upd_ne (ne0 b u e)]; exact I.base.free b u e n hx
  · have := I.base.tups b xs e
    rw [upd_ne (ne b _ this)]; exact this
  · have := I.base.frzs b u xs e
    rw [upd_ne (ne b _ this)]; exact this
  · obtain ⟨more, q⟩ := I.base.tbls b ps e
    exact ⟨more, by rw [upd_ne (ne b _ q)]; exact q⟩
  · rw [upd_ne (Ne.symm nL)]; exact I.free
  · rw [upd_ne (nc x c e)]; exact I.freeC x c e
  · obtain ⟨k1, k2, k3, k4, k5⟩ := I.pin p hm
    exact ⟨k1, by rw [upd_ne (hp p hm)]; exact k2, k3, k4, k5⟩
  · by_cases hb : b = a
    · subst hb
      rw [upd_same] at e
      cases e
      exact ⟨⟨o, fs, ha, hz, hf⟩, ⟨o, ha⟩, fun _ _ ⟨o', f', q, r⟩ k => ⟨o', f', k o' q, r⟩⟩
    · rw [upd_ne hb] at e
      exact (I.hok b u e).stay (fun _ _ _ q => q) (fun c q => by rw [upd_ne (ne c _ q)]; exact q) (fun c xs q => by rw [upd_ne (ne c _ q)]; exact q)
end
section
variable {X : Cx} {x n : Str} {c : Value} {i : Nat} {body suite : List Stmt} {b0 : Stmt} {np p1 p2 : Pos} {tb : WX → TS} {ts : Addr → Value → TS} {Wout : WX}
end
end L2

set_option maxHeartbeats 4000000
namespace L2
open PySem PySem.Spec PyProof.Rows
open Fu (Sub lpins forget remember lost_of mixH loose_there mix_held mix_free)
section
variable {X : Cx} {k : Nat} {f : Addr} {fd : FuncData} {ps : List Str} {sp : Sp} {W : WX} {x : Str} {p pos : Pos} {e : Expr} {es : List Expr} {t : TA}
end
end L2

set_option maxHeartbeats 4000000
namespace Fu
open PySem PySem.Spec PyProof.Rows L2 RZ
variable [TabsC]
/-! ### what may raise: mirrored with its refusals -/
def ClsD (K : PySem.W.Frag) (c : Str) (D : Addr) : Prop := PySem.W.nsIn K mainGlobals c = some (some (.ref D))
abbrev Zr (α : Type) := Except (Str × Sx) α
def ZErr (K : PySem.W.Frag) (W : WX) (A : List Addr) (F : Hp) (e : Str × Sx) : Prop := ∀ A' F' H' σ' D, A <+: A' → SameT F F' → Ok K A' F' H' e.2 σ' → ClsD K e.1 D → W (.ref D) none σ' H'
def RdEZ (K : PySem.W.Frag) (W : WX) (t : TE) (g : Sx → Option (Zr (D × Sx))) : Prop := ∀ A F H S σ r Q, Ok K A F H S σ → g S = some r →
  (∀ d S', r = .ok (d, S') → ∀ A' F' H' v, A <+: A' → SameT F F' → Ok K A' F' H' S' σ → Rp K F' v d → Q v H') → (∀ e, r = .error e → ZErr K W A F e) → t σ H Q
structure GEZ (X : Cx) (W : WX) (e : Expr) (g : Sx → Option (Zr (D × Sx))) : Prop where
  ex : ∃ t, PE X e t ∧ RdEZ X.K W t g
theorem ZErr.mono {K : PySem.W.Frag} {W : WX} {A A1 : List Addr} {F F1 : Hp} {e : Str × Sx} (p : A <+: A1) (s : SameT F F1) (h : ZErr K W A F e) : ZErr K W A1 F1 e := fun A' F' H' σ' D p' s' k c => h A' F' H' σ' D (p.trans p') (s.trans s') k c
section
variable {X : Cx} {W : WX} {pos p p2 : Pos} {x : Str} {e : Expr} {es : List Expr} {gs : M (List D)} {k n : Nat} {ps : List Str}
end
/-! ### statements that may raise -/
def RdSZ (K : PySem.W.Frag) (P : Hp → Prop) (W : WX) (t : TS) (g : Sx → Option (Zr Out)) : Prop := ∀ B A0 A F H S σ r (E : Ends), P B → SameT B F → A0 <+: A → Ok K A F H S σ → g S = some r → (∀ o, r = .ok o → OutP K B A0 o E) → (∀ e, r = .error e → ZErr K W A0 B e) → t E σ H
structure GZ (X : Cx) (P : Hp → Prop) (W : WX) (st : Stmt) (g : Sx → Option (Zr Out)) : Prop where
  ex : ∃ t, PS X st t ∧ RdSZ X.K P W t g
def zBe (g : Sx → Option (Zr (D × Sx))) (f : D → Sx → Option Out) : Sx → Option (Zr Out) := fun S => (g S).bind fun r => match r with
  | .ok q => (f q.1 q.2).map .ok
  | .error e => some (.error e)
def zSet (i : Nat) (g : Sx → Option (Zr (D × Sx))) := zBe g fun d S => some (.nx ⟨S.sl.set i (some (.dat d)), S.os⟩)
section
variable {X : Cx} {P : Hp → Prop} {W : WX} {st : Stmt} {sts : List Stmt} {g h : Sx → Option (Zr Out)} {e : Expr} {ge : Sx → Option (Zr (D × Sx))} {pos : Pos}
theorem z_set {x : Str} {pos' : Pos} (i : Nat) (hN : X.N.Nodup) (he : GEZ X W e ge) (hx : Loc X.env.scope x := by first | exact Or.inl rfl | exact Or.inr rfl) (hi : X.N[i]? = some x := by rfl) (hs : swapsWith e (some (.Name x pos')) pos.line X.env = pure false := by rfl)
    (hf : X.fn x = true ∨ X.env.scope.names.lookup x = some .local := by first | exact .inl rfl | exact .inr rfl | assumption) : GZ X P W (.Assign [.Name x pos'] e pos) (zSet i ge) := by
  obtain ⟨t, p1, r1⟩ := he.ex
  refine ⟨_, ps_set hN hi hx p1 hs hf, fun B A0 A F H S σ r E hP s p k e post err => ?_⟩
  obtain ⟨r0, e1, e⟩ := bind_inv e
  refine r1 A F H S σ r0 _ k e1 (fun d S1 e0 A1 F1 H1 v p1 s1 k1 rv => ?_) (fun er e0 => ?_)
  · subst e0; cases e
    exact post _ rfl A1 F1 H1 _ (s.trans s1) (p.trans p1) (k1.setDat rv)
  · subst e0; cases e
    exact fun A' F' H' σ' D p' s' k' c => err _ rfl A' F' H' σ' D (p.trans p') (s.trans s') k' c
end
/-! ### a def that may raise -/
section
variable {P : Program} {w : World} {K : PySem.W.Frag} {mg : Str → Option Value} {base : Heap} {x qual : Str} {st : Stmt} {f : Addr} {fd : FuncData} {N ps : List Str} {k n : Nat} {g : Sx → Option (Zr Out)}
end
end Fu

set_option maxHeartbeats 4000000
namespace L2
open PySem PySem.Spec PyProof.Rows
open Fu (XO)
end L2
namespace Fu
open PySem PySem.Spec PyProof.Rows L2 RZ
variable [TabsC]
/-! ### an exception in a slot -/
/-- what an exception of the class c is, seen by cv -/
def ExcIs (K : PySem.W.Frag) (c : Str) (cv : Value) (b : Bool) : Prop := ∀ D, ClsD K c D → ExcC K D ∧ PySem.W.kitOne K (.ref D) cv = some b
section
variable {X : Cx} {pos p p2 p3 : Pos} {y x : Str} {k : Nat}
end
/-! ### a def of one exception -/
section
variable {P : Program} {w : World} {K : PySem.W.Frag} {mg : Str → Option Value} {base : Heap} {x qual : Str} {st : Stmt} {f : Addr} {fd : FuncData} {N ps : List Str} {k n : Nat} {g : Sx → Option Out}
end
section
variable {X : Cx} {pos p py : Pos} {x y : Str} {k : Nat} {ps : List Str}
end
/-! ### try: .. except C as n: y = n -/
section
variable {X : Cx} {P : Hp → Prop} {body : List Stmt} {g : Sx → Option (Zr Out)} {pos p p1 p2 p3 p4 p5 : Pos} {x n y : Str} {W : WX}
theorem Ok.clr {K : PySem.W.Frag} {A : List Addr} {F H : Hp} {S : Sx} {σ : L2.St} (k : Ok K A F H S σ) (i : Nat) : Ok K A F H ⟨S.sl.set i none, S.os⟩ (σ.set i none) := by
  refine ⟨k.sub, by rw [List.length_set, List.length_set]; exact k.len, k.alen, k.nd, fun j r e => ?_, k.cell, k.trk, k.tab⟩
  by_cases h : i = j
  · subst h
    rw [List.getElem?_set] at e
    split at e
    · split at e <;> cases e
    · exact absurd rfl ‹¬ _›
  · rw [List.getElem?_set_ne h] at e
    rw [List.getElem?_set_ne h]
    exact k.rslot j r e
end
end Fu

set_option maxHeartbeats 4000000
namespace Fu
open PySem PySem.Spec PyProof.Rows L2 RZ
variable [TabsC]
/-! ### the facts of the classes -/
def LookT (K : PySem.W.Frag) (mg : Str → Option Value) (x : Str) (cs : List Str) (b : Str → Bool) : Prop := ∃ D, mg x = some (.ref D) ∧ ∀ c ∈ cs, ExcIs K c (.ref D) (b c)
theorem cls_same {K : PySem.W.Frag} {c : Str} {f D : Addr} (a : PySem.W.nsIn K mainGlobals c = some (some (.ref f))) (d : ClsD K c D) : D = f := by
  unfold ClsD at d
  rw [a] at d
  cases d; rfl
theorem ExcIs.mk {K : PySem.W.Frag} {c : Str} {f : Addr} {cv : Value} {b b' : Bool} (a : PySem.W.nsIn K mainGlobals c = some (some (.ref f))) (e : ExcC K f) (k : PySem.W.kitOne K (.ref f) cv = some b') (h : b' = b) : ExcIs K c cv b := fun D d => by
  cases cls_same a d
  exact ⟨e, h ▸ k⟩
theorem sub_self {K : PySem.W.Frag} {C : Addr} {bm : List Value} {n : String} (x : PySem.W.excIn K C bm n = true) : PySem.W.subIn K (.ref C) (.ref C) = some true := by
  unfold PySem.W.excIn at x
  split at x
  · rename_i dict cd sl e
    split at x
    · rename_i C' bm' h1 h2 h3 n' h4 em _
      simp only [Bool.and_eq_true, beq_iff_eq] at x
      obtain ⟨⟨⟨⟨⟨rfl, _⟩, _⟩, _⟩, _⟩, _⟩ := x
      simp only [PySem.W.subIn, PySem.W.mroIn, PySem.W.clsIn, e, Option.bind_some, em]
      simp
    · cases x
  · cases x
section
variable {X : Cx} {pos p p2 p3 p1 p4 p5 : Pos} {y x n : Str} {P : Hp → Prop} {body : List Stmt} {g : Sx → Option (Zr Out)}
/-- {}, held as data: what it holds is not told -/
def gDict0 : M D := fun S => some (.dict [], S)
theorem e_dict0 : GE X (.Dict [] [] pos) gDict0 := by
  refine ⟨_, pe_dnewK, fun A F H S σ d S' Q k e post => ?_⟩
  cases e
  intro p hp
  exact post A _ _ _ (List.prefix_refl _) (same_upd (k.sub.none hp)) (k.laid hp) (.dct (.inl ⟨_, upd_same⟩) fun _ => upd_same)
end
end Fu

set_option maxHeartbeats 4000000
namespace L2
open PySem PySem.Spec PyProof.Rows
open Fu (XO)
end L2
namespace Fu
open PySem PySem.Spec PyProof.Rows L2 RZ
variable [TabsC]
/-! ### looks by many classes at once -/
structure AnyT (X : Cx) (es : List Expr) (cs : List Str) (b : Str → Bool) : Prop where
  ex : ∃ (Cs : List Addr) (t : TA), PA X es t ∧ (∀ σ H Q, Q (Cs.map V.ref) H → t σ H Q) ∧ (∀ c ∈ cs, ∀ D, ClsD X.K c D → PySem.W.kitAny X.K (.ref D) (Cs.map Value.ref) = some (b c)) ∧ Cs.length = es.length
section
variable {X : Cx} {pos p p2 p3 p4 : Pos} {y x : Str} {es : List Expr} {cs : List Str} {b b2 : Str → Bool}
theorem any_nil : AnyT X [] cs (fun _ => false) := ⟨[], _, pa_nil, fun σ H Q q => q, (fun c _ D _ => kitAny_nil), rfl⟩
theorem any_cons (T : LookT X.K X.mg x cs b) (h : AnyT X es cs b2) (hgx : Gl X x := by rfl) (hdx : (x == ("__debug__" : Str)) = false := by decide) (he : starEach (.Name x p :: es) X.env = (false, eval (.Name x p) X.env) :: starEach es X.env := by rfl) :
    AnyT X (.Name x p :: es) cs (fun c => b c || b2 c) := by
  obtain ⟨C, hC, hk⟩ := T
  obtain ⟨Cs, t, pa, ht, ha, hn⟩ := h.ex
  refine ⟨C :: Cs, _, pa_cons (pe_glob (v := .ref C) hgx hC rfl hdx) pa he, fun σ H Q q => ht σ H _ q, fun c hc D cd => ?_, by rw [List.length_cons, List.length_cons, hn]⟩
  have k1 := (hk c hc D cd).2
  have k2 := ha c hc D cd
  refine kitAny_cons k1 (fun e1 => ?_) (fun e1 => by rw [e1]; rfl)
  rw [e1]; exact k2
end
/-! ### two new lists at once -/
section
variable {X : Cx} {P : Hp → Prop} {pos py : Pos} {x y : Str} {a b : Expr} {ga gb ge : M D}
end
/-! ### more of what may raise -/
section
variable {X : Cx} {W : WX} {pos p : Pos} {x : Str} {e : Expr} {es : List Expr} {id : String} {k : Nat}
end
end Fu

set_option maxHeartbeats 4000000
namespace L2
open PySem PySem.Spec PyProof.Rows
open Fu (dictO)
/-! ### {t: v}, t a tuple of ints and texts: a dict, what it holds is not told -/
end L2
namespace Fu
open PySem PySem.Spec PyProof.Rows L2 RZ
variable [TabsC]
section
variable {X : Cx} {pos : Pos} {e v : Expr} {ge gv : M D} {k : Nat}
theorem mix_oneD {H G' : Hp} {p : Addr} {o : HO} (hp : H p = none) (hg : G' p = none) : mixH H (upd H p o) G' = upd G' p o := by
  funext b
  by_cases hb : b = p
  · subst hb
    rw [mix_lost hp upd_same, upd_same]
  · rw [upd_ne hb]
    unfold mixH
    rw [upd_ne hb]
    cases H b <;> rfl
theorem upd_twiceD {H : Hp} {p : Addr} {o o2 : HO} : upd (upd H p o) p o2 = upd H p o2 := by
  funext b
  by_cases hb : b = p
  · subst hb; rw [upd_same, upd_same]
  · rw [upd_ne hb, upd_ne hb, upd_ne hb]
end
end Fu

set_option maxHeartbeats 4000000
namespace Fu
open PySem PySem.Spec PyProof.Rows L2
variable [TabsC]
section
variable {X : Cx} {pos apos p p2 sp c0 c1 : Pos} {a e o : Expr} {ga ge go : M D} {k : Nat} {y z : Str} {i : Int} {j j0 j1 : Nat}
/-! ### line[2].replace("b", "a"): the index gives out a token -/
/-! ### letters.index(sign) of a text -/
end
end Fu

set_option maxHeartbeats 4000000
namespace PySem
open Sem (wp)
set_option maxHeartbeats 4000000 in
section
variable {prog : Program} {w : World} {A : Around} {E : Value → Shared → Prop} {s : Shared}
end
end PySem
namespace L2
open PySem PySem.Spec PyProof.Rows
end L2
namespace Fu
open PySem PySem.Spec PyProof.Rows L2
variable [TabsC]
section
variable {X : Cx} {p pos : Pos} {e : Expr} {gs : M (List D)}
end
end Fu

set_option maxHeartbeats 4000000
namespace Fu
open PySem PySem.Spec PyProof.Rows L2
variable [TabsC]
/-! ### set & set -/
section
variable {P : Program} {w : World} {A : Around} {E : Value → Shared → Prop} {s : Shared}
end
end Fu

set_option maxHeartbeats 4000000
namespace Fu
open PySem PySem.Spec PyProof.Rows L2
variable [TabsC]
section
variable {P : Program} {w : World} {A : Around} {E : Value → Shared → Prop} {s : Shared}
end
/-! ### tracked sets of whole numbers -/
section
variable {X : Cx} {pos p p1 p2 p3 p4 p5 p6 p7 : Pos} {e e2 : Expr} {ge ge2 : M D}
section
variable {k : Nat} (hr : Room k X.A) (m1 : X.mg "set" = none) (ha : GE X e ge) (hb : GE X e2 ge2)
include hr m1 ha hb in
include hr m1 ha hb in
end
end
end Fu

set_option maxHeartbeats 4000000
namespace Fu
open PySem PySem.Spec PyProof.Rows L2
variable [TabsC]
section
variable {X : Cx} {pos apos p p2 : Pos} {a e o : Expr} {es : List Expr} {ga ge go : M D} {gs : M (List D)}
/-! ### str(n), int(text) -/
/-! ### split, partition, join -/
end

/-! ### head, *rest = a list -/
section
variable {prog : Program} {w : World} {A : Around} {E : Value → Shared → Prop} {s : Shared}
end
section
variable {X : Cx} {pos p : Pos} {e : Expr} {es : List Expr} {tg ts : List Nat} {g : D → Sx → Option Sx} {gs : List D → Sx → Option Sx}
def sStar1 (gs : List D → Sx → Option Sx) : D → Sx → Option Sx := fun d S => match d with
  | .list (d :: ds) => gs [d, .list ds] S
  | _ => none
end
end Fu

set_option maxHeartbeats 4000000
/-! sorted(it, key=f) where the keys may hold lists, over any source -/
namespace SrtL
open PySem PySem.W PySem.Calls PyProof.Rows
variable {pg : Program} {wd : World} {A : Around} {E : Value → Shared → Prop} {s : Shared} {l kL : Addr} {rv : Bool} {us : List Value} {z1 : Nat} {Pf : PySem.Fin → Shared → Prop} {kds : List PyData}
/-- a turn: f(x) tells the key k; the lists that it reads stood in h1 -/
def Tells (J : Shared → Prop) (h1 : Heap) (k : PyData) (s1 : Shared) (u : Value) (s2 : Shared) : Prop :=
  J s2 ∧ (∀ b o, s1.heap.get? b = some o → s2.heap.get? b = some o) ∧ ∃ as, Reads s2.heap u k as ∧ ∀ x ∈ as, h1.get? x ≠ none
/-- the keys so far -/
def Here (h1 h : Heap) (u : Value) (d : PyData) : Prop := ∃ as, Reads h u d as ∧ alike d d = true ∧ ∀ x ∈ as, h1.get? x ≠ none
theorem Here.keeps {h1 h h' : Heap} {u : Value} {d : PyData} (k : ∀ b o, h.get? b = some o → h'.get? b = some o) (q : Here h1 h u d) : Here h1 h' u d := by
  obtain ⟨as, r, e, m⟩ := q
  exact ⟨as, PyProof.Rows.Reads.keeps k r, e, m⟩
theorem rest {f : Value} {h1 : Heap} (J : Shared → Prop) (hJ : ∀ t g n, J t → J { t with heap := g, toks := n }) (hj : J s)
    (kp : KeepsBut l h1 s.heap) (n1 : h1.get? kL = none) (n2 : s.heap.get? kL = some (seqObj "list" #[] 0)) (n3 : s.heap.get? l = some (seqObj "list" #[] z1)) (ne : kL ≠ l)
    (len : kds.length = us.length) (few : us.length ≤ sizeLine) (al : AllAlike kds) (so : Sortable kds) (un : ∀ d, d ∈ kds → A.units + d.depth < cLine)
    (turn : ∀ (i : Nat) (v : Value) (k : PyData), us[i]? = some v → kds[i]? = some k → ∀ t : Shared, J t → KeepsBut l h1 t.heap → wpAny (model pg wd) A (call f [v]) (Tells J h1 k t) (fun _ _ => False) t)
    (fin : ∀ (t : Shared) out c, J t → KeepsBut l h1 t.heap → t.heap.get? l = some (seqObj "list" (List.toArray out) c) → KeyedOut rv kds us out → Pf (.done (.ret .none)) t) :
    wpAny (model pg wd) A (ksk_rest l f rv us.toArray z1 (.ref kL)) Pf E s := by
  unfold ksk_rest
  refine wpAny_bind (wpAny_rule ?_)
  first | rw [List.forIn_toArray] | (rw [← Array.forIn_toList]; simp only [List.toList_toArray])
  let St : Nat → Shared → Prop := fun i t => ∃ (kA : Array Value) (n : Nat), J t ∧ KeepsBut l h1 t.heap ∧ t.heap.get? kL = some (seqObj "list" kA n) ∧ t.heap.get? l = some (seqObj "list" #[] z1) ∧ EachIs (Here h1 t.heap) kA.toList (kds.take i)
  have st0 : St 0 s := ⟨#[], 0, hj, kp, n2, n3, by rw [List.take_zero]; exact EachIs.nil⟩
  refine wpAny_bind (ksk_fold St us 0 s st0 ?go ?done)
  case go =>
    rintro j x t hx ⟨kA, n, hjt, kpt, m2, m3, hk⟩
    simp only [Nat.zero_add] at hk ⊢
    have hj' : j < us.length := (List.getElem?_eq_some_iff.mp hx).1
    obtain ⟨d, hd⟩ : ∃ d, kds[j]? = some d := ⟨_, List.getElem?_eq_getElem (by omega)⟩
    have dd : alike d d = true := al d (List.mem_of_getElem? hd) d (List.mem_of_getElem? hd)
    have small : kA.size ≤ us.length := by
      have e1 := hk.length
      simp only [Array.length_toList, List.length_take] at e1
      omega
    refine wpAny_bind (wpAny_attempt (wpAny_mono (turn j x d hx hd t hjt kpt) (fun v t2 he => ?_) fun _ _ no => no.elim))
    obtain ⟨j2, kp2, as, rd, old⟩ := he
    have p2 : t2.heap.get? kL = some (seqObj "list" kA n) := kp2 _ _ m2
    have p3 : t2.heap.get? l = some (seqObj "list" #[] z1) := kp2 _ _ m3
    have sb := Heap.SameBut.update t2.heap kL (Obj.mapSeq (·.push v))
    obtain ⟨n', hn'⟩ : ∃ n', (t2.heap.update kL (Obj.mapSeq (·.push v))).get? kL = some (seqObj "list" (kA.push v) n') := ⟨_, get?_update_seq p2 (·.push v)⟩
    refine wpAny_bind (listUpdate_at p2 rfl ?_ (Nat.le_trans small few) (by rw [Array.size_push]; exact Nat.succ_le_succ (Nat.le_trans small few)))
    have ok : ∀ (u : Value) (e : PyData), Here h1 t2.heap u e → Here h1 (t2.heap.update kL (Obj.mapSeq (·.push v))) u e := fun u e ⟨bs, r, q, m⟩ =>
      ⟨bs, Reads.keepBut (a := kL) (fun b o nb eb => (sb.2 b nb).trans eb) (fun o eb => by rw [p2] at eb; cases eb; rfl) e u bs q r (fun z => m kL z n1), q, m⟩
    have stepKp : KeepsBut l h1 (t2.heap.update kL (Obj.mapSeq (·.push v))) := (kpt.trans_all kp2).same sb (.inr n1)
    have each : EachIs (Here h1 (t2.heap.update kL (Obj.mapSeq (·.push v)))) (kA.push v).toList (kds.take (j + 1)) := by
      have e1 : kds.take (j + 1) = kds.take j ++ [d] := by rw [List.take_add_one, hd]; rfl
      rw [e1, Array.toList_push]
      exact each_snoc (ok v d ⟨as, rd, dd, old⟩) (hk.mono fun u e q => ok u e (q.keeps kp2))
    exact wpAny_pure ⟨rfl, kA.push v, n', hJ _ _ _ j2, stepKp, hn', (sb.2 l ne.symm).trans p3, each⟩
  case done =>
    rintro t ⟨kA, n, hjt, kpt, m2, m3, hk⟩
    have all : kds.take (0 + us.length) = kds := List.take_of_length_le (by omega)
    rw [all] at hk
    have hk2 : EachIs (fun v k => ∃ as, Reads t.heap v k as) kA.toList kds := hk.mono fun v k ⟨as, q, _⟩ => ⟨as, q⟩
    have sz : kA.size = us.length := by
      have e1 := hk2.length
      simp only [Array.length_toList] at e1
      omega
    refine wpAny_bind (listItems_at m2 rfl ?_)
    refine keyH_end (κ := dataKind t.heap kds) (h₁ := h1) kpt n1 m2 m3 ne (SortsAt.data (s := t) hk2 al so un) sz few fun h3 tk3 c k3 n4 => ?_
    exact fin _ _ c (hJ _ _ _ hjt) k3 n4 ⟨t.heap, kA.toList, al, rfl, hk2⟩
end SrtL

set_option maxHeartbeats 4000000
/-! a lambda of one parameter: (-len(ends), ends) -/
namespace SrtL
open PySem PySem.W PySem.Calls PyProof.Rows PySem.Spec
section
variable {pg : Program} {wd : World} {A : Around} {E : Value → Shared → Prop} {t : Shared} {mg mb : Str → Option Value}
end
end SrtL

set_option maxHeartbeats 4000000
/-! sorted(d.values(), key=lambda ends: (-len(ends), ends)) -/
namespace SrtL
open PySem PySem.Spec PyProof.Rows L2
section
variable {X : Cx} {pins : List (Addr × Obj)} {σ : L2.St} {H : Hp} {s : Shared}
end
section
variable [Fu.TabsC] {X : Cx} {pins : List (Addr × Obj)} {σ : L2.St} {H : Hp} {s : Shared}
end
section
variable [Fu.TabsC] {X : Cx}
end
end SrtL

set_option maxHeartbeats 4000000
/-! a dict of own lists: {}, d.setdefault(k, []).append(x), sorted(d.values(), key=..) -/
namespace Fu
open PySem PySem.Spec PyProof.Rows L2
variable [TabsC]
def keyOf : D → Option Key
  | .str x => some (.inr x)
  | .int n => some (.inl n)
  | _ => none
def valR (kvs : List (Key × R)) (k : Key) : Option R := (kvs.find? fun kv => decide (kv.1 = k)).map (·.2)
def putR (kvs : List (Key × R)) (k : Key) (r : R) : List (Key × R) :=
  if (kvs.any fun kv => decide (kv.1 = k)) = true then kvs.map (fun kv => if kv.1 = k then (kv.1, r) else kv) else kvs ++ [(k, r)]
section
variable {K : PySem.W.Frag} {A : List Addr} {F : Hp}
theorem pair_val (k : Key) : ∀ {vs : List (Key × V)} {kvs : List (Key × R)}, PairR K A F vs kvs → (valR kvs k = none → valV vs k = none) ∧ ∀ r, valR kvs k = some r → ∃ v, valV vs k = some v ∧ Rr K A F v r
  | _, _, .nil => ⟨fun _ => rfl, fun r e => by cases e⟩
  | (k1, v) :: vs, (k2, r) :: kvs, .cons ⟨e, h⟩ t => by
    have e : k1 = k2 := e
    subst e
    obtain ⟨i1, i2⟩ := pair_val k t
    by_cases hk : k1 = k
    · refine ⟨fun e => by simp [valR, List.find?_cons, hk] at e, fun q e => ⟨v, by simp [valV, List.find?_cons, hk], ?_⟩⟩
      simp [valR, List.find?_cons, hk] at e
      subst e
      exact h
    · have e1 : valR ((k1, r) :: kvs) k = valR kvs k := by simp [valR, List.find?_cons, hk]
      have e2 : valV ((k1, v) :: vs) k = valV vs k := by simp [valV, List.find?_cons, hk]
      rw [e1, e2]
      exact ⟨i1, i2⟩
theorem pair_any (k : Key) : ∀ {vs : List (Key × V)} {kvs : List (Key × R)}, PairR K A F vs kvs → (vs.any fun kv => decide (kv.1 = k)) = (kvs.any fun kv => decide (kv.1 = k))
  | _, _, .nil => rfl
  | (k1, v) :: vs, (k2, r) :: kvs, .cons ⟨e, h⟩ t => by
    have e : k1 = k2 := e
    subst e
    simp only [List.any_cons, pair_any k t]
theorem pair_repl (k : Key) {v : V} {r : R} (h : Rr K A F v r) : ∀ {vs : List (Key × V)} {kvs : List (Key × R)}, PairR K A F vs kvs → PairR K A F (vs.map fun kv => if kv.1 = k then (kv.1, v) else kv) (kvs.map fun kv => if kv.1 = k then (kv.1, r) else kv)
  | _, _, .nil => .nil
  | (k1, _) :: vs, (k2, _) :: kvs, .cons ⟨e, g⟩ t => by
    have e : k1 = k2 := e
    subst e
    simp only [List.map_cons]
    by_cases hk : k1 = k
    · rw [if_pos hk, if_pos hk]; exact .cons ⟨rfl, h⟩ (pair_repl k h t)
    · rw [if_neg hk, if_neg hk]; exact .cons ⟨rfl, g⟩ (pair_repl k h t)
theorem pair_put (k : Key) {v : V} {r : R} (h : Rr K A F v r) {vs : List (Key × V)} {kvs : List (Key × R)} (t : PairR K A F vs kvs) : PairR K A F (putK vs k v) (putR kvs k r) := by
  unfold putK putR
  rw [pair_any k t]
  split
  · exact pair_repl k h t
  · exact t.snoc ⟨rfl, h⟩
theorem key_of {v : V} {d : D} {k : Key} (h : keyOf d = some k) (r : Rp K F v d) : v = kV k := by
  cases d with
  | str x => cases h; cases r; rfl
  | int n => cases h; cases r; rfl
  | none => cases h
  | bool b => cases h
  | list xs => cases h
  | tuple xs => cases h
  | dict kvs => cases h
end
section
variable {X : Cx} {P : Hp → Prop} {pos pd py pz pl ap1 ap2 cp1 cp2 : Pos} {ek : Expr} {gk : M D} {y z : Str}
/-! ### sorted(d.values(), key=lambda ends: (-len(ends), ends)) -/
def wiped (S : Sx) : Sx := ⟨S.sl.map fun _ => none, S.os.map fun _ => none⟩
theorem Ok.wiped {K : PySem.W.Frag} {A : List Addr} {F H H1 : Hp} {S : Sx} {σ : L2.St} (k : Ok K A F H S σ) (s : SameT H H1) : Ok K A H1 H1 (wiped S) σ where
  sub := Sub.refl H1
  len := by show (S.sl.map _).length = _; rw [List.length_map]; exact k.len
  alen := by show (S.os.map _).length = _; rw [List.length_map]; exact k.alen
  nd := k.nd
  rslot := fun i r h => by
    have h : (S.sl.map fun _ => (none : Option R))[i]? = some (some r) := h
    rw [List.getElem?_map] at h
    obtain ⟨_, _, e⟩ := Option.map_eq_some_iff.mp h
    cases e
  cell := fun i r h => by
    have h : (S.os.map fun _ => (none : Option Cell))[i]? = some (some r) := h
    rw [List.getElem?_map] at h
    obtain ⟨_, _, e⟩ := Option.map_eq_some_iff.mp h
    cases e
  trk := fun a h => by obtain ⟨o, q, l⟩ := k.trk a h; exact ⟨o, s.old _ _ q l.nt, l⟩
  tab := s.tab (k.tab.ext k.sub.same)
end

/-! ### a def whose code object is known -/
section
variable {P : Program} {w : World} {K : PySem.W.Frag} {mg : Str → Option Value} {base : Heap} {x : Str} {st : Stmt} {N ps : List Str} {k n : Nat} {g : Sx → Option Out}
end
end Fu

set_option maxHeartbeats 4000000
/-! the end of a law whose defs make lambdas -/
namespace Fu
open PySem PySem.Spec PyProof.Rows L2
section
variable [TabsC]
variable {P : Program} {w : World} {K : PySem.W.Frag} {mg : Str → Option Value} {base : Heap} {x qual : Str} {st : Stmt} {f : Addr} {fd : FuncData} {N ps : List Str} {k n : Nat} {g : Sx → Option Out}
end
section
variable [TabsC]
variable {P : Program} {w : World} {K : PySem.W.Frag} {mg : Str → Option Value} {base : Heap} {x qual : Str} {st : Stmt} {f : Addr} {fd : FuncData} {N ps : List Str} {k n : Nat} {g : Sx → Option Out}
end
/-- where no lambda is made -/
instance (priority := low) noTabs : TabsC := ⟨[], []⟩
end Fu

set_option maxHeartbeats 4000000
/-! sorted(set([ints])) -/
namespace SetL
open PySem PySem.Calls PyProof.Rows L2
section
variable {pg : Program} {wd : World} {A : Around} {E : Value → Shared → Prop} {s : Shared}
theorem newOf (a : Value) {Qn : Value → Shared → Prop}
    (q : Qn (.ref s.heap.objs.size) { s with heap := s.heap.push { cls := .type "set", dict := none, data := .set #[] 0 (.fresh 0 0 (!wd.params.followText "set-order")) } }) :
    codeAny (model pg wd) A (.call (.builtin "set.__new__") ⟨[.type "set", a], []⟩) (wants Qn E) s := by
  refine codeAny_of_tree ?_
  show wpAny _ A.in1 (do checkBuiltinCall "set.__new__" ⟨[.type "set", a], []⟩; again (.builtin "set.__new__" ⟨[.type "set", a], []⟩)) _ _ s
  refine wpAny_bind (wpAny_of_eq (PySem.F.newCall_set_1 a) (wpAny_pure ⟨plainId_quiet PySem.F.plain_set_new _, codeAny_builtin PySem.F.entry_set_new ?_⟩))
  rw [Around.under_plainId PySem.F.plain_set_new _]
  unfold Builtin.«set.__new__» Builtin.Frozenset.newClass
  have self := sub_set_self
  obtain ⟨hp, g, d, tk, os⟩ := s
  dsimp only
  wp_walk
  refine wpAny_askSetting (wpAny_pure ?_)
  dsimp only
  simp only [newObj]
  exact wpAny_bind (wpAny_alloc (wpAny_pure (wpAny_pure q)))
end
section
variable {pg : Program} {wd : World} {A : Around} {R : Result → Shared → Prop} {I : Addr} {fp wr : List Addr} {G : Array GenState → Array GenState → Prop} {n : Nat} {P : Nat → Value → Prop} {St : Nat → Shared → Prop}
/-- what has come of the first i -/
def Got (w : World) (h : Heap) (a : Addr) (val : Nat → Int) (i : Nat) : Prop := SetR w h a (fun k => (firstMet val i).any (· == k)) (firstMet val i).length
theorem loop (W : WalksS pg wd A.in1 I fp wr G n P St) (a : Addr) (out : a ∉ fp) (val : Nat → Int) (isI : ∀ i v, P i v → ∃ t, v = .int (val i) t) (room : n + 1 < scanBound) :
    ∀ (m i : Nat) (s : Shared), n - i = m → i ≤ n → St i s → Got wd s.heap a val i → (∀ t, Moved (a :: wr) G s t → Got wd t.heap a val n → R (.ok (.ret .none)) t) → codeAny (model pg wd) A (.builtin "set.update.loop" ⟨[.ref a, .ref I], []⟩) R s := by
  have nw : a ∉ wr := fun h => out (W.sub _ h)
  have up : ∀ b ∈ wr, b ∈ a :: wr := fun b hb => List.mem_cons_of_mem _ hb
  intro m
  induction m with
  | zero =>
    intro i s e1 e2 st got fin
    obtain rfl : i = n := by omega
    refine codeAny_builtin PyProof.Rows.F.entry_set_update_loop ?_
    rw [Around.under_plainId PyProof.Rows.F.plain_set_update_loop _]
    show wpAny _ A.in1 (pyNext (.ref I) >>= _) _ _ s
    refine wpAny_bind (W.done s _ _ st fun t mv => ?_)
    show wpAny _ A.in1 (ret Value.none) _ _ t
    exact wpAny_pure (fin t (mv.mono up) (SetR.at got fun o e => mv.heap a o nw e))
  | succ m ih =>
    intro i s e1 e2 st got fin
    have lt : i < n := by omega
    refine codeAny_builtin PyProof.Rows.F.entry_set_update_loop ?_
    rw [Around.under_plainId PyProof.Rows.F.plain_set_update_loop _]
    show wpAny _ A.in1 (pyNext (.ref I) >>= _) _ _ s
    refine wpAny_bind (W.item i s _ _ lt st fun v t hP st2 mv => ?_)
    obtain ⟨tk, rfl⟩ := isI i v hP
    have got2 : Got wd t.heap a val i := SetR.at got fun o e => mv.heap a o nw e
    show wpAny _ A.in1 (holding [Value.int (val i) tk] (setAdd a (.int (val i) tk)) >>= _) _ _ t
    refine wpAny_bind (wpAny_holding ?_)
    unfold setAdd
    refine wpAny_holding ?_
    refine wpAny_bind ((intKind pg wd).pyHash (k := val i) (intKind_is _ _ _ _) ?_)
    have few : (firstMet val i).length + 1 < scanBound := by have := firstMet_length_le val i; omega
    refine setR_add_hashed (P := pg) (s := { t with toks := t.toks + 1 }) got2 few fun g sb r => ?_
    have got3 : Got wd g a val (i + 1) := by
      unfold Got
      have e : (fun k => (firstMet val (i + 1)).any (· == k)) = fun j => (firstMet val i).any (· == j) || decide (j = val i) := by
        funext k
        rw [firstMet_succ, step_any]
      have e' : (firstMet val (i + 1)).length = if (firstMet val i).any (· == val i) = true then (firstMet val i).length else (firstMet val i).length + 1 := by rw [firstMet_succ, step_length]
      rw [e, e']
      exact r
    refine wpAny_pure ⟨plainId_quiet PyProof.Rows.F.plain_set_update_loop _, ih (i + 1) _ (by omega) lt (W.frame _ t _ _ st2 (Nat.le_succ _) fun b hb o e => ?_) got3 fun t2 mv2 got4 => ?_⟩
    · rw [sb.2 b (fun z : b = a => out (z ▸ hb))]; exact e
    · refine fin t2 (Moved.trans W.gtrans ((mv.mono up).then_heap (Nat.le_succ _) fun b o hb e => ?_) mv2) got4
      rw [sb.2 b (fun z : b = a => hb (z ▸ List.mem_cons_self))]; exact e
end
section
variable {pg : Program} {wd : World} {A : Around} {E : Value → Shared → Prop} {s : Shared}
/-- set(xs) of ints -/
theorem ofList {l : Addr} {its : Array Value} {ns : List Int} {Q : Value → Shared → Prop} (hd : A.handled = none) (at_ : s.heap.IsList l its) (isI : IntsAre its.toList ns) (room : its.size + 1 < scanBound)
    (q : ∀ (g : Heap) (tk : Nat), Got wd g s.heap.objs.size (fun i => ns.getD i 0) its.size → (∀ b o, b < s.heap.objs.size → s.heap.get? b = some o → g.get? b = some o) → Q (.ref s.heap.objs.size) { s with heap := g, toks := tk }) :
    wpAny (model pg wd) A (call (.type "set") [.ref l]) Q E s := by
  obtain ⟨c, tl, hmro⟩ := PySem.F.called_set.mro
  have hmade := PySem.F.called_set.made
  have hsub := PySem.F.called_set.sub
  refine wpAny_call (codeAny_of_tree ?_)
  show wpAny _ _ (callAny (.type "set") _) _ _ _
  refine wpAny_pure ⟨Code.quiet_builtin _ (by decide +kernel), codeAny_builtin PySem.F.entry_type_call ?_⟩
  rw [Around.under_plain (weight_type_call_type "set" [.ref l] []) rfl]
  have h1 := PySem.F.called_set.notType
  have h2 := PySem.F.called_set.canCreate
  have hct := PySem.F.typeCall_set_1 (.ref l)
  repeat (any_goals (first | assumption | wp_step))
  let so : Obj := { cls := .type "set", dict := none, data := .set #[] 0 (.fresh 0 0 (!wd.params.followText "set-order")) }
  refine codeAny_mono (newOf (.ref l) (E := E) (Qn := fun v t => v = .ref s.heap.objs.size ∧ t = { s with heap := s.heap.push so }) ⟨rfl, rfl⟩) fun r t hr => ?_
  cases r with
  | error e => exact hr
  | ok fl =>
    cases fl with
    | ret v =>
      obtain ⟨rfl, rfl⟩ := hr
      have hS : (s.heap.push so).get? s.heap.objs.size = some so := Heap.get?_push_size _ rfl
      have hT : Shared.TypeIs { s with heap := s.heap.push so } (.ref s.heap.objs.size) "set" := ⟨_, hS, rfl⟩
      have hli := PySem.F.called_set.init.lookup
      have hbi := PySem.F.called_set.init.bind (.ref s.heap.objs.size)
      repeat (any_goals (first | assumption | wp_step))
      refine codeAny_mono (codeAny_call_builtin (R := wants (fun r u => r = .none ∧ ∃ g tk, u = { s with heap := g, toks := tk } ∧ Got wd g s.heap.objs.size (fun i => ns.getD i 0) its.size ∧ (∀ b o, b < s.heap.objs.size → s.heap.get? b = some o → g.get? b = some o)) E)
        PySem.F.called_set.init.plain PySem.F.entry_set_init (check_set_init_1 hT ?_)) fun r2 u hr2 => ?_
      · obtain ⟨⟨oc, od, ob, os⟩, hol, hcl, nl, hdl⟩ := at_
        simp only at hcl hdl
        subst hcl; subst hdl
        have hol' : (s.heap.push so).get? l = some { cls := .type "list", dict := od, data := .seq its nl, slots := os } := Heap.get?_push_of_some _ hol
        have hsls := PySem.F.sub_list_set
        have hslf := PySem.F.sub_list_frozenset
        have hne : (Value.type "list" == Value.type "dict") = false := by decide
        have hl1 : (s.heap.push so).IsList l its := ⟨_, hol', rfl, nl, rfl⟩
        unfold Builtin.«set.__init__» noKeywords Builtin.Frozenset.updateFrom
        generalize hPI : pyIter = PI
        wp_walk
        subst hPI
        refine wpAny_pyIter_list hl1 ?_
        refine wpAny_bind (wpAny_runValue ?_)
        have ls : l < s.heap.objs.size := Heap.lt_size hol
        have h3 : A.in1.in1.in1.handled = none := by simp [hd]
        have neI : l ≠ (s.heap.push so).objs.size := by rw [Heap.size_push]; exact Nat.ne_of_lt (Nat.lt_succ_of_lt ls)
        have nin : s.heap.objs.size ∉ [(s.heap.push so).objs.size, l] := by
          rw [Heap.size_push]
          simp only [List.mem_cons, List.mem_singleton, List.not_mem_nil, or_false, not_or]
          exact ⟨Nat.ne_of_lt (Nat.lt_succ_self _), Nat.ne_of_gt ls⟩
        refine loop (wd := wd) ((Walks.list h3 _ l neI its).toS) s.heap.objs.size nin (fun i => ns.getD i 0) (fun i v hv => PyProof.Rows.IntsAre.int_at isI i v (by rw [Array.getElem?_toList]; exact hv)) room (its.size - 0) 0 _ (by omega) (Nat.zero_le _)
          ⟨⟨_, Heap.get?_push_size _ rfl, rfl, rfl⟩, (hl1.push _)⟩ ?_ ?_
        · exact SetR.at (setR_fresh wd) fun o e => Heap.get?_push_of_some _ e
        · intro t mv got
          obtain ⟨g, g', d', tk', os'⟩ := t
          have eg : g' = s.gens := mv.gens
          have ed : d' = s.drawn := mv.drawn
          have eo : os' = s.os := mv.os
          subst eg; subst ed; subst eo
          show wpAny _ _ _ _ _ _
          refine wpAny_pure ?_
          show wpAny _ _ (ret Value.none) _ _ _
          refine wpAny_pure ⟨rfl, g, tk', rfl, got, fun b o hb e => ?_⟩
          have b1 : b ≠ s.heap.objs.size := Nat.ne_of_lt hb
          have b2 : b ≠ (s.heap.push so).objs.size := by rw [Heap.size_push]; exact Nat.ne_of_lt (Nat.lt_succ_of_lt hb)
          exact mv.heap b o (by simp only [List.mem_cons, List.mem_singleton, List.not_mem_nil, or_false, not_or]; exact ⟨b1, b2⟩) (Heap.get?_push_of_some _ (Heap.get?_push_of_some _ e))
      · cases r2 with
        | error e => exact hr2
        | ok fl2 =>
          cases fl2 with
          | ret r =>
            obtain ⟨rfl, g, tk, rfl, got, kp⟩ := hr2
            repeat (any_goals (first | assumption | wp_step))
            exact q _ _ got kp
          | _ => exact hr2.elim
    | _ => exact hr.elim
end
end SetL

set_option maxHeartbeats 4000000
/-! set([ints]) with its members, sorted -/
namespace SetL
open PySem PySem.Spec PySem.Calls PyProof.Rows L2
section
variable {X : Cx}
/-- set(xs), xs a list of ints -/
def rSetL (K : PySem.W.Frag) (w : World) : List V → Hp → VK → Prop := fun vs H Q => ∃ (b : Addr) (ns : List Int), vs = [V.ref b] ∧ SqL K H b (ns.map V.int) ∧ ns.length + 1 < scanBound ∧
  ∀ (p : Addr) (S : Int → Bool) (n : Nat), (∀ k : Int, S k = true ↔ k ∈ ns) → (∃ ms : List Int, ms.Nodup ∧ (∀ k, k ∈ ms ↔ k ∈ ns) ∧ ms.length = n) → H p = none → Q (.ref p) (upd H p (SetO w p S n))
theorem mem_got (ns : List Int) (k : Int) : (firstMet (fun i => ns.getD i 0) ns.length).any (· == k) = true ↔ k ∈ ns := by
  rw [firstMet_any]
  rw [List.any_eq_true]
  constructor
  · rintro ⟨x, hx, e⟩
    obtain ⟨i, hi, rfl⟩ := List.mem_map.mp hx
    have hl := List.mem_range.mp hi
    have := beq_iff_eq.mp e
    subst this
    show ns.getD i 0 ∈ ns
    rw [List.getD_eq_getElem?_getD, List.getElem?_eq_getElem hl]
    exact List.getElem_mem hl
  · intro h
    obtain ⟨i, hl, rfl⟩ := List.mem_iff_getElem.mp h
    refine ⟨ns[i], List.mem_map.mpr ⟨i, List.mem_range.mpr hl, ?_⟩, beq_self_eq_true _⟩
    show ns.getD i 0 = _
    rw [List.getD_eq_getElem?_getD, List.getElem?_eq_getElem hl]
    rfl
theorem nodup_met (val : Nat → Int) : ∀ i, (firstMet val i).Nodup
  | 0 => by rw [firstMet_zero]; exact .nil
  | i + 1 => by
    rw [firstMet_succ]
    have h := nodup_met val i
    unfold step_dedup
    split
    · exact h
    · rename_i hn
      rw [List.nodup_append]
      refine ⟨h, by simp, fun a ha b hb e => hn ?_⟩
      have hb' := List.mem_singleton.mp hb
      have e2 : a = val i := e.trans hb'
      exact List.any_eq_true.mpr ⟨a, ha, beq_iff_eq.mpr e2⟩
theorem mem_met (ns : List Int) (k : Int) : k ∈ firstMet (fun i => ns.getD i 0) ns.length ↔ k ∈ ns := by
  rw [← mem_got ns k, List.any_eq_true]
  exact ⟨fun h => ⟨k, h, beq_self_eq_true k⟩, fun ⟨x, h, e⟩ => by cases beq_iff_eq.mp e; exact h⟩
theorem cr_setL (hc : X.calm = true) : CallR X (.type "set") (rSetL X.K X.w) := by
  intro pins s σ H vs us Q I r h
  obtain ⟨b, ns, rfl, hb, room, q⟩ := h
  rw [Vals.ref1 r]
  obtain ⟨its, ri, pl, hz⟩ := I.list hb
  have hl : its.length = ns.length := by rw [← ri.length, List.length_map]
  refine ofList (I.ok.hd hc) pl.isList (by simpa using RZ.intsAre_vals ri) (by simpa [hl] using room) fun g tk got keep => ?_
  have hs : its.toArray.size = ns.length := by simp [hl]
  rw [hs] at got
  have hn : H s.heap.objs.size = none := I.hok.fresh (Nat.le_refl _)
  exact ⟨.ref _, upd H s.heap.objs.size (SetO X.w s.heap.objs.size (fun k => (firstMet (fun i => ns.getD i 0) ns.length).any (· == k)) (firstMet (fun i => ns.getD i 0) ns.length).length),
    I.laid (t' := tk) (fun c u e => keep c u (Heap.lt_size e) e) (Nat.le_refl _) (setO_new got), rfl, q _ _ _ (mem_got ns) ⟨_, nodup_met _ _, mem_met ns, rfl⟩ hn⟩
end
end SetL

set_option maxHeartbeats 4000000
/-! sorted(set(xs)), xs fewer than 64 ints -/
namespace Fu
open PySem PySem.Spec PySem.Calls PyProof.Rows L2 SetL
def insI (x : Int) : List Int → List Int
  | [] => [x]
  | y :: ys => if x < y then x :: y :: ys else if x = y then y :: ys else y :: insI x ys
def sset : List Int → List Int
  | [] => []
  | x :: xs => insI x (sset xs)
theorem mem_insI (x k : Int) : ∀ l : List Int, k ∈ insI x l ↔ k = x ∨ k ∈ l
  | [] => by simp [insI]
  | y :: ys => by
    unfold insI
    split
    · simp
    · split
      · rename_i h; subst h; simp
      · simp only [List.mem_cons, mem_insI x k ys]
        constructor
        · rintro (h | h | h)
          · exact .inr (.inl h)
          · exact .inl h
          · exact .inr (.inr h)
        · rintro (h | h | h)
          · exact .inr (.inl h)
          · exact .inl h
          · exact .inr (.inr h)
theorem pw_insI (x : Int) : ∀ {l : List Int}, l.Pairwise (· < ·) → (insI x l).Pairwise (· < ·)
  | [], _ => by simp [insI]
  | y :: ys, h => by
    obtain ⟨h1, h2⟩ := List.pairwise_cons.mp h
    unfold insI
    split
    · rename_i hx
      refine List.pairwise_cons.mpr ⟨fun z hz => ?_, h⟩
      rcases List.mem_cons.mp hz with rfl | hz
      · exact hx
      · have := h1 z hz; omega
    · split
      · exact h
      · rename_i a b
        refine List.pairwise_cons.mpr ⟨fun z hz => ?_, pw_insI x h2⟩
        rcases (mem_insI x z ys).mp hz with rfl | hz
        · omega
        · exact h1 z hz
theorem sset_pw : ∀ l : List Int, (sset l).Pairwise (· < ·)
  | [] => .nil
  | x :: xs => pw_insI x (sset_pw xs)
theorem mem_sset (k : Int) : ∀ l : List Int, k ∈ sset l ↔ k ∈ l
  | [] => Iff.rfl
  | x :: xs => by rw [sset, mem_insI, mem_sset k xs, List.mem_cons]
theorem pw_uniq : ∀ {a b : List Int}, a.Pairwise (· < ·) → b.Pairwise (· < ·) → (∀ k, k ∈ a ↔ k ∈ b) → a = b
  | [], [], _, _, _ => rfl
  | [], y :: ys, _, _, h => by have := (h y).mpr List.mem_cons_self; cases this
  | x :: xs, [], _, _, h => by have := (h x).mp List.mem_cons_self; cases this
  | x :: xs, y :: ys, ha, hb, h => by
    obtain ⟨a1, a2⟩ := List.pairwise_cons.mp ha
    obtain ⟨b1, b2⟩ := List.pairwise_cons.mp hb
    have e : x = y := by
      rcases List.mem_cons.mp ((h x).mp List.mem_cons_self) with e | e
      · exact e
      · rcases List.mem_cons.mp ((h y).mpr List.mem_cons_self) with f | f
        · exact f.symm
        · have := a1 y f; have := b1 x e; omega
    subst e
    rw [pw_uniq a2 b2 fun k => ?_]
    constructor
    · intro hk
      rcases List.mem_cons.mp ((h k).mp (List.mem_cons_of_mem _ hk)) with e | e
      · have := a1 k hk; omega
      · exact e
    · intro hk
      rcases List.mem_cons.mp ((h k).mpr (List.mem_cons_of_mem _ hk)) with e | e
      · have := b1 k hk; omega
      · exact e
def dSortSet : List D → Option D
  | [.list xs] => (allInts xs).bind fun bs => if (sset bs).length < 64 ∧ bs.length < 4000 then some (.list ((sset bs).map .int)) else none
  | _ => none
theorem rps_of_ints [TabsC] {K : PySem.W.Frag} {F : Hp} : ∀ (bs : List Int), Rps K F (bs.map V.int) (bs.map .int)
  | [] => .nil
  | b :: bs => .cons (.int b) (rps_of_ints bs)
section
variable [TabsC] {X : Cx} {pos p p2 pos2 : Pos} {e : Expr} {gs : M (List D)}
theorem n_sortSet (hm : X.mg "sorted" = none) (hm2 : X.mg "set" = none) (ha : GA X [e] gs) (hc : X.calm = true := by rfl) (hg : Gl X "sorted" := by rfl) (hg2 : Gl X "set" := by rfl)
    (he : starEach [e] X.env = (false, eval e X.env) :: starEach [] X.env := by rfl)
    (he2 : starEach [.Call (.Name "set" p2) [e] [] pos2] X.env = (false, eval (.Call (.Name "set" p2) [e] [] pos2) X.env) :: starEach [] X.env := by rfl) :
    GN X (.Call (.Name "sorted" p) [.Call (.Name "set" p2) [e] [] pos2] [] pos) (gCall dSortSet gs) := by
  obtain ⟨u, pb, rb⟩ := ha.ex
  refine ⟨_, pe_callB (cr_sortedSet hc) hg hm (by decide +kernel) (pa_cons (pe_callTy (cr_setL hc) hg2 hm2 (by decide +kernel) pb (by decide) (by decide) he (by rfl)) pa_nil he2) (by decide) (by decide) he2 (by rfl), fun A F H S σ d S' Q k h post => ?_⟩
  obtain ⟨⟨x, S1⟩, h1, h⟩ := bind_inv h
  obtain ⟨z, h2, h⟩ := bind_inv h
  cases h
  simp only at h2
  unfold dSortSet at h2
  split at h2
  case h_2 => cases h2
  obtain ⟨bs, h3, h2⟩ := bind_inv h2
  split at h2
  case isFalse => cases h2
  rename_i few
  cases h2
  refine rb A F H S σ _ _ _ k h1 fun A1 F1 H1 vs p1 s1 k1 r1 => ?_
  obtain ⟨v, rfl, rv⟩ := rps1 r1
  obtain ⟨a, vs, rfl, g1, g2, g3⟩ := rp_list_inv rv
  rw [allInts_map h3] at g2
  cases rps_ints g2
  refine ⟨a, bs, rfl, SqL.of (k1.sub.same _ _ g1), by have := few.2; unfold scanBound; omega, fun q S n hS ⟨ms, nd, mm, hn⟩ hq => ?_⟩
  have hl : n = (sset bs).length := by
    rw [← hn]
    refine ((List.perm_ext_iff_of_nodup nd ?_).mpr fun k => by rw [mm, mem_sset]).length_eq
    exact (sset_pw bs).imp fun h => Int.ne_of_lt h
  refine ⟨q, S, n, rfl, upd_same, by have := few.1; omega, fun ns r pw mem len hr => ?_⟩
  have e : ns = sset bs := pw_uniq pw (sset_pw bs) fun k => by rw [mem, hS, mem_sset]
  subst e
  exact post A1 _ _ r _ _ p1 (s1.trans (same_upd (k1.sub.none hq))) (k1.laid hq) hr rfl (rps_of_ints _) (by have := few.1; rw [List.length_map, sizeLine_eq]; omega)
end
end Fu

set_option maxHeartbeats 4000000
/-! sum(lists, []) -/
namespace SumL
open PySem PySem.Calls PyProof.Rows L2
def L1 (h : Heap) (a : Addr) (its : Array Value) : Prop := ∃ n, h.get? a = some { cls := .type "list", data := .seq its n }
theorem L1.at {h g : Heap} {a : Addr} {its : Array Value} (k : L1 h a its) (f : ∀ o, h.get? a = some o → g.get? a = some o) : L1 g a its := k.elim fun n e => ⟨n, f _ e⟩
/-- the first i lists, one behind the other -/
def pre (cs : Nat → Array Value) : Nat → Array Value
  | 0 => #[]
  | i + 1 => pre cs i ++ cs i
section
variable {pg : Program} {wd : World} {A : Around} {R : Result → Shared → Prop} {I : Addr} {fp wr : List Addr} {G : Array GenState → Array GenState → Prop} {n : Nat} {P : Nat → Value → Prop} {St : Nat → Shared → Prop}
theorem loop (W : WalksS pg wd A.in1 I fp wr G n P St) (h₀ : Heap) (cs : Nat → Array Value) (ad : Nat → Addr) (isR : ∀ (i : Nat) (v : Value), P i v → v = Value.ref (ad i)) (hcs : ∀ i, i < n → L1 h₀ (ad i) (cs i)) (room : ∀ i, i < n → (pre cs i).size + (cs i).size ≤ sizeLine)
    (S : Addr) (hSf : S ∉ fp) (hSz : h₀.objs.size ≤ S) (hw0 : ∀ b ∈ wr, h₀.objs.size ≤ b ∧ b < S) (T0 : Addr) (hT0 : L1 h₀ T0 #[]) :
    ∀ (k i : Nat) (s : Shared) (T : Addr) (c : Nat), n - i = k → i ≤ n → St i s → s.heap.get? S = some { cls := .type "list", dict := none, data := .seq #[.ref T] c, slots := #[] } →
    (∀ b o, h₀.get? b = some o → s.heap.get? b = some o) → L1 s.heap T (pre cs i) → T ∉ S :: wr → (i = 0 → T = T0) → (0 < i → h₀.objs.size ≤ T) →
    (∀ s' T', Moved (S :: wr) G s s' → (∀ b o, h₀.get? b = some o → s'.heap.get? b = some o) → L1 s'.heap T' (pre cs n) → (n = 0 → T' = T0) → (0 < n → h₀.objs.size ≤ T') → R (.ok (.ret (.ref T'))) s') →
    codeAny (model pg wd) A (.builtin "sum.loop" ⟨[.ref I, .ref S, rawInt 2, rawInt 0], []⟩) R s := by
  have hSw : S ∉ wr := fun h => hSf (W.sub _ h)
  have hsub : ∀ b ∈ wr, b ∈ S :: wr := fun b hb => List.mem_cons_of_mem _ hb
  have old : ∀ b o, h₀.get? b = some o → b ∉ S :: wr := fun b o e hb => by
    have hlt := Heap.lt_size e
    rcases List.mem_cons.mp hb with rfl | hb
    · exact Nat.not_lt_of_le hSz hlt
    · exact Nat.not_lt_of_le (hw0 b hb).1 hlt
  intro k
  induction k with
  | zero =>
    intro i s T c hk hi hst hS kp hT hTn t0 t1 hR
    have hin : i = n := by omega
    subst hin
    refine codeAny_builtin PySem.F.entry_sum_loop ?_
    rw [Around.under_plainId PySem.F.plain_sum_loop _]
    show wpAny _ A.in1 (seqItems? (.ref S) >>= _) _ _ s
    refine wpAny_bind (wpAny_seqItems hS rfl ?_)
    show wpAny _ A.in1 (tryCatch (pyNext (.ref I)) _ >>= _) _ _ s
    refine wpAny_bind (wpAny_tryCatch (W.done s _ _ hst fun s' hm => ?_))
    exact wpAny_pure (hR s' T (hm.mono hsub) (fun b o e => hm.heap b o (fun z => old b o e (hsub b z)) (kp b o e)) (hT.at fun o e => hm.heap T o (fun z => hTn (hsub _ z)) e) t0 t1)
  | succ k ih =>
    intro i s T c hk hi hst hS kp hT hTn t0 t1 hR
    have hlt : i < n := by omega
    refine codeAny_builtin PySem.F.entry_sum_loop ?_
    rw [Around.under_plainId PySem.F.plain_sum_loop _]
    show wpAny _ A.in1 (seqItems? (.ref S) >>= _) _ _ s
    refine wpAny_bind (wpAny_seqItems hS rfl ?_)
    show wpAny _ A.in1 (tryCatch (pyNext (.ref I)) _ >>= _) _ _ s
    refine wpAny_bind (wpAny_tryCatch (W.item i s _ _ hlt hst fun v s' hP hst' hm => ?_))
    obtain rfl := isR i v hP
    have hS' := hm.heap S _ hSw hS
    have kp' : ∀ b o, h₀.get? b = some o → s'.heap.get? b = some o := fun b o e => hm.heap b o (fun z => old b o e (hsub b z)) (kp b o e)
    obtain ⟨n1, hT'⟩ := hT.at fun o e => hm.heap T o (fun z => hTn (hsub _ z)) e
    obtain ⟨n2, hI'⟩ := (hcs i hlt).at fun o e => kp' _ o e
    show wpAny _ A.in1 ((holding [Value.ref (ad i)] (binaryOp .Add (.ref T) (.ref (ad i)))).attempt >>= _) _ _ _
    refine wpAny_bind (wpAny_attempt (wpAny_holding (PySem.P.add_list hT' hI' ?_ (room i hlt))))
    show wpAny _ A.in1 (updateSeq S (fun _ => #[.ref s'.heap.objs.size]) >>= _) _ _ _
    have hSl : S < s'.heap.objs.size := Heap.lt_size hS'
    have hS1 : (s'.heap.push { cls := .type "list", data := .seq (pre cs i ++ cs i) }).get? S = _ := Heap.get?_push_of_some _ hS'
    refine wpAny_bind (wpAny_updateSeq hS1 rfl ?_)
    have hS₂ := Heap.get?_update_self (Obj.mapSeq fun _ => #[Value.ref s'.heap.objs.size]) hS1 rfl
    refine wpAny_bind (wpAny_letGo ?_)
    have up : ∀ b o, b ≠ S → s'.heap.get? b = some o → (((s'.heap.push { cls := .type "list", data := .seq (pre cs i ++ cs i) }).update S (Obj.mapSeq fun _ => #[Value.ref s'.heap.objs.size])).update S (Obj.mapSeq fun _ => #[Value.ref s'.heap.objs.size])).get? b = some o := fun b o hb e =>
      (Heap.get?_update_other _ _ (fun h : S = b => hb h.symm)).trans ((Heap.get?_update_other _ _ (fun h : S = b => hb h.symm)).trans (Heap.get?_push_of_some _ e))
    have hnew : (((s'.heap.push { cls := .type "list", data := .seq (pre cs i ++ cs i) }).update S (Obj.mapSeq fun _ => #[Value.ref s'.heap.objs.size])).update S (Obj.mapSeq fun _ => #[Value.ref s'.heap.objs.size])).get? s'.heap.objs.size = some { cls := .type "list", data := .seq (pre cs i ++ cs i) } :=
      (Heap.get?_update_other _ _ (fun h : S = _ => Nat.ne_of_lt hSl h)).trans ((Heap.get?_update_other _ _ (fun h : S = _ => Nat.ne_of_lt hSl h)).trans (Heap.get?_push_size _ rfl))
    refine wpAny_bind (wpAny_updateSeq hS₂ rfl (wpAny_pure ⟨plainId_quiet PySem.F.plain_sum_loop _, ih (i + 1) _ s'.heap.objs.size _ (by omega) hlt (W.frame _ s' _ _ hst' (Nat.le_refl _) fun b hb o e => up b o (fun z => hSf (z ▸ hb)) e) (Heap.get?_update_self _ hS₂ rfl) (fun b o e => up b o (fun z => old b o e (z ▸ List.mem_cons_self)) (kp' b o e)) ⟨_, hnew⟩ (fun z => ?_) (fun z => absurd z (Nat.succ_ne_zero _)) (fun _ => Nat.le_of_lt (Nat.lt_of_le_of_lt hSz hSl)) fun s'' T'' hm'' k'' l'' z0 z1 => ?_⟩))
    · rcases List.mem_cons.mp z with z | z
      · exact Nat.ne_of_gt hSl z
      · exact Nat.lt_irrefl _ (Nat.lt_trans hSl (hw0 _ z).2)
    · refine hR s'' T'' (Moved.trans W.gtrans ((hm.mono hsub).then_heap (Nat.le_refl _) fun b o hb e => ?_) hm'') k'' l'' z0 z1
      exact up b o (fun z => hb (z ▸ List.mem_cons_self)) e
end
section
variable {pg : Program} {wd : World} {A : Around} {E : Value → Shared → Prop} {s : Shared}
end
end SumL

set_option maxHeartbeats 4000000
/-! sum(lists, []): the layer's rule -/
namespace Fu
open PySem PySem.Spec PySem.Calls PyProof.Rows L2 SumL
section
variable {X : Cx}
end
/-! the data -/
section
variable [TabsC]
variable {X : Cx} {pos p p2 : Pos} {e : Expr} {es : List Expr} {gs : M (List D)}
end
end Fu

set_option maxHeartbeats 4000000
/-! xs.remove(x) of an own list -/
namespace Fu
open PySem PySem.Spec PyProof.Rows L2
variable [TabsC]
section
variable {X : Cx} {pos py apos : Pos} {e : Expr} {ge : M D} {k : Nat} {y : Str}
end
end Fu

set_option maxHeartbeats 4000000
/-! (a, b) = a tuple or a list -/
namespace Fu
open PySem PySem.Spec PyProof.Rows L2
variable [TabsC]
def sSeq (n : Nat) (gs : List D → Sx → Option Sx) : D → Sx → Option Sx := fun d S => match d with
  | .tuple ds => if ds.length = n then gs ds S else none
  | .list ds => if ds.length = n then gs ds S else none
  | _ => none
section
variable {X : Cx} {pos : Pos} {es : List Expr} {gs : List D → Sx → Option Sx} {ts : List Nat} {n : Nat}
theorem pg_or {e : Expr} {t u : TG} (h : PG X e t) (k : PG X e u) : PG X e (fun v σ H Q => t v σ H Q ∨ u v σ H Q) :=
  ⟨fun pins s σ H v w Q I r hw => hw.elim (fun z => h.run pins s σ H v w Q I r z) (fun z => k.run pins s σ H v w Q I r z)⟩
theorem g_seq {k} (h : GGs X ts es gs) (hc : X.calm = true := by rfl) (hn : (assignEach es X.env).length = n := by rfl) (hst : (assignEach es X.env).findIdx? (·.1) = none := by rfl) : GG X ts (.Tuple es k pos) (sSeq n gs) := by
  obtain ⟨t, p1, r1⟩ := h.ex
  refine ⟨_, pg_or (pg_tup hc p1 hn hst) (pg_unl hc p1 hn hst), fun A F H S σ v d S' Q k r e post => ?_⟩
  cases d <;> simp only [sSeq] at e <;> try cases e
  · split at e
    · rename_i hl
      obtain ⟨a, vs, rfl, g1, g2, g3⟩ := rp_list_inv r
      exact .inr ⟨a, vs, rfl, SqL.of (k.sub.same _ _ g1), by rw [g2.length]; exact hl, r1 A F H S σ vs _ S' Q k g2 e post⟩
    · cases e
  · split at e
    · rename_i hl
      obtain ⟨a, vs, rfl, g1, g2, g3⟩ := rp_tup_inv r
      exact .inl ⟨a, vs, rfl, sqT_same k.sub.same.t g1, by rw [g2.length]; exact hl, r1 A F H S σ vs _ S' Q k g2 e post⟩
    · cases e
end
end Fu

set_option maxHeartbeats 4000000
/-! name = [..] on one line, in a look -/
namespace Fu
open PySem PySem.Spec PyProof.Rows L2
variable [TabsC]
section
variable {X : Cx} {P : Hp → Prop} {ge : M D}
end
end Fu

set_option maxHeartbeats 4000000
/-! {k: v for ..} as an own cell, d.get(k, v), len(d), dict(pairs) -/
namespace Fu
open PySem PySem.Spec PyProof.Rows L2 RZ
variable [TabsC]
theorem length_putR (kvs : List (Key × R)) (k : Key) (r : R) : (putR kvs k r).length ≤ kvs.length + 1 := by
  unfold putR
  split
  · rw [List.length_map]; omega
  · rw [List.length_append]; exact Nat.le_refl _
def gDTurns (gg : D → Sx → Option Sx) (gt : M Bool) (gk ge : M D) (vs : List Nat) : List D → List (Key × R) → Sx → Option (List (Key × R) × Sx)
  | [], acc, S => some (acc, S)
  | d :: ds, acc, S => (gg d ⟨wipeS S.sl vs, S.os⟩).bind fun S1 => (gt S1).bind fun p =>
    if p.1 = true then (gk p.2).bind fun q => (keyOf q.1).bind fun k => (ge q.2).bind fun r => gDTurns gg gt gk ge vs ds (putR acc k (.dat r.1)) r.2
    else gDTurns gg gt gk ge vs ds acc p.2
abbrev MD := Sx → Option (List (Key × R) × Sx)
def gDc (gi : M (List D)) (gg : D → Sx → Option Sx) (gt : M Bool) (gk ge : M D) (vs : List Nat) : MD := fun S => (gi S).bind fun p => (gDTurns gg gt gk ge vs p.1 [] p.2).bind fun r => some (r.1, ⟨backS p.2.sl r.2.sl vs, r.2.os⟩)
section
variable {K : PySem.W.Frag}
/-- a new dict that is nobody's yet -/
def RdD (K : PySem.W.Frag) (t : TE) (g : MD) : Prop := ∀ A F H S σ kvs S' (Q : VK), Ok K A F H S σ → g S = some (kvs, S') →
  (∀ A' F' G p vs, A <+: A' → SameT F F' → Ok K A' F' G S' σ → G p = none → PairR K A' F' vs kvs → Q (.ref p) (upd G p (.dK vs))) → t σ H Q
theorem rd_dc {wi : TI} {g : TG} {tt : TT} {tk te : TE} {gi : M (List D)} {gg : D → Sx → Option Sx} {gt : M Bool} {gk ge : M D} {tgt vs : List Nat} (hi : RdI K wi gi) (hg : RdG K tgt g gg) (ht : RdT K tt gt) (hk : RdE K tk gk) (he : RdE K te ge) (hv : ∀ i ∈ tgt, i ∈ vs) :
    RdD K (tDc wi (gFr g) (tFrT tt) (tFr tk) (tFr te) vs) (gDc gi gg gt gk ge vs) := by
  intro A F H S σ d S' Q k e post
  obtain ⟨⟨ds, S1⟩, e1, e⟩ := bind_inv e
  obtain ⟨⟨rs, S2⟩, e2, e⟩ := bind_inv e
  cases e
  refine hi A F H S σ ds S1 _ k e1 fun A1 F1 H1 J p1 s1 k1 w hz => fun L hL => ?_
  refine ⟨fun i m H => m = ds.length - i ∧ i ≤ ds.length ∧ ∃ A F G S acc us, SameT F1 F ∧ A1 <+: A ∧ Ok K A F G ⟨wipeS S.sl vs, S.os⟩ (wipe σ vs) ∧ G L = none ∧ H = upd G L (.dK us) ∧ PairR K A F us acc ∧ acc.length ≤ i ∧
    gDTurns gg gt gk ge vs (ds.drop i) acc S = some (rs, S2), ⟨ds.length, by simp, Nat.zero_le _, A1, F1, H1, S1, [], [], SameT.refl _, List.prefix_refl _, k1.wipe rfl, hL, rfl, .nil, Nat.le_refl _, by simpa using e2⟩, ?_⟩
  rintro i m H ⟨rfl, hil, A2, F2, G2, S3, acc, us, s2, p2, k2, hG, rfl, ru, hla, et⟩
  have sFH : SameT F1 (upd G2 L (.dK us)) := (s2.trans k2.sub.same.t).trans (same_upd hG)
  by_cases hlt : i < ds.length
  · refine .inr ⟨w.go i _ sFH hlt, fun H' => i + 1 ≤ ds.length ∧ ∃ A F G S acc us, SameT F1 F ∧ A1 <+: A ∧ Ok K A F G ⟨wipeS S.sl vs, S.os⟩ (wipe σ vs) ∧ G L = none ∧ H' = upd G L (.dK us) ∧ PairR K A F us acc ∧ acc.length ≤ i + 1 ∧
      gDTurns gg gt gk ge vs (ds.drop (i + 1)) acc S = some (rs, S2), fun H' h => ⟨ds.length - (i + 1), by omega, rfl, h⟩, fun x H' hy => ?_⟩
    rw [List.drop_eq_getElem_cons hlt] at et
    obtain ⟨S4, e4, et⟩ := bind_inv (show (gg ds[i] ⟨wipeS S3.sl vs, S3.os⟩).bind _ = _ from et)
    obtain ⟨⟨b, S5⟩, e5, et⟩ := bind_inv et
    -- the item
    have key : ∃ F3 G3, SameT F2 F3 ∧ Ok K A2 F3 G3 ⟨wipeS S3.sl vs, S3.os⟩ (wipe σ vs) ∧ G3 L = none ∧ H' = upd G3 L (.dK us) ∧ Rp K F3 x ds[i] := by
      rcases w.yld i ds[i] _ x H' sFH (List.getElem?_eq_getElem hlt) hy with ⟨rfl, r⟩ | ⟨T, ws, es, rfl, hT, rfl, ed, r, hz2⟩
      · exact ⟨F2, G2, SameT.refl _, k2, hG, rfl, r.mono s2 _ _⟩
      · have hTL : T ≠ L := fun z => by subst z; rw [upd_same] at hT; cases hT
        have gT : G2 T = none := by rwa [upd_ne hTL] at hT
        obtain ⟨s3, k3, r3⟩ := k2.newTup gT (Rps.mono s2 _ _ r) hz2
        refine ⟨_, _, s3, k3, by rw [upd_ne (Ne.symm hTL)]; exact hG, ?_, by rw [ed]; exact r3⟩
        funext c
        by_cases h1 : c = T
        · subst h1; rw [upd_same, upd_ne hTL, upd_same]
        · rw [upd_ne h1]
          by_cases h2 : c = L
          · subst h2; rw [upd_same, upd_same]
          · rw [upd_ne h2, upd_ne h2, upd_ne h1]
    obtain ⟨F3, G3, s3, k3, hG3, rfl, rx⟩ := key
    refine ⟨G3, sub_one hG3 trivial, hg A2 F3 G3 _ _ x ds[i] S4 _ k3 rx e4 fun A4 F4 G4 σ4 p4 s4 k4 w4 => ⟨fun c xs q => ?_, fun lost => ?_⟩⟩
    · exact k4.sub.keep (k4.sub.same c _ (by
        have := k3.sub.keep q (fun z => z)
        exact s4.old c _ this trivial)) (fun z => z) |> fun z => k4.sub.same c _ z
    · have hG4 : G4 L = none := lost L _ upd_same hG3
      rw [mix_one hG3 hG4]
      refine ⟨(w4 vs hv).trans (by
        have : ∀ ws : List Nat, wipe (wipe σ ws) ws = wipe σ ws := by
          intro ws
          apply List.ext_getElem?
          intro n
          by_cases hn : n ∈ ws
          · have h1 : ∀ {τ : L2.St} {n : Nat} {ws : List Nat}, n ∈ ws → (wipe τ ws)[n]? = if n < τ.length then some none else none := by
              intro τ n ws
              induction ws with
              | nil => intro h; cases h
              | cons v ws ih =>
                intro h
                unfold wipe
                by_cases hv : v = n
                · subst hv
                  by_cases hl : v < τ.length
                  · rw [List.getElem?_set_self (by rw [wipe_length]; exact hl), if_pos hl]
                  · rw [List.getElem?_eq_none (by rw [List.length_set, wipe_length]; omega), if_neg hl]
                · rw [List.getElem?_set_ne hv]
                  exact ih ((List.mem_cons.mp h).resolve_left fun z => hv z.symm)
            rw [h1 hn, h1 hn, wipe_length]
          · rw [wipe_outV hn]
        exact this vs), G4, sub_one hG4 trivial, ht A4 F4 G4 S4 σ4 b S5 _ k4 e5 fun A5 F5 G5 p5 s5 k5 => ⟨fun c xs q => ?_, fun lost => ?_⟩⟩
      · exact k5.sub.same c _ (s5.old c _ (k4.sub.keep q (fun z => z)) trivial)
      · have hG5 : G5 L = none := lost L _ upd_same hG4
        rw [mix_one hG4 hG5]
        have w5 : wipe σ4 vs = wipe σ vs := (w4 vs hv).trans (by
          have h1 : ∀ {τ : L2.St} {n : Nat} {ws : List Nat}, n ∈ ws → (wipe τ ws)[n]? = if n < τ.length then some none else none := by
            intro τ n ws
            induction ws with
            | nil => intro h; cases h
            | cons v ws ih =>
              intro h
              unfold wipe
              by_cases hv : v = n
              · subst hv
                by_cases hl : v < τ.length
                · rw [List.getElem?_set_self (by rw [wipe_length]; exact hl), if_pos hl]
                · rw [List.getElem?_eq_none (by rw [List.length_set, wipe_length]; omega), if_neg hl]
              · rw [List.getElem?_set_ne hv]
                exact ih ((List.mem_cons.mp h).resolve_left fun z => hv z.symm)
          apply List.ext_getElem?
          intro n
          by_cases hn : n ∈ vs
          · rw [h1 hn, h1 hn, wipe_length]
          · rw [wipe_outV hn])
        cases b with
        | false =>
          rw [if_neg Bool.false_ne_true] at et
          show if false = true then _ else _
          rw [if_neg Bool.false_ne_true]
          exact ⟨hlt, A5, F5, G5, S5, acc, us, s2.trans (s3.trans (s4.trans s5)), p2.trans (p4.trans p5), k5.wipe w5, hG5, rfl, paired_mono (p4.trans p5) (s3.trans (s4.trans s5)) ru, Nat.le_succ_of_le hla, et⟩
        | true =>
          rw [if_pos rfl] at et
          show if true = true then _ else _
          rw [if_pos rfl]
          obtain ⟨⟨y0, S6⟩, e6, et⟩ := bind_inv et
          obtain ⟨ky, ek, et⟩ := bind_inv et
          obtain ⟨⟨y, S7⟩, e7, et⟩ := bind_inv et
          refine ⟨G5, sub_one hG5 trivial, hk A5 F5 G5 S5 σ4 y0 S6 _ k5 e6 fun A6 F6 G6 v0 p6 s6 k6 r6 => ⟨fun c xs q => ?_, fun lost => ?_⟩⟩
          · exact k6.sub.same c _ (s6.old c _ (k5.sub.keep q (fun z => z)) trivial)
          · have hG6 : G6 L = none := lost L _ upd_same hG5
            rw [mix_one hG5 hG6]
            refine ⟨G6, sub_one hG6 trivial, he A6 F6 G6 S6 σ4 y S7 _ k6 e7 fun A7 F7 G7 v p7 s7 k7 r7 => ⟨fun c xs q => ?_, fun lost => ?_⟩⟩
            · exact k7.sub.same c _ (s7.old c _ (k6.sub.keep q (fun z => z)) trivial)
            · have hG7 : G7 L = none := lost L _ upd_same hG6
              rw [mix_one hG6 hG7]
              have ru' : PairR K A7 F7 us acc := paired_mono (p4.trans (p5.trans (p6.trans p7))) (s3.trans (s4.trans (s5.trans (s6.trans s7)))) ru
              refine ⟨us, ky, key_of ek r6, upd_same, ?_, hlt, A7, F7, G7, S7, putR acc ky (.dat y), putK us ky v, s2.trans (s3.trans (s4.trans (s5.trans (s6.trans s7)))), p2.trans (p4.trans (p5.trans (p6.trans p7))), k7.wipe w5, hG7, upd_upd, pair_put ky (.dat r7) ru', ?_, et⟩
              · rw [ru'.length]
                omega
              · have := length_putR acc ky (.dat y)
                omega
  · have ei : i = ds.length := by omega
    subst ei
    rw [List.drop_length] at et
    cases et
    refine .inl ⟨w.stop _ _ sFH (Nat.le_refl _), ?_⟩
    exact post A2 F2 G2 L us (p1.trans p2) (s1.trans s2) (k1.back k2 p2 s2) hG ru
end
structure GD (X : Cx) (e : Expr) (g : MD) : Prop where
  ex : ∃ t, PE X e t ∧ RdD X.K t g
def qSetD (i : Nat) (g : MD) : Sx → Option Out := fun S => (g S).bind fun p => some (.nx ⟨p.2.sl.set i (some (.own p.2.os.length)), p.2.os ++ [some (.dR p.1)]⟩)
section
variable {X : Cx} {pos : Pos} {kx vx tg iter : Expr} {ifs : List Expr} {scope : Scope} {gi : M (List D)} {gg : D → Sx → Option Sx} {gt : M Bool} {gk ge : M D} {tgt : List Nat} {P : Hp → Prop}
theorem d_dc (own : List (Str × Nat)) (hN : X.N.Nodup) (hi : GI X tg iter gi) (ok : BlkOk X.N X.env.scope scope own) (hg : InBlk X scope fun Y => GG Y tgt tg gg) (ht : InBlk X scope fun Y => GTs Y ifs gt) (hk : InBlk X scope fun Y => GE Y kx gk) (he : InBlk X scope fun Y => GE Y vx ge)
    (hv : ∀ i ∈ tgt, i ∈ own.map (·.2) := by decide) (hc : X.calm = true := by rfl) (hs : ∀ x, foldedSetIterable iter X.env x = pure x := by intro _; rfl) : GD X (.DictComp kx vx [⟨tg, iter, ifs, 0⟩] scope pos) (gDc gi gg gt gk ge (own.map (·.2))) :=
  ⟨_, pe_dc hc hN hi.pi ok (fun s H C cl fp => pg_fr (hg s H C cl fp).pg) (fun s H C cl fp => pts_fr (ht s H C cl fp).pts) (fun s H C cl fp => pe_fr (hk s H C cl fp).pe) (fun s H C cl fp => pe_fr (he s H C cl fp).pe) hs, rd_dc rd_iof rd_gof rd_tof rd_of rd_of hv⟩
theorem s_setD {x : Str} {pos' : Pos} {e : Expr} {g : MD} (i : Nat) (h : GD X e g) (hN : X.N.Nodup) (hx : Loc X.env.scope x := by first | exact Or.inl rfl | exact Or.inr rfl) (hi : X.N[i]? = some x := by rfl) (hs : swapsWith e (some (.Name x pos')) pos.line X.env = pure false := by rfl)
    (hf : X.fn x = true ∨ X.env.scope.names.lookup x = some .local := by first | exact .inl rfl | exact .inr rfl | assumption) : GS X P (.Assign [.Name x pos'] e pos) (qSetD i g) := by
  obtain ⟨t, pe, r⟩ := h.ex
  refine ⟨_, ps_set hN hi hx pe hs hf, fun B A0 A F H S σ o E hP s p k e post => ?_⟩
  obtain ⟨⟨kvs, S1⟩, e1, e⟩ := bind_inv e
  cases e
  refine r A F H S σ kvs S1 _ k e1 fun A1 F1 G q vs p1 s1 k1 hq pr => ?_
  have k2 := k1.cellNew (o := .dK vs) (c := .dR kvs) hq trivial ⟨vs, upd_same, paired_mono (List.prefix_append _ _) (SameT.refl _) pr⟩
  exact post _ F1 _ _ (s.trans s1) (p.trans (p1.trans (List.prefix_append _ _))) (k2.setOwn (j := S1.os.length) (by rw [k1.alen]; simp))
/-- the pairs of an own dict -/
def dictOf (S : Sx) (i : Nat) : Option (List (Key × R)) := match S.sl[i]? with
  | some (some (.own j)) => match S.os[j]? with
    | some (some (.dR kvs)) => some kvs
    | _ => none
  | _ => none
theorem dict_at {K : PySem.W.Frag} {A : List Addr} {F H : Hp} {S : Sx} {σ : L2.St} (k : Ok K A F H S σ) {i : Nat} {kvs : List (Key × R)} (e : dictOf S i = some kvs) : ∃ a vs, σ[i]? = some (some (.ref a)) ∧ H a = some (.dK vs) ∧ PairR K A F vs kvs := by
  unfold dictOf at e
  split at e
  case h_2 => cases e
  rename_i j ej
  split at e
  case h_2 => cases e
  rename_i kv ec
  cases e
  obtain ⟨a, ha, ev⟩ := k.oslot i j ej
  obtain ⟨a', ha', _, vs, hH, pr⟩ := k.cell _ _ ec
  rw [ha] at ha'; cases ha'
  exact ⟨a, vs, ev, hH, pr⟩
def gLenD (i : Nat) : M D := fun S => (dictOf S i).bind fun kvs => some (.int kvs.length, S)
variable {p py : Pos} {y : Str}
theorem cr_lenD : CallR X (.builtin "len") (fun xs H Q => ∃ a kvs, xs = [V.ref a] ∧ H a = some (.dK kvs) ∧ Q (.int kvs.length) H) := by
  intro pins s σ H vs us Q I r h
  obtain ⟨a, kvs, rfl, hH, q⟩ := h
  obtain ⟨u, rfl, r1⟩ := vals1 r
  obtain rfl : u = Value.ref a := r1
  exact d_len I (.inl hH) fun t s' I' => ⟨.int kvs.length, H, I', ⟨t, rfl⟩, q⟩
theorem e_lenD (i : Nat) (hm : X.mg "len" = none) (hN : X.N[i]? = some y := by rfl) (hv : Vis X.env.scope y := by first | exact Or.inl rfl | exact Or.inr (Or.inl rfl) | exact Or.inr (Or.inr rfl)) (hdy : (y == ("__debug__" : Str)) = false := by decide) (hcd : (y == ("__classdict__" : Str)) = false := by decide)
    (hg : Gl X "len" := by rfl) (he : starEach [.Name y py] X.env = (false, eval (.Name y py) X.env) :: starEach [] X.env := by rfl) : GE X (.Call (.Name "len" p) [.Name y py] [] pos) (gLenD i) := by
  refine ⟨_, pe_callB cr_lenD hg hm PySem.boot_len (pa_cons (pe_var hN hv hdy hcd) pa_nil he) (by decide) (by decide) he (by rfl), fun A F H S σ d S' Q k h post => ?_⟩
  obtain ⟨kvs, e0, h⟩ := bind_inv h
  cases h
  obtain ⟨a, vs, ev, hH, pr⟩ := dict_at k e0
  refine ⟨_, ev, a, vs, rfl, hH, ?_⟩
  rw [pr.length]
  exact post A F H _ (List.prefix_refl _) (SameT.refl F) k (.int _)
def gDGet (i : Nat) (gk gd : M D) : M D := fun S => (dictOf S i).bind fun _ => (gk S).bind fun p => (keyOf p.1).bind fun k => (gd p.2).bind fun q => (dictOf q.2 i).bind fun kvs => match valR kvs k with
  | some (.dat d) => some (d, q.2)
  | some _ => none
  | none => some (q.1, q.2)
theorem e_dget2 {n : Nat} {ap cp : Pos} {ek ed : Expr} {gd : M D} (hr : Room n X.A) (i : Nat) (hk : GE X ek gk) (hd : GE X ed gd) (hN : X.N[i]? = some y := by rfl) (hv : Vis X.env.scope y := by first | exact Or.inl rfl | exact Or.inr (Or.inl rfl) | exact Or.inr (Or.inr rfl)) (hdy : (y == ("__debug__" : Str)) = false := by decide) (hcy : (y == ("__classdict__" : Str)) = false := by decide)
    (m2 : M2 X (.Name y py) "get" ap ek ed cp := by exact ⟨rfl, rfl, rfl, rfl⟩) : GE X (.Call (.Attribute (.Name y py) "get" ap) [ek, ed] [] cp) (gDGet i gk gd) := by
  obtain ⟨tk, pk, rk⟩ := hk.ex
  obtain ⟨td, pd, rd⟩ := hd.ex
  refine ⟨_, pe_dget2 (by have := hr.un; omega) (pe_var hN hv hdy hcy) pk pd m2, fun A F H S σ d S' Q k h post => ?_⟩
  obtain ⟨kv0, e0, h⟩ := bind_inv h
  obtain ⟨⟨kd, S1⟩, e1, h⟩ := bind_inv h
  obtain ⟨ky, e2, h⟩ := bind_inv h
  obtain ⟨⟨dd, S2⟩, e3, h⟩ := bind_inv h
  simp only at h e3
  obtain ⟨kvs, e4, h⟩ := bind_inv h
  obtain ⟨a, vs0, ev, hH0, _⟩ := dict_at k e0
  refine ⟨.ref a, ev, a, rfl, .inl ⟨_, .inl hH0⟩, rk A F H S σ kd S1 _ k e1 fun A1 F1 H1 v p1 s1 k1 r1 => rd A1 F1 H1 S1 σ dd S2 _ k1 e3 fun A2 F2 H2 u p2 s2 k2 r2 => ?_⟩
  obtain ⟨a2, vs, ev2, hH, pr⟩ := dict_at k2 e4
  rw [ev] at ev2; cases ev2
  obtain ⟨q1, q2⟩ := pair_val ky pr
  refine ⟨valV vs ky, ?_, ?_⟩
  · rw [key_of e2 r1]
    exact .k hH
  · split at h
    · rename_i d1 em
      cases h
      obtain ⟨w, ew, rw'⟩ := q2 _ em
      rw [ew]
      cases rw' with
      | dat r => exact post A2 F2 H2 w (p1.trans p2) (s1.trans s2) k2 r
    · cases h
    · rename_i em
      cases h
      rw [q1 em]
      exact post A2 F2 H2 u (p1.trans p2) (s1.trans s2) k2 r2
end
end Fu

set_option maxHeartbeats 4000000
/-! dict(pairs), n in d.values() -/
namespace InV
open PySem PySem.Calls PyProof.Rows L2
theorem ci_entry : entryFor table "proto.contains_iter" = some Builtin.«proto.contains_iter» := entryFor_of_tree (by kernel_rfl)
theorem ci_plain : plainId "proto.contains_iter" = true := by decide +kernel
theorem dv_contains : typeLookup (.type "dict_values") "__contains__" = pure none := am_miss_of_fast (by first | decide +kernel | rfl)
section
variable {pg : Program} {wd : World} {K : Type} [DecidableEq K] {knd : KeyKind pg wd K} {A : Around} {E : Value → Shared → Prop}
theorem loop {R : Result → Shared → Prop} (hh : A.handled = none) (h₀ : Heap) {it d : Addr} {ep : Nat} {kvs : List (K × Value)} (ms : List Int) (n : Int) (tn : Tok) (hit0 : h₀.get? it = none) (hne : d ≠ it)
    (hv : ∀ (i : Nat) (k : K) (v : Value), kvs[i]? = some (k, v) → ∃ m t, ms[i]? = some m ∧ v = .int m t) (hlen : kvs.length = ms.length) :
    ∀ (k i : Nat) (s : Shared), ms.length - i = k → i ≤ ms.length → s.heap.IsValIter it d i kvs.length ep → s.heap.DictAt knd d kvs ep → (∀ b o, h₀.get? b = some o → s.heap.get? b = some o) →
    (∀ h', (∀ b o, h₀.get? b = some o → h'.get? b = some o) → R (.ok (.ret (.bool ((ms.drop i).contains n)))) { s with heap := h' }) →
    codeAny (model pg wd) A (.builtin "proto.contains_iter" ⟨[.ref it, .int n tn], []⟩) R s := by
  intro k
  induction k with
  | zero =>
    intro i s hk hi hst hd kp hR
    have hin : i = ms.length := by omega
    subst hin
    refine codeAny_builtin ci_entry ?_
    rw [Around.under_plainId ci_plain _]
    show wpAny _ A.in1 (pyNext (.ref it) >>= _) _ _ s
    refine wpAny_bind (wpAny_pyNext_values_end (A := A.in1) (by simp [hh]) hst hd (by rw [List.getElem?_eq_none]; omega) fun h' he => ?_)
    have := hR h' fun b o e => he b o (fun z => by subst z; rw [hit0] at e; cases e) (kp b o e)
    rw [List.drop_length] at this
    exact wpAny_bind (wpAny_rule (wpAny_pure this))
  | succ k ih =>
    intro i s hk hi hst hd kp hR
    have hlt : i < ms.length := by omega
    obtain ⟨⟨ky, v⟩, hx⟩ : ∃ p, kvs[i]? = some p := ⟨kvs[i], by simp [hlen, hlt]⟩
    obtain ⟨m, t, em, rfl⟩ := hv i ky v hx
    refine codeAny_builtin ci_entry ?_
    rw [Around.under_plainId ci_plain _]
    show wpAny _ A.in1 (pyNext (.ref it) >>= _) _ _ s
    refine wpAny_bind (wpAny_pyNext_values_item hst hd hx fun h' hit' hs' => ?_)
    refine wpAny_bind (wpAny_eqBool_int ?_)
    have kp' : ∀ b o, h₀.get? b = some o → h'.get? b = some o := fun b o e => hs'.extBut b o (fun z => by subst z; rw [hit0] at e; cases e) (kp b o e)
    have ed : ms.drop i = m :: ms.drop (i + 1) := by
      rw [List.drop_eq_getElem_cons hlt]
      congr 1
      rw [List.getElem?_eq_getElem hlt] at em
      exact Option.some.inj em
    cases hb : (m == n) with
    | true =>
      simp only [if_true]
      refine wpAny_bind (wpAny_rule (wpAny_pure ?_))
      have := hR h' kp'
      rw [ed, List.contains_cons] at this
      have e : n = m := (eq_of_beq hb).symm
      subst e
      simpa using this
    | false =>
      simp only [Bool.false_eq_true, if_false]
      refine wpAny_pure ⟨plainId_quiet ci_plain _, ih (i + 1) _ (by omega) hlt hit' (hd.extBut hs'.extBut hne) kp' fun h'' kp'' => ?_⟩
      have := hR h'' kp''
      rw [ed, List.contains_cons] at this
      have e : (n == m) = false := by
        rw [beq_eq_false_iff_ne] at hb ⊢
        exact fun z => hb z.symm
      rw [e, Bool.false_or] at this
      exact this
end
/-- n in d.values() -/
def tInV (te : TE) (i : Nat) : TE := fun σ H Q => te σ H fun y H1 => ∃ (n : Int) (a : Addr) (kvs : List (Key × V)) (ms : List Int), y = .int n ∧ σ[i]? = some (some (.ref a)) ∧ H1 a = some (.dK kvs) ∧ kvs.map (·.2) = ms.map V.int ∧ Q (.bl (ms.contains n)) H1
section
variable {X : Cx}
theorem ints_at {vs : List (Key × Value)} : ∀ {kvs : List (Key × V)} {ms : List Int}, KV kvs vs → kvs.map (·.2) = ms.map V.int → (∀ (i : Nat) (k : Key) (v : Value), vs[i]? = some (k, v) → ∃ m t, ms[i]? = some m ∧ v = .int m t) ∧ vs.length = ms.length := by
  induction vs with
  | nil =>
    intro kvs ms r e
    cases r
    cases ms with
    | nil => exact ⟨fun i k v h => by simp at h, rfl⟩
    | cons m ms => simp at e
  | cons p vs ih =>
    intro kvs ms r e
    cases r with
    | cons r1 r2 =>
      rename_i q kvs
      cases ms with
      | nil => simp at e
      | cons m ms =>
        simp only [List.map_cons, List.cons.injEq] at e
        obtain ⟨e1, e2⟩ := e
        obtain ⟨i1, i2⟩ := ih r2 e2
        refine ⟨fun i k v h => ?_, by simp [i2]⟩
        cases i with
        | zero =>
          simp only [List.getElem?_cons_zero, Option.some.injEq] at h
          subst h
          obtain ⟨_, r12⟩ := r1
          rw [e1] at r12
          obtain ⟨t, r12⟩ := r12
          exact ⟨m, t, rfl, r12⟩
        | succ i => exact i1 i k v (by simpa using h)
theorem pc_inV {e0 : Expr} {te : TE} {i : Nat} {y : Str} {py apos cpos : Pos} (hc : X.calm = true) (he : PE X e0 te) (hN : X.N[i]? = some y) (hv : Vis X.env.scope y) (hd : (y == ("__debug__" : Str)) = false := by decide) (hcd : (y == ("__classdict__" : Str)) = false := by decide)
    (hbase : attributeBase (.Name y py) "values" X.env (eval (.Name y py) X.env) = eval (.Name y py) X.env := by rfl) (hline : (apos.endLine == cpos.line) = true := by rfl) :
    PC X .In e0 (.Call (.Attribute (.Name y py) "values" apos) [] [] cpos) (tInV te i) := by
  refine ⟨fun pins s σ H Q I h => ?_⟩
  refine thn (he.run pins s σ H _ I h) fun v s1 ⟨y1, H1, I1, ry, n, a, kvs, ms, ey, ea, hH, em, q⟩ => ?_
  subst ey
  obtain ⟨tn, rfl⟩ := ry
  refine wpAny_Call_method hbase (by rfl) hline PySem.F.plainAttrs_dict PySem.F.slot_dict_values PySem.F.type_dict_values (thn ((pe_var (pos := py) hN hv hd hcd).run pins s1 σ H1 (fun v H2 => v = .ref a ∧ H2 = H1) I1 ⟨_, ea, rfl, rfl⟩) fun u s2 ⟨v, H2, I2, r2, ev, eH⟩ => ?_)
  subst ev
  rw [eH] at I2
  obtain rfl : u = Value.ref a := r2
  obtain ⟨t1, t2, hsm⟩ := isD_at I2 (.inl ⟨kvs, .inl hH⟩)
  obtain ⟨_, _, vs, rel, dd⟩ := dk_of I2.hok hH
  refine ⟨t1, t2, Calls.callWith_builtin rfl (PySem.evalArgs_none ?_)⟩
  refine call_meetsIn PySem.F.slot_dict_values t1 PySem.F.entry_dict_values (PySem.F.args_dict_values_1 _) (meets_dict_values (mixKind X.prog X.w) a hsm) ⟨⟨vs, dd⟩, ?_⟩
  show wpAny _ _ (contains (.ref s2.heap.objs.size) (.int n tn) >>= _) _ _ _
  have hview : ({ s2 with heap := s2.heap.push { cls := .type "dict_values", data := .fields #[.ref a] } } : Shared).heap.get? s2.heap.objs.size = some { cls := .type "dict_values", data := .fields #[.ref a] } := Heap.get?_push_size _ rfl
  have hT : ({ s2 with heap := s2.heap.push { cls := .type "dict_values", data := .fields #[.ref a] } } : Shared).TypeIs (.ref s2.heap.objs.size) "dict_values" := ⟨_, hview, rfl⟩
  refine wpAny_bind ?_
  unfold contains
  refine wpAny_holding ?_
  rw [stdlibNamesSay?_of_typeIs hT]
  refine wpAny_bind (wpAny_specialOf hT dv_contains ?_)
  show wpAny _ X.A (if ((none : Option Value) == some Value.none) = true then _ else _) _ _ _
  rw [if_neg (by simp)]
  refine wpAny_bind (wpAny_callSpecialUnlessNone?_none hT dv_contains ?_)
  simp only
  refine wpAny_bind (wpAny_rule ?_)
  obtain ⟨o, es, ep, ho, rest⟩ := dd
  have dat : s2.heap.DictAt (mixKind X.prog X.w) a vs ep := ⟨o, es, ho, rest⟩
  have al : a < s2.heap.objs.size := Heap.lt_size ho
  have dat1 := dat.at' (h' := s2.heap.push { cls := .type "dict_values", data := .fields #[.ref a] }) fun o e => Heap.get?_push_of_some _ e
  refine wpAny_bind (wpAny_tryCatch (wpAny_pyIter_values ⟨_, hview, rfl, rfl⟩ dat1 ?_))
  have hz : (s2.heap.push { cls := .type "dict_values", data := .fields #[.ref a] }).objs.size = s2.heap.objs.size + 1 := Heap.size_push _ _
  obtain ⟨ia, il⟩ := ints_at rel em
  refine wpAny_bind (wpAny_runValue (loop (I1.ok.hd hc) s2.heap (it := (s2.heap.push { cls := .type "dict_values", data := .fields #[.ref a] }).objs.size) ms n tn ?_ ?_ ia il (ms.length - 0) 0 _ (by omega) (Nat.zero_le _) ⟨_, Heap.get?_push_size _ rfl, rfl, rfl⟩ (dat1.at' fun o e => Heap.get?_push_of_some _ e) (fun b o e => Heap.get?_push_of_some _ (Heap.get?_push_of_some _ e)) fun h' kp => ?_))
  · rw [hz]
    cases e : s2.heap.get? (s2.heap.objs.size + 1) with
    | none => rfl
    | some o => exact absurd (Heap.lt_size e) Nat.not_succ_lt_self
  · rw [hz]; exact Nat.ne_of_lt (Nat.lt_succ_of_lt al)
  · rw [List.drop_zero]
    refine wpAny_pure (wpAny_pure ?_)
    exact ⟨.bl (ms.contains n), H1, I2.kept (t' := s2.toks) kp, rfl, q⟩
end
end InV
namespace Fu
open PySem PySem.Spec PyProof.Rows L2 InV
variable [TabsC]
def intVals : List (Key × R) → Option (List Int)
  | [] => some []
  | (_, .dat (.int n)) :: r => (intVals r).bind fun ns => some (n :: ns)
  | _ => none
theorem vals_ints {K : PySem.W.Frag} {A : List Addr} {F : Hp} : ∀ {vs : List (Key × V)} {kvs : List (Key × R)} {ns : List Int}, PairR K A F vs kvs → intVals kvs = some ns → vs.map (·.2) = ns.map V.int
  | _, _, _, .nil, h => by cases h; rfl
  | (k1, v) :: vs, (k2, r) :: kvs, ns, .cons ⟨e, h⟩ t, hi => by
    cases r with
    | dat d =>
      cases d with
      | int n =>
        obtain ⟨ns', h1, h2⟩ := bind_inv hi
        cases h2
        have h : Rr K A F v (.dat (.int n)) := h
        cases h with
        | dat h =>
          cases rp_int_inv h
          rw [List.map_cons, List.map_cons, vals_ints t h1]
      | _ => cases hi
    | _ => cases hi
def intOf : D → Option Int
  | .int n => some n
  | _ => none
def gInV (ge : M D) (i : Nat) : M D := fun S => (ge S).bind fun p => (intOf p.1).bind fun n => (dictOf p.2 i).bind fun kvs => (intVals kvs).bind fun ns => some (.bool (ns.contains n), p.2)
theorem rd_inV {K : PySem.W.Frag} {te : TE} {ge : M D} (i : Nat) (he : RdE K te ge) : RdE K (tInV te i) (gInV ge i) := by
  intro A F H S σ d S' Q k h post
  obtain ⟨⟨d1, S1⟩, e1, h⟩ := bind_inv h
  obtain ⟨n, en, h⟩ := bind_inv h
  obtain ⟨kvs, e2, h⟩ := bind_inv h
  obtain ⟨ns, e3, h⟩ := bind_inv h
  cases h
  refine he A F H S σ _ S1 _ k e1 fun A1 F1 H1 v p1 s1 k1 r1 => ?_
  obtain ⟨a, vs, ev, hH, pr⟩ := dict_at k1 e2
  have ed : d1 = .int n := by
    cases d1 <;> cases en
    rfl
  subst ed
  cases rp_int_inv r1
  exact ⟨n, a, vs, ns, rfl, ev, hH, vals_ints pr e3, post A1 F1 H1 _ p1 s1 k1 (.bl _)⟩
section
variable {X : Cx} {pos py apos cpos p : Pos} {e e0 : Expr} {ge : M D} {y : Str} {gs : M (List D)}
theorem t_inV (i : Nat) (h0 : GE X e0 ge) (hN : X.N[i]? = some y := by rfl) (hv : Vis X.env.scope y := by first | exact Or.inl rfl | exact Or.inr (Or.inl rfl) | exact Or.inr (Or.inr rfl)) (hd : (y == ("__debug__" : Str)) = false := by decide) (hcd : (y == ("__classdict__" : Str)) = false := by decide) (hc : X.calm = true := by rfl)
    (hbase : attributeBase (.Name y py) "values" X.env (eval (.Name y py) X.env) = eval (.Name y py) X.env := by rfl) (hline : (apos.endLine == cpos.line) = true := by rfl) (hm : behindInMarks .In (.Call (.Attribute (.Name y py) "values" apos) [] [] cpos) = false := by rfl) :
    GT X (.Compare e0 [.In] [.Call (.Attribute (.Name y py) "values" apos) [] [] cpos] pos) (gB (gInV ge i)) := by
  obtain ⟨t, pe, r⟩ := h0.ex
  exact ⟨_, pt_cmp (pc_inV hc pe hN hv hd hcd hbase hline) hm, rd_test (rd_inV i r)⟩
end
/-! ### dict(pairs) -/
def dPairs : List D → Option (List (Key × D))
  | [] => some []
  | .tuple [k, v] :: ds => (keyOf k).bind fun k => (dPairs ds).bind fun r => some ((k, v) :: r)
  | _ => none
def mergeR (kvs : List (Key × R)) (more : List (Key × D)) : List (Key × R) := more.foldl (fun acc kv => putR acc kv.1 (.dat kv.2)) kvs
def oneL : List D → Option (List D)
  | [.list ds] => some ds
  | _ => none
def gDictP (gs : M (List D)) : MD := fun S => (gs S).bind fun p => (oneL p.1).bind fun ds => (dPairs ds).bind fun kvs => some (mergeR [] kvs, p.2)
theorem pairs_at {K : PySem.W.Frag} {F : Hp} : ∀ {ds : List D} {ws : List V} {kvs : List (Key × D)}, Rps K F ws ds → dPairs ds = some kvs → ∃ (ps : List Addr) (vs : List (Key × V)), ws = ps.map V.ref ∧ Paired (fun p kv => SqT K F p [kV kv.1, kv.2]) ps vs ∧ Paired (fun (a : Key × V) (b : Key × D) => a.1 = b.1 ∧ Rp K F a.2 b.2) vs kvs
  | [], _, _, r, h => by cases h; cases r; exact ⟨[], [], rfl, .nil, .nil⟩
  | .tuple [k, v] :: ds, _, _, r, h => by
    obtain ⟨ky, h1, h⟩ := bind_inv h
    obtain ⟨kvs, h2, h⟩ := bind_inv h
    cases h
    cases r with
    | cons r1 r2 =>
      obtain ⟨a, xs, rfl, q, r3, _⟩ := rp_tup_inv r1
      obtain ⟨v1, u1, rfl, rk, ru⟩ := rps2 r3
      obtain ⟨ps, vs, rfl, g1, g2⟩ := pairs_at r2 h2
      rw [key_of h1 rk] at q
      exact ⟨a :: ps, (ky, u1) :: vs, rfl, .cons q g1, .cons ⟨rfl, ru⟩ g2⟩
  | .none :: _, _, _, _, h => by simp [dPairs] at h
  | .bool _ :: _, _, _, _, h => by simp [dPairs] at h
  | .str _ :: _, _, _, _, h => by simp [dPairs] at h
  | .int _ :: _, _, _, _, h => by simp [dPairs] at h
  | .list _ :: _, _, _, _, h => by simp [dPairs] at h
  | .dict _ :: _, _, _, _, h => by simp [dPairs] at h
  | .tuple [] :: _, _, _, _, h => by simp [dPairs] at h
  | .tuple [_] :: _, _, _, _, h => by simp [dPairs] at h
  | .tuple (_ :: _ :: _ :: _) :: _, _, _, _, h => by simp [dPairs] at h
theorem pairs_same {K : PySem.W.Frag} {F F' : Hp} (e : SameT F F') : ∀ {ps : List Addr} {vs : List (Key × V)}, Paired (fun p kv => SqT K F p [kV kv.1, kv.2]) ps vs → Paired (fun p kv => SqT K F' p [kV kv.1, kv.2]) ps vs
  | _, _, .nil => .nil
  | _, _, .cons h t => .cons (sqT_same e h) (pairs_same e t)
theorem merge_at {K : PySem.W.Frag} {A : List Addr} {F : Hp} : ∀ {vs : List (Key × V)} {kvs : List (Key × D)} {us : List (Key × V)} {acc : List (Key × R)}, Paired (fun (a : Key × V) (b : Key × D) => a.1 = b.1 ∧ Rp K F a.2 b.2) vs kvs → PairR K A F us acc → PairR K A F (mergeK us vs) (mergeR acc kvs)
  | _, _, _, _, .nil, h => h
  | (k1, v) :: vs, (k2, d) :: kvs, us, acc, .cons ⟨e, r⟩ t, h => by
    have e : k1 = k2 := e
    subst e
    show PairR K A F (mergeK (putK us k1 v) vs) (mergeR (putR acc k1 (.dat d)) kvs)
    exact merge_at t (pair_put k1 (.dat r) h)
section
variable {X : Cx} {pos p : Pos} {e : Expr} {gs : M (List D)}
theorem d_dictP (hm : X.mg "dict" = none) (ha : GA X [e] gs) (hc : X.calm = true := by rfl) (hg : Gl X "dict" := by rfl) (he : starEach [e] X.env = (false, eval e X.env) :: starEach [] X.env := by rfl) (hpl : (backTo pos (starEach [] X.env)).any (·.1) = false := by rfl) : GD X (.Call (.Name "dict" p) [e] [] pos) (gDictP gs) := by
  obtain ⟨t, pa, ra⟩ := ha.ex
  refine ⟨_, pe_callTy (call_dictP hc) hg hm (by decide +kernel) pa (by decide) (by decide) he hpl, fun A F H S σ kvs S' Q k h post => ?_⟩
  obtain ⟨⟨ds, S1⟩, e1, h⟩ := bind_inv h
  obtain ⟨xs, e0, h⟩ := bind_inv h
  obtain ⟨kvs1, e2, h⟩ := bind_inv h
  cases h
  have e0 : oneL ds = some xs := e0
  have ed : ds = [.list xs] := by
    unfold oneL at e0
    split at e0
    · cases e0; rfl
    · cases e0
  subst ed
  refine ra A F H S σ _ S1 _ k e1 fun A1 F1 H1 vs p1 s1 k1 r1 => ?_
  obtain ⟨v, rfl, rv⟩ := rps1 r1
  obtain ⟨a, ws, rfl, g1, g2, g3⟩ := rp_list_inv rv
  obtain ⟨ps, ks, rfl, q1, q2⟩ := pairs_at g2 e2
  refine ⟨a, ps, ks, rfl, SqL.of (k1.sub.same _ _ g1), ?_, fun p hp => ?_⟩
  · exact pairs_same k1.sub.same.t q1
  · exact post A1 F1 H1 p _ p1 s1 k1 hp (merge_at q2 .nil)
end
end Fu

set_option maxHeartbeats 4000000
/-! {k: v} with a number or a text as its key, held as data: what it holds is not told -/
namespace Fu
open PySem PySem.Spec PyProof.Rows L2
variable [TabsC]
def gDictK (ge gv : M D) : M D := fun S => (ge S).bind fun p => (gv p.2).bind fun q => (keyOf p.1).bind fun _ => some (.dict [(.none, .none)], q.2)
section
variable {X : Cx} {e v : Expr} {pos : Pos} {ge gv : M D}
theorem e_dictK (he : GE X e ge) (hv : GE X v gv) : GE X (.Dict [some e] [v] pos) (gDictK ge gv) := by
  obtain ⟨t, pe, re⟩ := he.ex
  obtain ⟨u, pv, rv⟩ := hv.ex
  refine ⟨_, pe_disp (pps_cons (pe_fr pe) (pe_fr pv) pps_nil) rfl rfl (by simp) (by simp), fun A F H S σ d S' Q k h post => ?_⟩
  obtain ⟨⟨x, S1⟩, h1, h⟩ := bind_inv h
  obtain ⟨⟨y, S2⟩, h2, h⟩ := bind_inv h
  obtain ⟨ky, h3, h⟩ := bind_inv h
  cases h
  intro p hp
  refine ⟨H, sub_one hp trivial, re A F H S σ _ _ _ k h1 fun A1 F1 H1 v p1 s1 k1 r1 => ⟨tup_keep k.sub s1 k1.sub, fun lost => ?_⟩⟩
  have n1 : H1 p = none := lost p (.dK []) upd_same hp
  rw [mix_oneD hp n1]
  refine ⟨H1, sub_one n1 trivial, rv A1 F1 H1 S1 σ _ _ _ k1 h2 fun A2 F2 H2 v2 p2 s2 k2 r2 => ⟨tup_keep k1.sub s2 k2.sub, fun lost2 => ?_⟩⟩
  have n2 : H2 p = none := lost2 p (.dK []) upd_same n1
  rw [mix_oneD n1 n2]
  have ek := key_of h3 r1
  subst ek
  refine ⟨upd_same, [(ky, v2)], rfl, by show 1 ≤ 15; decide, ?_⟩
  rw [upd_twiceD]
  exact post A2 _ _ _ (p1.trans p2) (s1.trans (s2.trans (same_upd (k2.sub.none n2)))) (k2.laid n2) (.dct (.inl ⟨_, upd_same⟩) (fun z => by cases z))
end
end Fu

set_option maxHeartbeats 4000000
namespace Fu
open PySem
variable [TabsC]

/-! ### data: shaped, equal -/
theorem shaped_iff {d : D} : SeqAt.shaped d = true ↔ d.canLay0 = true ∧ d.depth ≤ 64 := by
  unfold SeqAt.shaped
  rw [Bool.and_eq_true, decide_eq_true_eq]
@[simp] theorem shaped_int (i : Int) : SeqAt.shaped (.int i) = true := by simp [shaped_iff, PyData.canLay0, PyData.depth]
@[simp] theorem shaped_bool (b : Bool) : SeqAt.shaped (.bool b) = true := by simp [shaped_iff, PyData.canLay0, PyData.depth]
@[simp] theorem shaped_none : SeqAt.shaped .none = true := by simp [shaped_iff, PyData.canLay0, PyData.depth]
@[simp] theorem dEq_int (a b : Int) : dEq (.int a) (.int b) = some (.bool (decide (a = b))) := by
  simp [dEq, PyData.eqv, Bool.beq_eq_decide_eq]
@[simp] theorem dNe_int (a b : Int) : dNe (.int a) (.int b) = some (.bool (!decide (a = b))) := by
  simp [dNe, PyData.eqv, Bool.beq_eq_decide_eq]
/-- lists (tuples) of things of one shape, their depth at most n -/
def Fine (n : Nat) (d : D) : Prop := d.canLay0 = true ∧ d.depth ≤ n
theorem Fine.mono {m n : Nat} {d : D} (h : Fine m d) (l : m ≤ n) : Fine n d := ⟨h.1, Nat.le_trans h.2 l⟩
theorem Fine.shaped {n : Nat} {d : D} (h : Fine n d) (l : n ≤ 64 := by decide) : SeqAt.shaped d = true := shaped_iff.mpr ⟨h.1, Nat.le_trans h.2 l⟩
theorem fine_all {n : Nat} : ∀ {ds : List D}, (∀ d ∈ ds, Fine n d) → PyData.canLayAll0 ds = true ∧ PyData.depthAll ds ≤ n
  | [], _ => ⟨rfl, Nat.zero_le _⟩
  | d :: ds, h => by
    obtain ⟨a, b⟩ := fine_all fun e he => h e (List.mem_cons_of_mem _ he)
    have c := h d List.mem_cons_self
    exact ⟨by simp [PyData.canLayAll0, a, c.1], by simp only [PyData.depthAll]; exact Nat.max_le.mpr ⟨c.2, b⟩⟩
theorem fine_list {n : Nat} {ds : List D} (h : ∀ d ∈ ds, Fine n d) : Fine (n + 1) (.list ds) := by
  obtain ⟨a, b⟩ := fine_all h
  exact ⟨by simpa [PyData.canLay0] using a, by simp only [PyData.depth]; omega⟩
theorem fine_int (i : Int) : Fine 0 (.int i) := ⟨by simp [PyData.canLay0], by simp [PyData.depth]⟩
theorem fine_str {x : Str} (h : PyData.strOk x = true) : Fine 0 (.str x) := ⟨by simpa [PyData.canLay0] using h, by simp [PyData.depth]⟩
/-- one sign -/
def ch (c : Nat) : D := .str ⟨#[c]⟩
theorem fine_ch {c : Nat} (h : c < 0x110000) : Fine 0 (ch c) := fine_str (by simp [PyData.strOk, h])
theorem ch_inj {a b : Nat} (h : ch a = ch b) : a = b := by
  unfold ch at h
  injection h with h
  injection h with h
  have := congrArg (fun z : Array Nat => z.toList) h
  simpa using this
theorem dEq_ch {a b : Nat} (ha : a < 0x110000) (hb : b < 0x110000) : dEq (ch a) (ch b) = some (.bool (decide (a = b))) := by
  unfold dEq
  rw [if_pos ⟨(fine_ch ha).shaped, (fine_ch hb).shaped⟩]
  congr 2
  unfold ch
  simp only [PyData.eqv]
  by_cases h : a = b
  · subst h; simp
  · rw [decide_eq_false h, beq_eq_false_iff_ne]
    intro e
    exact h (ch_inj (congrArg PyData.str e))
/-! ### comprehensions that change nothing else -/
theorem wipeS_in' {sl : List (Option R)} {n : Nat} : ∀ {ws : List Nat}, n ∈ ws → (wipeS sl ws)[n]? = if n < sl.length then some none else none
  | v :: ws, h => by
    unfold wipeS
    by_cases hv : v = n
    · subst hv
      by_cases hl : v < sl.length
      · rw [List.getElem?_set_self (by rw [wipeS_len]; exact hl), if_pos hl]
      · rw [List.getElem?_eq_none (by rw [List.length_set, wipeS_len]; omega), if_neg hl]
    · rw [List.getElem?_set_ne hv]
      exact wipeS_in' ((List.mem_cons.mp h).resolve_left fun z => hv z.symm)
theorem backS_same {old new : List (Option R)} {vs : List Nat} (h : wipeS new vs = wipeS old vs) : backS old new vs = old := by
  have hl : old.length = new.length := by
    have := congrArg List.length h
    rw [wipeS_len, wipeS_len] at this
    exact this.symm
  apply List.ext_getElem?
  intro n
  rw [backS_in hl]
  by_cases hn : n ∈ vs
  · rw [if_pos hn]
  · rw [if_neg hn]
    have := congrArg (fun l => l[n]?) h
    have h2 : (wipeS new vs)[n]? = (wipeS old vs)[n]? := this
    rwa [wipeS_out hn, wipeS_out hn] at h2
/-! ### loops -/
theorem loop_inv {gg : D → Sx → Option Sx} {body : Sx → Option Out} (I : Nat → Sx → Prop) : ∀ (ds : List D) (n : Nat) (S : Sx), I n S → (∀ i d S, ds[i]? = some d → I (n + i) S → ∃ S1 S2, gg d S = some S1 ∧ body S1 = some (.nx S2) ∧ I (n + i + 1) S2) →
    ∃ S', gLoop gg body ds S = some (.nx S') ∧ I (n + ds.length) S'
  | [], n, S, h0, _ => ⟨S, rfl, h0⟩
  | d :: ds, n, S, h0, hs => by
    obtain ⟨S1, S2, h1, h2, h3⟩ := hs 0 d S rfl h0
    obtain ⟨S', h4, h5⟩ := loop_inv I ds (n + 1) S2 h3 fun i e T he hI => by
      have := hs (i + 1) e T (by simpa using he) (by rwa [show n + (i + 1) = n + 1 + i by omega])
      rwa [show n + (i + 1) + 1 = n + 1 + i + 1 by omega] at this
    refine ⟨S', ?_, by rwa [show n + (d :: ds).length = n + 1 + ds.length by simp; omega]⟩
    rw [gLoop]
    simp only [h1, h2, Option.bind_some]
    exact h4
theorem rng_at {lo : Int} {n i : Nat} {d : D} (h : (rng lo n)[i]? = some d) : i < n ∧ d = .int (lo + i) := by
  unfold rng at h
  rw [List.getElem?_map] at h
  obtain ⟨j, hj, rfl⟩ := Option.map_eq_some_iff.mp h
  obtain ⟨h1, h2⟩ := List.getElem?_eq_some_iff.mp hj
  simp at h1 h2
  subst h2
  exact ⟨h1, rfl⟩
theorem atI_ok {α : Type} {xs : List α} {i : Int} (h0 : 0 ≤ i) (h1 : i < xs.length) : L2.atI xs i = xs[i.toNat]? := by
  unfold L2.atI L2.ixN
  rw [if_pos h0, if_pos h1]; rfl
theorem line_eq : sizeLine = 16777216 := sizeLine_eq
end Fu

set_option maxHeartbeats 4000000
namespace Fu
open PySem
variable [TabsC]

/-! ### plain data: no truth value inside; there python's equality is equality -/
mutual
def plain : D → Bool
  | .none | .int _ | .str _ => true
  | .bool _ | .dict _ => false
  | .list xs | .tuple xs => plains xs
def plains : List D → Bool
  | [] => true
  | x :: xs => plain x && plains xs
end
mutual
theorem eqv_plain : ∀ d e : D, plain d = true → plain e = true → (PyData.eqv d e = true ↔ d = e)
  | .none, e, _, h => by cases e <;> simp [PyData.eqv, plain] at h ⊢
  | .int i, e, _, h => by cases e <;> simp [PyData.eqv, plain] at h ⊢
  | .str i, e, _, h => by cases e <;> simp [PyData.eqv, plain] at h ⊢
  | .bool b, _, h, _ => by simp [plain] at h
  | .dict b, _, h, _ => by simp [plain] at h
  | .list xs, e, h1, h2 => by
    cases e with
    | list ys =>
      simp only [plain] at h1 h2
      rw [PyData.eqv, eqvs_plain xs ys h1 h2]
      exact ⟨fun h => by rw [h], fun h => by injection h⟩
    | _ => simp [PyData.eqv, plain] at h2 ⊢
  | .tuple xs, e, h1, h2 => by
    cases e with
    | tuple ys =>
      simp only [plain] at h1 h2
      rw [PyData.eqv, eqvs_plain xs ys h1 h2]
      exact ⟨fun h => by rw [h], fun h => by injection h⟩
    | _ => simp [PyData.eqv, plain] at h2 ⊢
theorem eqvs_plain : ∀ xs ys : List D, plains xs = true → plains ys = true → (PyData.eqvAll xs ys = true ↔ xs = ys)
  | [], ys, _, _ => by cases ys <;> simp [PyData.eqvAll]
  | x :: xs, [], _, _ => by simp [PyData.eqvAll]
  | x :: xs, y :: ys, h1, h2 => by
    simp only [plains, Bool.and_eq_true] at h1 h2
    rw [PyData.eqvAll, Bool.and_eq_true, eqv_plain x y h1.1 h2.1, eqvs_plain xs ys h1.2 h2.2]
    exact ⟨fun h => by rw [h.1, h.2], fun h => by injection h; exact ⟨by assumption, by assumption⟩⟩
end
/-- good data: plain, of shape, not deep -/
structure Good (n : Nat) (d : D) : Prop where
  fine : Fine n d
  plain : plain d = true
theorem Good.shaped {n : Nat} {d : D} (h : Good n d) (l : n ≤ 64 := by decide) : SeqAt.shaped d = true := h.fine.shaped l
theorem Good.mono {m n : Nat} {d : D} (h : Good m d) (l : m ≤ n) : Good n d := ⟨h.fine.mono l, h.plain⟩
open Classical in
open Classical in
/-! ### what a run answers, forwards -/
def Ev {α : Type} (x : Option (α × Sx)) (Q : α → Sx → Prop) : Prop := ∃ a S, x = some (a, S) ∧ Q a S
def Es (x : Option Sx) (Q : Sx → Prop) : Prop := ∃ S, x = some S ∧ Q S
def Eo (x : Option Out) (Q : Out → Prop) : Prop := ∃ o, x = some o ∧ Q o
def Ed {α : Type} (x : Option α) (Q : α → Prop) : Prop := ∃ d, x = some d ∧ Q d
theorem Ev.mono {α : Type} {x : Option (α × Sx)} {P Q : α → Sx → Prop} (h : Ev x P) (f : ∀ a S, P a S → Q a S) : Ev x Q := let ⟨a, S, e, p⟩ := h; ⟨a, S, e, f a S p⟩
theorem Eo.mono {x : Option Out} {P Q : Out → Prop} (h : Eo x P) (f : ∀ a, P a → Q a) : Eo x Q := let ⟨a, e, p⟩ := h; ⟨a, e, f a p⟩
theorem Ed.of {α : Type} {x : Option α} {d : α} {Q : α → Prop} (e : x = some d) (h : Q d) : Ed x Q := ⟨d, e, h⟩
theorem Ev.of {α : Type} {x : Option (α × Sx)} {d : α} {S : Sx} {Q : α → Sx → Prop} (e : x = some (d, S)) (h : Q d S) : Ev x Q := ⟨d, S, e, h⟩
theorem Ev.eq {α : Type} {x : Option (α × Sx)} {d : α} {S : Sx} (h : Ev x fun a T => a = d ∧ T = S) : x = some (d, S) := by
  obtain ⟨a, T, e, rfl, rfl⟩ := h; exact e
theorem Es.eq {x : Option Sx} {S : Sx} (h : Es x fun T => T = S) : x = some S := by
  obtain ⟨T, e, rfl⟩ := h; exact e
section
variable {α : Type} {S : Sx} {Q : D → Sx → Prop} {P : Bool → Sx → Prop} {L : List D → Sx → Prop} {O : Option Int → Sx → Prop} {Z : Out → Prop} {W : Sx → Prop}
theorem ev_c {d : D} (h : Q d S) : Ev (gC d S) Q := ⟨d, S, rfl, h⟩
theorem ev_var {sl : List (Option R)} {os : List (Option Cell)} {i : Nat} (h : ∃ d, sl[i]? = some (some (.dat d)) ∧ Q d ⟨sl, os⟩) : Ev (gVar i ⟨sl, os⟩) Q := by
  obtain ⟨d, e, h⟩ := h
  exact ⟨d, _, by unfold gVar; simp only [e], h⟩
theorem ev_bin {f : D → D → Option D} {ga gb : M D} (h : Ev (ga S) fun d S1 => Ev (gb S1) fun e S2 => Ed (f d e) fun z => Q z S2) : Ev (gBin f ga gb S) Q := by
  obtain ⟨d, S1, e1, e, S2, e2, z, e3, q⟩ := h
  exact ⟨z, S2, by simp only [gBin, e1, e2, e3, Option.bind_some], q⟩
theorem ev_un {f : D → Option D} {ga : M D} (h : Ev (ga S) fun d S1 => Ed (f d) fun z => Q z S1) : Ev (gUn f ga S) Q := by
  obtain ⟨d, S1, e1, z, e3, q⟩ := h
  exact ⟨z, S1, by simp only [gUn, e1, e3, Option.bind_some], q⟩
theorem ev_nil (h : L [] S) : Ev (gNil S) L := ⟨_, _, rfl, h⟩
theorem ev_cons {g : M D} {gs : M (List D)} (h : Ev (g S) fun d S1 => Ev (gs S1) fun ds S2 => L (d :: ds) S2) : Ev (gCons g gs S) L := by
  obtain ⟨d, S1, e1, e, S2, e2, q⟩ := h
  exact ⟨_, S2, by simp only [gCons, e1, e2, Option.bind_some], q⟩
theorem ev_tup {g : M (List D)} (h : Ev (g S) fun ds S1 => ds.length ≤ 16777216 ∧ Q (.tuple ds) S1) : Ev (gTup g S) Q := by
  obtain ⟨d, S1, e1, l, q⟩ := h
  exact ⟨_, S1, by simp only [gTup, e1, Option.bind_some, line_eq, if_pos l], q⟩
theorem ev_lst {g : M (List D)} (h : Ev (g S) fun ds S1 => ds.length ≤ 16777216 ∧ Q (.list ds) S1) : Ev (gLst g S) Q := by
  obtain ⟨d, S1, e1, l, q⟩ := h
  exact ⟨_, S1, by simp only [gLst, e1, Option.bind_some, line_eq, if_pos l], q⟩
theorem ev_call {f : List D → Option D} {g : M (List D)} (h : Ev (g S) fun ds S1 => Ed (f ds) fun z => Q z S1) : Ev (gCall f g S) Q := by
  obtain ⟨d, S1, e1, z, e3, q⟩ := h
  exact ⟨z, S1, by simp only [gCall, e1, e3, Option.bind_some], q⟩
theorem ev_callF {n : Nat} {f : List D → Option D} {g : M (List D)} (h : Ev (g S) fun ds S1 => ds.length = n ∧ Ed (f ds) fun z => Q z S1) : Ev (gCallF n f g S) Q := by
  obtain ⟨d, S1, e1, l, z, e3, q⟩ := h
  exact ⟨z, S1, by simp only [gCallF, e1, e3, Option.bind_some, if_pos l], q⟩
theorem ev_isi {T : String} {g : M D} (h : Ev (g S) fun d S1 => Q (.bool (isT T d)) S1) : Ev (gIsi T g S) Q := by
  obtain ⟨d, S1, e1, q⟩ := h
  exact ⟨_, S1, by simp only [gIsi, e1, Option.bind_some], q⟩
theorem ev_isi2 {T U : String} {g : M D} (h : Ev (g S) fun d S1 => Q (.bool (isT T d || isT U d)) S1) : Ev (gIsi2 T U g S) Q := by
  obtain ⟨d, S1, e1, q⟩ := h
  exact ⟨_, S1, by simp only [gIsi2, e1, Option.bind_some], q⟩
theorem ev_andV {g k : M D} (h : Ev (g S) fun d S1 => ∃ b, d = .bool b ∧ (b = true → Ev (k S1) fun e S2 => ∃ c, e = .bool c ∧ Q (.bool c) S2) ∧ (b = false → Q (.bool false) S1)) : Ev (gAndV g k S) Q := by
  obtain ⟨d, S1, e1, b, rfl, h1, h2⟩ := h
  cases b with
  | true => 
    obtain ⟨e, S2, e2, c, rfl, q⟩ := h1 rfl
    exact ⟨_, S2, by simp [gAndV, e1, e2], q⟩
  | false => exact ⟨_, S1, by simp [gAndV, e1], h2 rfl⟩
theorem ev_orV {g k : M D} (h : Ev (g S) fun d S1 => ∃ b, d = .bool b ∧ (b = false → Ev (k S1) fun e S2 => ∃ c, e = .bool c ∧ Q (.bool c) S2) ∧ (b = true → Q (.bool true) S1)) : Ev (gOrV g k S) Q := by
  obtain ⟨d, S1, e1, b, rfl, h1, h2⟩ := h
  cases b with
  | false => 
    obtain ⟨e, S2, e2, c, rfl, q⟩ := h1 rfl
    exact ⟨_, S2, by simp [gOrV, e1, e2], q⟩
  | true => exact ⟨_, S1, by simp [gOrV, e1], h2 rfl⟩
theorem ev_notV {g : M D} (h : Ev (g S) fun d S1 => ∃ b, d = .bool b ∧ Q (.bool !b) S1) : Ev (gNotV g S) Q := by
  obtain ⟨d, S1, e1, b, rfl, q⟩ := h
  exact ⟨_, S1, by simp [gNotV, e1], q⟩
theorem ev_B {g : M D} (h : Ev (g S) fun d S1 => ∃ b, d = .bool b ∧ P b S1) : Ev (gB g S) P := by
  obtain ⟨d, S1, e1, b, rfl, q⟩ := h
  exact ⟨b, S1, by simp only [gB, e1, Option.bind_some], q⟩
theorem ev_and {g k : M Bool} (h : Ev (g S) fun b S1 => (b = true → Ev (k S1) P) ∧ (b = false → P false S1)) : Ev (gAnd g k S) P := by
  obtain ⟨b, S1, e1, h1, h2⟩ := h
  cases b with
  | true => 
    obtain ⟨c, S2, e2, q⟩ := h1 rfl
    exact ⟨_, S2, by simp [gAnd, e1, e2], q⟩
  | false => exact ⟨_, S1, by simp [gAnd, e1], h2 rfl⟩
theorem ev_or {g k : M Bool} (h : Ev (g S) fun b S1 => (b = false → Ev (k S1) P) ∧ (b = true → P true S1)) : Ev (gOr g k S) P := by
  obtain ⟨b, S1, e1, h1, h2⟩ := h
  cases b with
  | false => 
    obtain ⟨c, S2, e2, q⟩ := h1 rfl
    exact ⟨_, S2, by simp [gOr, e1, e2], q⟩
  | true => exact ⟨_, S1, by simp [gOr, e1], h2 rfl⟩
theorem ev_not {g : M Bool} (h : Ev (g S) fun b S1 => P (!b) S1) : Ev (gNot g S) P := by
  obtain ⟨b, S1, e1, q⟩ := h
  exact ⟨_, S1, by simp [gNot, e1], q⟩
theorem ev_yes (h : P true S) : Ev (gYes S) P := ⟨_, _, rfl, h⟩
theorem ev_if {t : M Bool} {g k : M D} (h : Ev (t S) fun b S1 => (b = true → Ev (g S1) Q) ∧ (b = false → Ev (k S1) Q)) : Ev (gIf t g k S) Q := by
  obtain ⟨b, S1, e1, h1, h2⟩ := h
  cases b with
  | true => 
    obtain ⟨c, S2, e2, q⟩ := h1 rfl
    exact ⟨_, S2, by simp [gIf, e1, e2], q⟩
  | false =>
    obtain ⟨c, S2, e2, q⟩ := h2 rfl
    exact ⟨_, S2, by simp [gIf, e1, e2], q⟩
theorem ev_no (h : O none S) : Ev (gNo S) O := ⟨_, _, rfl, h⟩
theorem ev_so {g : M D} (h : Ev (g S) fun d S1 => ∃ i, d = .int i ∧ O (some i) S1) : Ev (gSo g S) O := by
  obtain ⟨d, S1, e1, i, rfl, q⟩ := h
  exact ⟨_, S1, by simp only [gSo, e1, Option.bind_some], q⟩
theorem ev_sl {g : M D} {gl gh : M (Option Int)} (h : Ev (g S) fun d S1 => Ev (gl S1) fun lo S2 => Ev (gh S2) fun hi S3 => Ed (dSl d lo hi) fun z => Q z S3) : Ev (gSl g gl gh S) Q := by
  obtain ⟨d, S1, e1, lo, S2, e2, hi, S3, e3, z, e4, q⟩ := h
  exact ⟨z, S3, by simp only [gSl, e1, e2, e3, e4, Option.bind_some], q⟩
theorem ev_items {g : M D} (h : Ev (g S) fun d S1 => Ed (itemsOf d) fun xs => L xs S1) : Ev (gItems g S) L := by
  obtain ⟨d, S1, e1, xs, e2, q⟩ := h
  exact ⟨xs, S1, by simp only [gItems, e1, e2, Option.bind_some], q⟩
theorem ev_rng1 {g : M (List D)} (h : Ev (g S) fun ds S1 => ∃ n : Int, ds = [.int n] ∧ -4611686018427387904 ≤ n ∧ n ≤ 16777216 ∧ L (rng 0 n.toNat) S1) : Ev (gRng1 g S) L := by
  obtain ⟨ds, S1, e1, n, rfl, l1, l2, q⟩ := h
  exact ⟨_, S1, by simp only [gRng1, e1, Option.bind_some, line_eq]; rw [if_pos ⟨by omega, by omega⟩], q⟩
theorem ev_rng2 {g : M (List D)} (h : Ev (g S) fun ds S1 => ∃ i j : Int, ds = [.int i, .int j] ∧ -4294967296 ≤ i ∧ i ≤ 4294967296 ∧ -4294967296 ≤ j ∧ j ≤ 4294967296 ∧ j - i ≤ 16777216 ∧ L (rng i (j - i).toNat) S1) : Ev (gRng2 g S) L := by
  obtain ⟨ds, S1, e1, i, j, rfl, l1, l2, l3, l4, l5, q⟩ := h
  exact ⟨_, S1, by simp only [gRng2, e1, Option.bind_some, line_eq]; rw [if_pos ⟨by omega, by omega, by omega, by omega, by omega⟩], q⟩
theorem es_name {i : Nat} {d : D} (h : W ⟨S.sl.set i (some (.dat d)), S.os⟩) : Es (sName i d S) W := ⟨_, rfl, h⟩
theorem es_tup2 {i j : Nat} {d e : D} (h : W ⟨(S.sl.set i (some (.dat d))).set j (some (.dat e)), S.os⟩) : Es (sTup 2 (sCons (sName i) (sCons (sName j) sNil)) (.tuple [d, e]) S) W := ⟨_, rfl, h⟩
theorem es_tup3 {i j k : Nat} {d e f : D} (h : W ⟨((S.sl.set i (some (.dat d))).set j (some (.dat e))).set k (some (.dat f)), S.os⟩) : Es (sTup 3 (sCons (sName i) (sCons (sName j) (sCons (sName k) sNil))) (.tuple [d, e, f]) S) W := ⟨_, rfl, h⟩
/-- what goes on after a statement -/
def Then (h : Sx → Option Out) (Z : Out → Prop) : Out → Prop
  | .nx S => Eo (h S) Z
  | .rt d S => Z (.rt d S)
  | .bk S => Z (.bk S)
  | .ct S => Z (.ct S)
  | .ro j S => Z (.ro j S)
theorem eo_seq {g h : Sx → Option Out} (e : Eo (g S) (Then h Z)) : Eo (qSeq g h S) Z := by
  obtain ⟨o, e1, q⟩ := e
  cases o with
  | nx S1 =>
    obtain ⟨o2, e2, q⟩ := q
    exact ⟨o2, by simp only [qSeq, e1, Option.bind_some, e2], q⟩
  | _ => exact ⟨_, by simp only [qSeq, e1, Option.bind_some], q⟩
theorem then_nx' {h : Sx → Option Out} {S1 : Sx} (e : ∃ S2, S1 = S2 ∧ Eo (h S2) Z) : Then h Z (.nx S1) := by obtain ⟨_, rfl, e⟩ := e; exact e
theorem eo_nx (h : Z (.nx S)) : Eo (qNx S) Z := ⟨_, rfl, h⟩
theorem eo_drop {g : M D} (h : Ev (g S) fun _ S1 => Z (.nx S1)) : Eo (qDrop g S) Z := by
  obtain ⟨d, S1, e1, q⟩ := h
  exact ⟨_, by simp only [qDrop, e1, Option.bind_some], q⟩
theorem eo_ret {g : M D} (h : Ev (g S) fun d S1 => Z (.rt d S1)) : Eo (qRet g S) Z := by
  obtain ⟨d, S1, e1, q⟩ := h
  exact ⟨_, by simp only [qRet, e1, Option.bind_some], q⟩
theorem eo_retN (h : Z (.rt .none S)) : Eo (qRetN S) Z := ⟨_, rfl, h⟩
theorem eo_if {t : M Bool} {g k : Sx → Option Out} (h : Ev (t S) fun b S1 => (b = true → Eo (g S1) Z) ∧ (b = false → Eo (k S1) Z)) : Eo (qIf t g k S) Z := by
  obtain ⟨b, S1, e1, h1, h2⟩ := h
  cases b with
  | true =>
    obtain ⟨c, e2, q⟩ := h1 rfl
    exact ⟨_, by simp [qIf, e1, e2], q⟩
  | false =>
    obtain ⟨c, e2, q⟩ := h2 rfl
    exact ⟨_, by simp [qIf, e1, e2], q⟩
theorem eo_set {i : Nat} {g : M D} (h : Ev (g S) fun d S1 => Z (.nx ⟨S1.sl.set i (some (.dat d)), S1.os⟩)) : Eo (qSet i g S) Z := by
  obtain ⟨d, S1, e1, q⟩ := h
  exact ⟨_, by simp only [qSet, e1, Option.bind_some], q⟩
theorem eo_asg {gg : D → Sx → Option Sx} {g : M D} (h : Ev (g S) fun d S1 => Es (gg d S1) fun S2 => Z (.nx S2)) : Eo (qAsg gg g S) Z := by
  obtain ⟨d, S1, e1, S2, e2, q⟩ := h
  exact ⟨_, by simp only [qAsg, e1, e2, Option.bind_some], q⟩
theorem eo_par {i j : Nat} {g : M (List D)} (h : Ev (g S) fun ds S1 => ∃ d e, ds = [d, e] ∧ Z (.nx ⟨(S1.sl.set i (some (.dat d))).set j (some (.dat e)), S1.os⟩)) : Eo (qPar i j g S) Z := by
  obtain ⟨ds, S1, e1, d, e, rfl, q⟩ := h
  exact ⟨_, by simp only [qPar, e1, Option.bind_some], q⟩
theorem eo_own {i : Nat} {g : M D} (h : Ev (g S) fun d S1 => ∃ ds, d = .list ds ∧ Z (.nx ⟨S1.sl.set i (some (.own S1.os.length)), S1.os ++ [some (.lst ds)]⟩)) : Eo (qOwn i g S) Z := by
  obtain ⟨d, S1, e1, ds, rfl, q⟩ := h
  exact ⟨_, by simp only [qOwn, e1, Option.bind_some], q⟩
theorem eo_retO {g : M D} (h : Ev (g S) fun d S1 => ∃ ds, d = .list ds ∧ Z (.ro S1.os.length ⟨S1.sl, S1.os ++ [some (.lst ds)]⟩)) : Eo (qRetO g S) Z := by
  obtain ⟨d, S1, e1, ds, rfl, q⟩ := h
  exact ⟨_, by simp only [qRetO, e1, Option.bind_some], q⟩
theorem eo_for {gi : M (List D)} {gg : D → Sx → Option Sx} {body : Sx → Option Out} (h : Ev (gi S) fun ds S1 => Eo (gLoop gg body ds S1) Z) : Eo (qFor gi gg body S) Z := by
  obtain ⟨ds, S1, e1, o, e2, q⟩ := h
  exact ⟨_, by simp only [qFor, e1, Option.bind_some, e2], q⟩
theorem eo_loop {gg : D → Sx → Option Sx} {body : Sx → Option Out} {ds : List D} (I : Nat → Sx → Prop) (h0 : I 0 S) (hs : ∀ i d S, ds[i]? = some d → I i S → Es (gg d S) fun S1 => Eo (body S1) fun o => ∃ S2, o = .nx S2 ∧ I (i + 1) S2) (hz : ∀ S', I ds.length S' → Z (.nx S')) : Eo (gLoop gg body ds S) Z := by
  obtain ⟨S', e, q⟩ := loop_inv (gg := gg) (body := body) I ds 0 S h0 fun i d S h1 h2 => by
    rw [Nat.zero_add] at h2 ⊢
    obtain ⟨S1, e1, o, e2, S2, rfl, q⟩ := hs i d S h1 h2
    exact ⟨S1, S2, e1, e2, q⟩
  rw [Nat.zero_add] at q
  exact ⟨_, e, hz S' q⟩
end

theorem then_rt {h : Sx → Option Out} {Z : Out → Prop} {d : D} {S : Sx} (q : Z (.rt d S)) : Then h Z (.rt d S) := q
theorem split_t {A B : Prop} {b : Bool} (e : b = true) (h : A) : (b = true → A) ∧ (b = false → B) := ⟨fun _ => h, fun k => by rw [e] at k; cases k⟩
theorem split_f {A B : Prop} {b : Bool} (e : b = false) (h : B) : (b = true → A) ∧ (b = false → B) := ⟨fun k => (by rw [e] at k; cases k), fun _ => h⟩
theorem split_t' {A B : Prop} {b : Bool} (e : b = true) (h : A) : (b = false → B) ∧ (b = true → A) := ⟨fun k => (by rw [e] at k; cases k), fun _ => h⟩
theorem split_f' {A B : Prop} {b : Bool} (e : b = false) (h : B) : (b = false → B) ∧ (b = true → A) := ⟨fun _ => h, fun k => by rw [e] at k; cases k⟩
/-! ### whole defs -/
def Gives (z : D) : Out → Prop
  | .rt d _ => d = z
  | .nx _ => z = .none
  | _ => False
theorem mF_of {n : Nat} {g : Sx → Option Out} {ds : List D} {z : D} (h : Eo (g ⟨initS n ds, []⟩) (Gives z)) : mF n g ds = some z := by
  obtain ⟨o, e, q⟩ := h
  unfold mF
  rw [e]
  cases o with
  | nx S => cases q; rfl
  | rt d S => cases q; rfl
  | _ => exact q.elim
theorem gives_rt {z d : D} {S : Sx} (h : d = z) : Gives z (.rt d S) := h
@[simp] theorem gives_rtI {z d : D} {S : Sx} : Gives z (.rt d S) ↔ d = z := Iff.rfl
theorem gives_nx {S : Sx} : Gives .none (.nx S) := rfl
def GivesO (Q : D → List D → Prop) : Out → Prop
  | .rt d S => ∃ cs, cellOf S 0 = some cs ∧ Q d cs
  | .nx S => ∃ cs, cellOf S 0 = some cs ∧ Q .none cs
  | _ => False
theorem mIO_of {n : Nat} {g : Sx → Option Out} {cs ds : List D} {Q : D → List D → Prop} (h : Eo (g ⟨some (.own 0) :: initS (n - 1) ds, [some (.lst cs)]⟩) (GivesO Q)) : ∃ d cs', mIO n g cs ds = some (d, cs') ∧ Q d cs' := by
  obtain ⟨o, e, q⟩ := h
  unfold mIO
  rw [e]
  cases o with
  | nx S => obtain ⟨cs', e, q⟩ := q; exact ⟨_, cs', by simp [e], q⟩
  | rt d S => obtain ⟨cs', e, q⟩ := q; exact ⟨_, cs', by simp [e], q⟩
  | _ => exact q.elim
theorem ev_IO {sl : List (Option R)} {os : List (Option Cell)} {i n : Nat} {f : List D → List D → Option (D × List D)} {g : M (List D)} {Q : D → Sx → Prop}
    (h : ∃ j, sl[i]? = some (some (.own j)) ∧ Ev (g ⟨sl, os⟩) fun ds S1 => ∃ cs, S1.os[j]? = some (some (.lst cs)) ∧ ds.length = n ∧ ∃ d cs', f cs ds = some (d, cs') ∧ Q d ⟨S1.sl, S1.os.set j (some (.lst cs'))⟩) : Ev (gIO i n f g ⟨sl, os⟩) Q := by
  obtain ⟨j, hi, ds, S1, e1, cs, e2, l, d, cs', e3, q⟩ := h
  exact ⟨d, _, by simp only [gIO, hi, e1, e2, e3, Option.bind_some, if_pos l], q⟩
theorem ev_ixO {sl : List (Option R)} {os : List (Option Cell)} {i : Nat} {gb : M D} {Q : D → Sx → Prop}
    (h : ∃ j cs, sl[i]? = some (some (.own j)) ∧ os[j]? = some (some (.lst cs)) ∧ Ev (gb ⟨sl, os⟩) fun d S1 => ∃ n, d = .int n ∧ S1 = ⟨sl, os⟩ ∧ Ed (L2.atI cs n) fun e => Q e ⟨sl, os⟩) : Ev (gIxO i gb ⟨sl, os⟩) Q := by
  obtain ⟨j, cs, hi, hc, d, S1, e1, n, rfl, rfl, e, e2, q⟩ := h
  exact ⟨e, _, by simp only [gIxO, ownOf, cellOf, hi, hc, e1, e2, Option.bind_some], q⟩
theorem eo_setO {S : Sx} {i : Nat} {gb ge : M D} {Z : Out → Prop} (h : Ev (ge S) fun d S1 => ∃ j cs, S1.sl[i]? = some (some (.own j)) ∧ S1.os[j]? = some (some (.lst cs)) ∧ Ev (gb S1) fun n S2 => S2 = S1 ∧ ∃ k : Nat, n = .int k ∧ k < cs.length ∧ Z (.nx ⟨S1.sl, S1.os.set j (some (.lst (cs.set k d)))⟩)) : Eo (qSetO i gb ge S) Z := by
  obtain ⟨d, S1, e1, j, cs, hi, hc, n, S2, e2, rfl, k, rfl, l, q⟩ := h
  refine ⟨_, ?_, q⟩
  have : L2.ixN cs.length (k : Int) = some k := by
    unfold L2.ixN
    rw [if_pos (by omega), if_pos (by omega)]; simp
  simp only [qSetO, e1, Option.bind_some, ownOf, cellOf, hi, hc, e2, this, setCell]
theorem ev_app {S : Sx} {i : Nat} {ge : M D} {Q : D → Sx → Prop} (hi : ∃ j cs, S.sl[i]? = some (some (.own j)) ∧ S.os[j]? = some (some (.lst cs)) ∧ Ev (ge S) fun d S1 => ∃ cs, S1.os[j]? = some (some (.lst cs)) ∧ cs.length < 16777216 ∧ Q .none ⟨S1.sl, S1.os.set j (some (.lst (cs ++ [d])))⟩) : Ev (gApp i ge S) Q := by
  obtain ⟨j, cs, h1, h2, d, S1, e1, cs1, h3, l, q⟩ := hi
  refine ⟨_, _, ?_, q⟩
  simp only [gApp, ownOf, h1, h2, cellOf, Option.bind_some, e1, h3, line_eq, if_pos l, setCell]
theorem ev_lenO {sl : List (Option R)} {os : List (Option Cell)} {i : Nat} {Q : D → Sx → Prop} (h : ∃ j cs, sl[i]? = some (some (.own j)) ∧ os[j]? = some (some (.lst cs)) ∧ Q (.int cs.length) ⟨sl, os⟩) : Ev (gLenO i ⟨sl, os⟩) Q := by
  obtain ⟨j, cs, hi, hc, h⟩ := h
  exact ⟨_, _, by simp only [gLenO, ownOf, cellOf, hi, hc, Option.bind_some], h⟩
theorem ev_scrSl {sl : List (Option R)} {os : List (Option Cell)} {i : Nat} {gl gh : M (Option Int)} {Q : D → Sx → Prop} (h : ∃ ns, sl[i]? = some (some (.scr ns)) ∧ Ev (gl ⟨sl, os⟩) fun lo S1 => Ev (gh S1) fun hi S2 => Q (.list ((cutL ns lo hi).map .int)) S2) : Ev (gScrSl i gl gh ⟨sl, os⟩) Q := by
  obtain ⟨ns, hi, lo, S1, e1, hi2, S2, e2, h⟩ := h
  exact ⟨_, _, by simp only [gScrSl, scrOf, hi, Option.bind_some, e1, e2], h⟩
theorem ev_scrLen {sl : List (Option R)} {os : List (Option Cell)} {i : Nat} {Q : D → Sx → Prop} (h : ∃ ns : List Int, sl[i]? = some (some (.scr ns)) ∧ Q (.int ns.length) ⟨sl, os⟩) : Ev (gScrLen i ⟨sl, os⟩) Q := by
  obtain ⟨ns, hi, h⟩ := h
  exact ⟨_, _, by simp only [gScrLen, scrOf, hi, Option.bind_some], h⟩
theorem ev_callScr {sl : List (Option R)} {os : List (Option Cell)} {i : Nat} {f : List Int → Option (List D)} {Q : D → Sx → Prop} (h : ∃ ns : List Int, sl[i]? = some (some (.scr ns)) ∧ Ed (f ns) fun z => Q (.list z) ⟨sl, os⟩) : Ev (gCallScr i f ⟨sl, os⟩) Q := by
  obtain ⟨ns, hi, z, e, h⟩ := h
  exact ⟨_, _, by simp only [gCallScr, scrOf, hi, Option.bind_some, e], h⟩
theorem mScrN_of {n : Nat} {g : Sx → Option Out} {ns : List Int} {Q : List D → Prop} (h : Eo (g ⟨some (.scr ns) :: List.replicate (n - 1) none, []⟩) fun o => ∃ j S cs, o = .ro j S ∧ cellOf S j = some cs ∧ Q cs) : ∃ cs, mScrN n g ns = some cs ∧ Q cs := by
  obtain ⟨_, e, j, S, cs, rfl, h, q⟩ := h
  exact ⟨cs, by unfold mScrN; simp only [e, Option.bind_some, h], q⟩
theorem mScr_of {n : Nat} {g : Sx → Option Out} {ns : List Int} {z : D} (h : Eo (g ⟨some (.scr ns) :: List.replicate (n - 1) none, []⟩) fun o => ∃ S, o = .rt z S) : mScr n g ns = some z := by
  obtain ⟨_, e, S, rfl⟩ := h
  unfold mScr; simp only [e, Option.bind_some]

/-! ### operations on data -/
section
variable {Q : D → Prop} {i j : Int} {xs ys : List D}
theorem ed_addI (h : Q (.int (i + j))) : Ed (dAdd (.int i) (.int j)) Q := ⟨_, rfl, h⟩
theorem ed_subI (h : Q (.int (i - j))) : Ed (dSub (.int i) (.int j)) Q := ⟨_, rfl, h⟩
theorem ed_addL (l : xs.length + ys.length ≤ 16777216) (h : Q (.list (xs ++ ys))) : Ed (dAdd (.list xs) (.list ys)) Q := ⟨_, by simp only [dAdd, line_eq, if_pos l], h⟩
theorem ed_mulI (l : L2.CMulW i j) (h : Q (.int (i * j))) : Ed (dMul (.int i) (.int j)) Q := ⟨_, by simp only [dMul, if_pos l], h⟩
theorem ed_divI (l : L2.CDivW i j) (h : Q (.int (i / j))) : Ed (dDiv (.int i) (.int j)) Q := ⟨_, by simp only [dDiv, if_pos l], h⟩
theorem ed_modI (l : 0 < j) (h : Q (.int (i % j))) : Ed (dMod (.int i) (.int j)) Q := ⟨_, by simp only [dMod, if_pos l], h⟩
theorem ed_cmp {p : Int → Int → Bool} (h : Q (.bool (p i j))) : Ed (dCmp p (.int i) (.int j)) Q := ⟨_, rfl, h⟩
theorem ed_eqI (h : Q (.bool (decide (i = j)))) : Ed (dEq (.int i) (.int j)) Q := ⟨_, dEq_int i j, h⟩
theorem ed_neI (h : Q (.bool (!decide (i = j)))) : Ed (dNe (.int i) (.int j)) Q := ⟨_, dNe_int i j, h⟩
theorem ed_ixT {d : D} (h0 : 0 ≤ i) (e : xs[i.toNat]? = some d) (h : Q d) : Ed (dIx (.tuple xs) (.int i)) Q := ⟨d, by
  have hl := (List.getElem?_eq_some_iff.mp e).1
  show L2.atI xs i = _
  rw [atI_ok h0 (by omega), e], h⟩
theorem ed_ixL {d : D} (h0 : 0 ≤ i) (e : xs[i.toNat]? = some d) (h : Q d) : Ed (dIx (.list xs) (.int i)) Q := ⟨d, by
  have hl := (List.getElem?_eq_some_iff.mp e).1
  show L2.atI xs i = _
  rw [atI_ok h0 (by omega), e], h⟩
theorem ed_at {d : D} {Q : D → Prop} (h0 : 0 ≤ i) (e : xs[i.toNat]? = some d) (h : Q d) : Ed (L2.atI xs i) Q := ed_ixT h0 e h
theorem ed_slT {lo hi : Option Int} (h : Q (.tuple (cutL xs lo hi))) : Ed (dSl (.tuple xs) lo hi) Q := ⟨_, rfl, h⟩
theorem ed_slL {lo hi : Option Int} (h : Q (.list (cutL xs lo hi))) : Ed (dSl (.list xs) lo hi) Q := ⟨_, rfl, h⟩
theorem ed_lenT (h : Q (.int xs.length)) : Ed (dLen [.tuple xs]) Q := ⟨_, rfl, h⟩
theorem ed_lenL (h : Q (.int xs.length)) : Ed (dLen [.list xs]) Q := ⟨_, rfl, h⟩
theorem ed_lenS {x : Str} (h : Q (.int x.length)) : Ed (dLen [.str x]) Q := ⟨_, rfl, h⟩
theorem ed_inS {c : Nat} {y : Str} (h : Q (.bool (decide (c ∈ y.cps.toList)))) : Ed (dIn (.str ⟨#[c]⟩) (.str y)) Q := ⟨_, by simp only [dIn]; rw [PySem.StrLaws.found_one], h⟩
theorem ed_powI (l : L2.CPow i j) (h : Q (.int (i ^ j.toNat))) : Ed (dPow (.int i) (.int j)) Q := ⟨_, by simp only [dPow, if_pos l], h⟩
theorem ed_neg (h : Q (.int (-i))) : Ed (dNeg (.int i)) Q := ⟨_, rfl, h⟩
theorem ed_max (h : Q (.int (max i j))) : Ed (dMax2 [.int i, .int j]) Q := ⟨_, rfl, by
  have : (if j > i then j else i) = max i j := by split <;> omega
  rw [this]; exact h⟩
theorem ed_min (h : Q (.int (min i j))) : Ed (dMin2 [.int i, .int j]) Q := ⟨_, rfl, by
  have : (if j < i then j else i) = min i j := by split <;> omega
  rw [this]; exact h⟩
theorem ed_intB {b : Bool} (h : Q (.int (if b then 1 else 0))) : Ed (dInt [.bool b]) Q := ⟨_, rfl, h⟩
theorem ed_ixS {x : Str} {c : Nat} (h0 : 0 ≤ i) (e : x.cps.toList[i.toNat]? = some c) (h : Q (ch c)) : Ed (dIx (.str x) (.int i)) Q := ⟨_, by
  have hl := (List.getElem?_eq_some_iff.mp e).1
  show (L2.atI x.cps.toList i).bind _ = _
  rw [atI_ok h0 (by omega), e]; rfl, h⟩
theorem ed_itT {Q : List D → Prop} (h : Q xs) : Ed (itemsOf (.tuple xs)) Q := ⟨_, rfl, h⟩
theorem ed_itL {Q : List D → Prop} (h : Q xs) : Ed (itemsOf (.list xs)) Q := ⟨_, rfl, h⟩
theorem ed_tupL (h : Q (.tuple xs)) : Ed (dTuple [.list xs]) Q := ⟨_, rfl, h⟩
theorem ed_tupT (h : Q (.tuple xs)) : Ed (dTuple [.tuple xs]) Q := ⟨_, rfl, h⟩
theorem ed_listL (h : Q (.list xs)) : Ed (dList [.list xs]) Q := ⟨_, rfl, h⟩
theorem ed_listT (h : Q (.list xs)) : Ed (dList [.tuple xs]) Q := ⟨_, rfl, h⟩
end
theorem allBools_fn {α : Type} (f : α → Bool) : ∀ xs : List α, allBools (xs.map fun a => .bool (f a)) = some (xs.map f)
  | [] => rfl
  | a :: xs => by simp [allBools, allBools_fn f xs]
theorem all_map {α : Type} (f : α → Bool) (xs : List α) : dAll [.list (xs.map fun a => .bool (f a))] = some (.bool (xs.all f)) := by
  simp only [dAll, allBools_fn, Option.bind_some]; rw [List.all_map]; rfl
theorem cut_to {α : Type} {xs : List α} {i : Int} (h : 0 ≤ i) : cutL xs none (some i) = xs.take i.toNat := by
  unfold cutL HT.sIx
  simp only [if_neg (show ¬ i < 0 by omega), List.drop_zero, Nat.sub_zero]
  rw [← List.take_take]
  simp [Nat.min_def]
theorem cut_from {α : Type} {xs : List α} {i : Int} (h : 0 ≤ i) : cutL xs (some i) none = xs.drop i.toNat := by
  unfold cutL HT.sIx
  simp only [if_neg (show ¬ i < 0 by omega)]
  by_cases l : i.toNat ≤ xs.length
  · rw [Nat.min_eq_left l, List.take_of_length_le (by simp)]
  · rw [Nat.min_eq_right (by omega), List.drop_of_length_le (Nat.le_refl _), List.drop_of_length_le (by omega), List.take_nil]
/-! ### comprehensions of two clauses -/
theorem wipe_sub {sl : List (Option R)} {ws vs : List Nat} (h : ∀ v ∈ ws, v ∈ vs) : wipeS (wipeS sl ws) vs = wipeS sl vs := by
  apply List.ext_getElem?
  intro n
  by_cases hn : n ∈ vs
  · rw [wipeS_in' hn, wipeS_in' hn, wipeS_len]
  · rw [wipeS_out hn, wipeS_out hn, wipeS_out fun z => hn (h n z)]
theorem ev_varO {sl : List (Option R)} {os : List (Option Cell)} {i : Nat} {Q : D → Sx → Prop} (h : ∃ j cs, sl[i]? = some (some (.own j)) ∧ os[j]? = some (some (.lst cs)) ∧ Q (.list cs) ⟨sl.set i (some (.dat (.list cs))), os.set j none⟩) : Ev (gVar i ⟨sl, os⟩) Q := by
  obtain ⟨j, cs, e1, e2, h⟩ := h
  exact ⟨_, _, by unfold gVar; simp only [e1, e2], h⟩
theorem ed_pick {Q P : D → Prop} {xs : List D} {i : Int} (h0 : 0 ≤ i) (h1 : i < xs.length) (hp : ∀ x ∈ xs, P x) (h : ∀ x, P x → Q x) : Ed (dIx (.list xs) (.int i)) Q := by
  have hl : i.toNat < xs.length := by omega
  exact ed_ixL h0 (List.getElem?_eq_getElem hl) (h _ (hp _ (List.getElem_mem hl)))
theorem ed_pickS {Q : D → Prop} {P : Nat → Prop} {x : Str} {i : Int} (h0 : 0 ≤ i) (h1 : i < x.length) (hp : ∀ c ∈ x.cps.toList, P c) (h : ∀ c, P c → Q (ch c)) : Ed (dIx (.str x) (.int i)) Q := by
  have hl : i.toNat < x.cps.toList.length := by
    have : x.cps.toList.length = x.length := Array.length_toList
    omega
  exact ed_ixS h0 (List.getElem?_eq_getElem hl) (h _ (hp _ (List.getElem_mem hl)))
open Classical in
open Classical in
/-! ### comprehensions whose item changes the lists -/
/-! ### how many unlike ones -/
theorem ev_listRng1 {S : Sx} {Q : D → Sx → Prop} {g : M D} (h : Ev (g S) fun d S1 => ∃ n : Int, d = .int n ∧ -4611686018427387904 ≤ n ∧ n ≤ 16777216 ∧ Q (.list (rng 0 n.toNat)) S1) : Ev (gListRng1 g S) Q := by
  obtain ⟨ds, S1, e1, n, rfl, l1, l2, q⟩ := h
  exact ⟨_, S1, by simp only [gListRng1, e1, Option.bind_some]; rw [if_pos ⟨by omega, by omega⟩], q⟩
theorem ev_OL {sl : List (Option R)} {os : List (Option Cell)} {i : Nat} {f : D → D → Option D} {gb : M D} {Q : D → Sx → Prop} (h : ∃ j cs0, sl[i]? = some (some (.own j)) ∧ os[j]? = some (some (.lst cs0)) ∧ Ev (gb ⟨sl, os⟩) fun d S1 => ∃ cs, S1.os[j]? = some (some (.lst cs)) ∧ Ed (f (.list cs) d) fun z => ∃ b, z = .bool b ∧ Q (.bool b) S1) : Ev (gOL f i gb ⟨sl, os⟩) Q := by
  obtain ⟨j, cs0, h1, h2, d, S1, e1, cs, h3, z, e2, b, rfl, q⟩ := h
  exact ⟨_, _, by simp only [gOL, ownOf, cellOf, h1, h2, e1, h3, e2, Option.bind_some], q⟩
theorem ev_OR {S : Sx} {i : Nat} {f : D → D → Option D} {gb : M D} {Q : D → Sx → Prop} (h : Ev (gb S) fun d S1 => ∃ j cs, S1.sl[i]? = some (some (.own j)) ∧ S1.os[j]? = some (some (.lst cs)) ∧ Ed (f d (.list cs)) fun z => ∃ b, z = .bool b ∧ Q (.bool b) S1) : Ev (gOR f gb i S) Q := by
  obtain ⟨d, S1, e1, j, cs, h1, h2, z, e2, b, rfl, q⟩ := h
  exact ⟨_, _, by simp only [gOR, ownOf, cellOf, h1, h2, e1, e2, Option.bind_some], q⟩
theorem ev_popAt {S : Sx} {i : Nat} {ge : M D} {Q : D → Sx → Prop} (hi : ∃ j cs0, S.sl[i]? = some (some (.own j)) ∧ S.os[j]? = some (some (.lst cs0)) ∧ Ev (ge S) fun d S1 => ∃ cs n, S1.os[j]? = some (some (.lst cs)) ∧ d = .int n ∧ 0 ≤ n ∧ ∃ e, cs[n.toNat]? = some e ∧ Q e ⟨S1.sl, S1.os.set j (some (.lst (cs.eraseIdx n.toNat)))⟩) : Ev (gPopAt i ge S) Q := by
  obtain ⟨j, cs0, h1, h2, d, S1, e1, cs, n, h3, rfl, n0, e, he, q⟩ := hi
  have hl := (List.getElem?_eq_some_iff.mp he).1
  refine ⟨e, _, ?_, q⟩
  simp only [gPopAt, ownOf, cellOf, h1, h2, e1, h3, Option.bind_some, setCell]
  rw [if_pos ⟨n0, by omega⟩, he]; rfl
theorem ev_rep {S : Sx} {f : D → D → Option D} {ga gb : M D} {Q : D → Sx → Prop} (h : Ev (gBin f ga gb S) fun d S1 => ∃ ds, d = .list ds ∧ Q (.list ds) S1) : Ev (gRep f ga gb S) Q := by
  obtain ⟨d, S1, e1, ds, rfl, q⟩ := h
  exact ⟨_, _, by simp only [gRep, e1, Option.bind_some], q⟩
end Fu

set_option maxHeartbeats 16000000
namespace Lw
open PySem PySem.Spec PyProof.Rows L2 RZ Fu
def g_is_whole : Sx → Option Out :=
  (qRet (gAndV (gIsi "int" (gVar 0)) (gAndV (gNotV (gIsi "bool" (gVar 0))) (gBin dGe (gVar 0) (gC (.int 0))))))
def m_is_whole := mF 1 g_is_whole
def g_is_row : Sx → Option Out :=
  (qRet (gAndV (gIsi2 "list" "tuple" (gVar 0)) (gBin dEq (gCall dLen (gCons (gVar 0) gNil)) (gVar 1))))
def m_is_row := mF 2 g_is_row
def g_is_company : Sx → Option Out :=
  (qRet (gAndV (gIsi "str" (gVar 0)) (gAndV (gBin dEq (gCall dLen (gCons (gVar 0) gNil)) (gC (.int 1))) (gBin dIn (gVar 0) (gC (.str "abcdefghijklmnopqrstuvwxyz"))))))
def m_is_company := mF 1 g_is_company
def g_need_place : Sx → Option Out :=
  (qIf (gOr (gNot (gB (gCallF 1 m_is_whole (gCons (gVar 1) gNil)))) (gB (gBin dGe (gVar 1) (gBin dIx (gVar 0) (gC (.int 0)))))) qNone qNx)
def m_need_place := mF 2 g_need_place
def g_all_ends : Sx → Option Out :=
  (qRet (gLc2 (gRng1 (gCons (gCall dLen (gCons (gBin dIx (gVar 0) (gC (.int 1))) gNil)) gNil)) (sName 1) gYes (gRng1 (gCons (gC (.int 2)) gNil)) (sName 2) gYes (gTup (gCons (gVar 1) (gCons (gVar 2) gNil))) [1, 2] [2]))
def m_all_ends := mF 3 g_all_ends
def g_place_of : Sx → Option Out :=
  (qRet (gBin dIx (gBin dIx (gBin dIx (gVar 0) (gC (.int 1))) (gBin dIx (gVar 1) (gC (.int 0)))) (gBin dIx (gVar 1) (gC (.int 1)))))
def m_place_of := mF 2 g_place_of
def g_ends_at : Sx → Option Out :=
  (qSeq (qDrop (gCallF 2 m_need_place (gCons (gVar 0) (gCons (gVar 1) gNil)))) (qRet (gLc (gItems (gCallF 1 m_all_ends (gCons (gVar 0) gNil))) (sName 2) (gB (gBin dEq (gCallF 2 m_place_of (gCons (gVar 0) (gCons (gVar 2) gNil))) (gVar 1))) (gVar 2) [2])))
def m_ends_at := mF 3 g_ends_at
def g_hangs_on : Sx → Option Out :=
  (qSeq (qSet 3 (gLc2 (gItems (gVar 1)) (sName 4) gYes (gItems (gSl (gBin dIx (gBin dIx (gVar 0) (gC (.int 1))) (gVar 4)) gNo (gSo (gC (.int 2))))) (sName 5) gYes (gVar 5) [4, 5] [5])) (qRet (gCall dAny (gCons (gLc (gItems (gSl (gBin dIx (gBin dIx (gVar 0) (gC (.int 1))) (gVar 2)) gNo (gSo (gC (.int 2))))) (sName 5) gYes (gBin dIn (gVar 5) (gVar 3)) [5]) gNil))))
def m_hangs_on := mF 6 g_hangs_on
def g_parts_of : Sx → Option Out :=
  (qSeq (qOwn 1 (gLst gNil)) (qSeq (qSet 2 (gListRng1 (gCall dLen (gCons (gBin dIx (gVar 0) (gC (.int 1))) gNil)))) (qSeq (gWhile (gB (gBin dNe (gVar 2) (gLst gNil))) (qSeq (qOwn 3 (gLst gNil)) (qSeq (qSet 4 (gSl (gVar 2) gNo (gSo (gC (.int 1))))) (qSeq (gWhile (gB (gBin dNe (gVar 4) (gLst gNil))) (qSeq (qAugL 3 (gVar 4)) (qSeq (qSet 2 (gLc (gItems (gVar 2)) (sName 5) (gB (gBin dNotIn (gVar 5) (gVar 4))) (gVar 5) [5])) (qSet 4 (gViewN (gLc (gItems (gVar 2)) (sName 5) (gB (gCallF 3 m_hangs_on (gCons (gVar 0) (gCons (gVar 3) (gCons (gVar 5) gNil))))) (gVar 5) [5]))))) 100000) (qDrop (gApp 1 (gCall dSorted (gCons (gVar 3) gNil))))))) 100000) (qRet (gVar 1)))))
def m_parts_of := mF 6 g_parts_of
def g_company_of : Sx → Option Out :=
  (qRet (gBin dIx (gBin dIx (gBin dIx (gVar 0) (gC (.int 1))) (gBin dIx (gVar 1) (gC (.int 0)))) (gC (.int 2))))
def m_company_of := mF 2 g_company_of
def g__law_spring : Sx → Option Out :=
  (qSeq (qSet 1 (gC (.int 0))) (qSeq (qSet 2 (gC (.int 88651))) (qSeq (qFor (gItems (gScrSl 0 gNo (gSo (gC (.int 63))))) (sName 3) (qSeq (qIf (gB (gBin dGe (gCall dAbs (gCons (gVar 3) gNil)) (gBin dPow (gC (.int 10)) (gC (.int 18))))) (qSet 1 (gBin dAdd (gBin dMul (gVar 1) (gBin dPow (gC (.int 10)) (gC (.int 60)))) (gBin dMod (gCall dAbs (gCons (gVar 3) gNil)) (gBin dPow (gC (.int 10)) (gC (.int 60)))))) qNx) (qSet 2 (gBin dMod (gBin dAdd (gBin dAdd (gBin dMul (gVar 2) (gC (.int 69069))) (gBin dMod (gVar 3) (gC (.int 2305843009213693921)))) (gC (.int 7))) (gC (.int 2305843009213693951)))))) (qRetO (gLst (gCons (gVar 1) (gCons (gVar 2) (gCons (gC (.int 0)) gNil))))))))
def m__law_spring := mScrN 4 g__law_spring
def g__law_draw_k15 : Sx → Option Out :=
  (qSeq (qIf (gB (gBin dGt (gIxO 0 (gC (.int 0))) (gC (.int 0)))) (qSeq (qSet 2 (gBin dMod (gIxO 0 (gC (.int 0))) (gVar 1))) (qSeq (qSetO 0 (gC (.int 0)) (gBin dDiv (gIxO 0 (gC (.int 0))) (gVar 1))) (qRet (gVar 2)))) qNx) (qSeq (qSetO 0 (gC (.int 2)) (gBin dAdd (gIxO 0 (gC (.int 2))) (gC (.int 1)))) (qSeq (qSet 3 (gBin dMod (gBin dMul (gIxO 0 (gC (.int 1))) (gIxO 0 (gC (.int 1)))) (gC (.int 2305843009213693951)))) (qSeq (qSetO 0 (gC (.int 1)) (gBin dMod (gBin dAdd (gBin dAdd (gVar 3) (gBin dMul (gBin dMul (gC (.int 7919)) (gIxO 0 (gC (.int 2)))) (gIxO 0 (gC (.int 1))))) (gC (.int 104729))) (gC (.int 2305843009213693951)))) (qRet (gBin dMod (gBin dDiv (gIxO 0 (gC (.int 1))) (gC (.int 65537))) (gVar 1)))))))
def m__law_draw_k15 := mIO 4 g__law_draw_k15
def g__law_web : Sx → Option Out :=
  (qSeq (qSet 2 (gBin dAdd (gC (.int 1)) (gIO 0 1 m__law_draw_k15 (gCons (gBin dIx (gLst (gCons (gC (.int 2)) (gCons (gC (.int 3)) (gCons (gC (.int 5)) (gCons (gC (.int 24)) gNil))))) (gIO 0 1 m__law_draw_k15 (gCons (gC (.int 4)) gNil))) gNil)))) (qSeq (qSet 3 (gBin dIx (gLst (gCons (gC (.str "a")) (gCons (gC (.str "ab")) (gCons (gC (.str "aab")) (gCons (gC (.str "abc")) (gCons (gC (.str "abcdz")) (gCons (gC (.str "abcdefghijklmnopqrstuvwxyz")) gNil))))))) (gIO 0 1 m__law_draw_k15 (gCons (gC (.int 6)) gNil)))) (qSeq (qOwn 4 (gLst gNil)) (qSeq (qFor (gRng1 (gCons (gIO 0 1 m__law_draw_k15 (gCons (gBin dAdd (gVar 1) (gC (.int 1))) gNil)) gNil)) (sName 5) (qSeq (qSet 6 (gIO 0 1 m__law_draw_k15 (gCons (gVar 2) gNil))) (qSeq (qSet 7 (gBin dIx (gLst (gCons (gIO 0 1 m__law_draw_k15 (gCons (gVar 2) gNil)) (gCons (gVar 6) (gCons (gBin dMod (gBin dAdd (gVar 6) (gC (.int 1))) (gVar 2)) gNil)))) (gBin dIx (gLst (gCons (gC (.int 0)) (gCons (gC (.int 0)) (gCons (gC (.int 1)) (gCons (gC (.int 2)) gNil))))) (gIO 0 1 m__law_draw_k15 (gCons (gC (.int 4)) gNil))))) (qDrop (gApp 4 (gTup (gCons (gVar 6) (gCons (gVar 7) (gCons (gBin dIx (gVar 3) (gIO 0 1 m__law_draw_k15 (gCons (gCall dLen (gCons (gVar 3) gNil)) gNil))) gNil))))))))) (qRet (gTup (gCons (gVar 2) (gCons (gCall dTuple (gCons (gVar 4) gNil)) gNil))))))))
def m__law_web := mIO 8 g__law_web
def g__law_all_ends : Sx → Option Out :=
  (qRet (gLc (gRng1 (gCons (gBin dMul (gC (.int 2)) (gCall dLen (gCons (gBin dIx (gVar 0) (gC (.int 1))) gNil))) gNil)) (sName 1) gYes (gTup (gCons (gBin dDiv (gVar 1) (gC (.int 2))) (gCons (gBin dMod (gVar 1) (gC (.int 2))) gNil))) [1]))
def m__law_all_ends := mF 2 g__law_all_ends
def g__law_lists (self : List D → Option D) : Sx → Option Out :=
  (qRet (gIf (gB (gIsi2 "list" "tuple" (gVar 0))) (gLc (gItems (gVar 0)) (sName 1) gYes (gCallF 1 self (gCons (gVar 1) gNil)) [1]) (gVar 0)))
def m__law_lists : Nat → List D → Option D
  | 0 => fun _ => none
  | n + 1 => mF 2 (g__law_lists (m__law_lists n))
def g__law_handed : Sx → Option Out :=
  (qRet (gIf (gB (gBin dGt (gIO 0 1 m__law_draw_k15 (gCons (gC (.int 3)) gNil)) (gC (.int 0)))) (gVar 1) (gCallF 1 (m__law_lists 8) (gCons (gVar 1) gNil))))
def m__law_handed := mIO 2 g__law_handed
def g__law_signs : Sx → Option Out :=
  (qRet (gLc (gItems (gCallF 1 m__law_all_ends (gCons (gVar 0) gNil))) (sTup 2 (sCons (sName 2) (sCons (sName 3) sNil))) (gB (gBin dEq (gBin dIx (gBin dIx (gBin dIx (gVar 0) (gC (.int 1))) (gVar 2)) (gVar 3)) (gVar 1))) (gBin dIx (gBin dIx (gBin dIx (gVar 0) (gC (.int 1))) (gVar 2)) (gC (.int 2))) [2, 3]))
def m__law_signs := mF 4 g__law_signs
def g__law_parts_k25 : Sx → Option Out :=
  (qSeq (qOwn 1 (gListRng1 (gBin dIx (gVar 0) (gC (.int 0))))) (qSeq (qFor (gRng1 (gCons (gBin dIx (gVar 0) (gC (.int 0))) gNil)) (sName 2) (qFor (gItems (gBin dIx (gVar 0) (gC (.int 1)))) (sTup 3 (sCons (sName 3) (sCons (sName 4) (sCons (sName 5) sNil)))) (qSeq (qSet 6 (gCall dMin2 (gCons (gIxO 1 (gVar 3)) (gCons (gIxO 1 (gVar 4)) gNil)))) (qAsg (sTup 2 (sCons (sIxO 1 (gVar 3)) (sCons (sIxO 1 (gVar 4)) sNil))) (gTup (gCons (gVar 6) (gCons (gVar 6) gNil))))))) (qSeq (qSet 7 (gCall dSortSet (gCons (gLc (gItems (gBin dIx (gVar 0) (gC (.int 1)))) (sName 8) gYes (gIxO 1 (gBin dIx (gVar 8) (gC (.int 0)))) [8]) gNil))) (qRet (gLc (gItems (gVar 7)) (sName 9) gYes (gLc (gRng1 (gCons (gBin dIx (gVar 0) (gC (.int 0))) gNil)) (sName 10) (gB (gBin dEq (gIxO 1 (gVar 10)) (gVar 9))) (gVar 10) [10]) [9])))))
def m__law_parts_k25 := mF 11 g__law_parts_k25
def g_rides_for : Sx → Option Out :=
  (qRet (gCall dMax2 (gCons (gC (.int 1)) (gCons (gBin dDiv (gBin dAdd (gVar 0) (gC (.int 1))) (gC (.int 2))) gNil))))
def m_rides_for := mF 1 g_rides_for
def g_places_of_part : Sx → Option Out :=
  (qRet (gCall dSortSet (gCons (gLc2 (gItems (gVar 1)) (sName 2) gYes (gItems (gSl (gBin dIx (gBin dIx (gVar 0) (gC (.int 1))) (gVar 2)) gNo (gSo (gC (.int 2))))) (sName 3) gYes (gVar 3) [2, 3] [3]) gNil)))
def m_places_of_part := mF 4 g_places_of_part
def g__law_shown : Sx → Option Out :=
  (qSeq (qSet 3 (gCallF 2 m__law_signs (gCons (gVar 0) (gCons (gVar 1) gNil)))) (qSeq (qIf (gB (gBin dEq (gVar 2) (gC (.str "odd")))) (qRet (gBin dMod (gCall dLen (gCons (gVar 3) gNil)) (gC (.int 2)))) qNx) (qRet (gCall dMax2 (gCons (gC (.int 0)) (gCons (gBin dSub (gBin dMul (gC (.int 2)) (gBin dCount (gVar 3) (gVar 2))) (gCall dLen (gCons (gVar 3) gNil))) gNil))))))
def m__law_shown := mF 4 g__law_shown
def g__law_paper : Sx → Option Out :=
  (qSeq (qOwn 2 (gLst gNil)) (qSeq (qFor (gRng1 (gCons (gBin dIx (gVar 1) (gC (.int 0))) gNil)) (sName 3) (qSeq (qSet 4 (gLc (gItems (gLst (gCons (gC (.str "a")) (gCons (gC (.str "b")) (gCons (gC (.str "c")) (gCons (gC (.str "d")) (gCons (gC (.str "z")) (gCons (gC (.str "odd")) gNil)))))))) (sName 5) (gB (gBin dGt (gCallF 3 m__law_shown (gCons (gVar 1) (gCons (gVar 3) (gCons (gVar 5) gNil)))) (gC (.int 0)))) (gVar 5) [5])) (qIf (gAnd (gB (gBin dNe (gVar 4) (gLst gNil))) (gB (gBin dGt (gIO 0 1 m__law_draw_k15 (gCons (gC (.int 3)) gNil)) (gC (.int 0))))) (qDrop (gApp 2 (gTup (gCons (gVar 3) (gCons (gBin dIx (gVar 4) (gIO 0 1 m__law_draw_k15 (gCons (gCall dLen (gCons (gVar 4) gNil)) gNil))) gNil))))) qNx))) (qSeq (qIf (gB (gBin dEq (gIO 0 1 m__law_draw_k15 (gCons (gC (.int 3)) gNil)) (gC (.int 0)))) (qDrop (gApp 2 (gTup (gCons (gBin dSub (gIO 0 1 m__law_draw_k15 (gCons (gBin dAdd (gBin dIx (gVar 1) (gC (.int 0))) (gC (.int 2))) gNil)) (gC (.int 1))) (gCons (gBin dIx (gLst (gCons (gC (.str "a")) (gCons (gC (.str "b")) (gCons (gC (.str "z")) (gCons (gC (.str "odd")) (gCons (gC (.str "q")) gNil)))))) (gIO 0 1 m__law_draw_k15 (gCons (gC (.int 5)) gNil))) gNil))))) qNx) (qRet (gLc (gRng1 (gCons (gLenO 2) gNil)) (sName 6) gYes (gPopAt 2 (gIO 0 1 m__law_draw_k15 (gCons (gLenO 2) gNil))) [6])))))
def m__law_paper := mIO 7 g__law_paper
def g_shown_at : Sx → Option Out :=
  (qSeq (qSet 3 (gCallF 2 m_ends_at (gCons (gVar 0) (gCons (gVar 1) gNil)))) (qSeq (qIf (gB (gBin dEq (gVar 2) (gC (.str "odd")))) (qRet (gBin dMod (gCall dLen (gCons (gVar 3) gNil)) (gC (.int 2)))) qNx) (qRet (gCall dMax2 (gCons (gC (.int 0)) (gCons (gBin dSub (gBin dMul (gC (.int 2)) (gCall dLen (gCons (gLc (gItems (gVar 3)) (sName 4) (gB (gBin dEq (gCallF 2 m_company_of (gCons (gVar 0) (gCons (gVar 4) gNil))) (gVar 2))) (gVar 4) [4]) gNil))) (gCall dLen (gCons (gVar 3) gNil))) gNil))))))
def m_shown_at := mF 5 g_shown_at
def g_is_reason : Sx → Option Out :=
  (qSeq (qIf (gOr (gNot (gB (gCallF 2 m_is_row (gCons (gVar 1) (gCons (gC (.int 2)) gNil))))) (gOr (gNot (gB (gCallF 1 m_is_whole (gCons (gBin dIx (gVar 1) (gC (.int 0))) gNil)))) (gB (gBin dGe (gBin dIx (gVar 1) (gC (.int 0))) (gBin dIx (gVar 0) (gC (.int 0))))))) (qRet (gC (.bool false))) qNx) (qSeq (qIf (gAnd (gNot (gB (gCallF 1 m_is_company (gCons (gBin dIx (gVar 1) (gC (.int 1))) gNil)))) (gNot (gAnd (gB (gIsi "str" (gBin dIx (gVar 1) (gC (.int 1))))) (gB (gBin dEq (gBin dIx (gVar 1) (gC (.int 1))) (gC (.str "odd"))))))) (qRet (gC (.bool false))) qNx) (qRet (gBin dGt (gCallF 3 m_shown_at (gCons (gVar 0) (gCons (gBin dIx (gVar 1) (gC (.int 0))) (gCons (gBin dIx (gVar 1) (gC (.int 1))) gNil)))) (gC (.int 0))))))
def m_is_reason := mF 2 g_is_reason
def g_shown_by : Sx → Option Out :=
  (qSeq (qIf (gOr (gNot (gB (gIsi2 "list" "tuple" (gVar 1)))) (gNot (gB (gCall dAll (gCons (gLc (gItems (gVar 1)) (sName 3) gYes (gCallF 2 m_is_reason (gCons (gVar 0) (gCons (gVar 3) gNil))) [3]) gNil))))) (qRet (gC .none)) qNx) (qSeq (qSetD 2 (gDc (gItems (gVar 1)) (sSeq 2 (sCons (sName 4) (sCons (sName 5) sNil))) gYes (gVar 4) (gCallF 3 m_shown_at (gCons (gVar 0) (gCons (gVar 4) (gCons (gVar 5) gNil)))) [4, 5])) (qSeq (qIf (gB (gBin dNe (gLenD 2) (gCall dLen (gCons (gVar 1) gNil)))) (qRet (gC .none)) qNx) (qRet (gCall dSum (gCons (gLc (gItems (gCallF 1 m_parts_of (gCons (gVar 0) gNil))) (sName 6) gYes (gCallF 1 m_rides_for (gCons (gCall dSum (gCons (gLc (gItems (gCallF 2 m_places_of_part (gCons (gVar 0) (gCons (gVar 6) gNil)))) (sName 4) gYes (gDGet 2 (gVar 4) (gC (.int 0))) [4]) gNil)) gNil)) [6]) gNil))))))
def m_shown_by := mF 7 g_shown_by
def g__law_number : Sx → Option Out :=
  (qSeq (qSet 2 (gLc (gItems (gVar 1)) (sTup 2 (sCons (sName 4) (sCons (sName 5) sNil))) gYes (gVar 4) [4, 5])) (qSeq (qIf (gB (gBin dNe (gLc (gItems (gVar 2)) (sName 4) (gOr (gNot (gB (gChain dLe dLt (gC (.int 0)) (gVar 4) (gBin dIx (gVar 0) (gC (.int 0)))))) (gB (gBin dGt (gBin dCount (gVar 2) (gVar 4)) (gC (.int 1))))) (gVar 4) [4]) (gLst gNil))) (qRet (gC .none)) qNx) (qSeq (qSetD 3 (gDictP (gCons (gLc (gItems (gVar 1)) (sTup 2 (sCons (sName 4) (sCons (sName 5) sNil))) gYes (gTup (gCons (gVar 4) (gCons (gCallF 3 m__law_shown (gCons (gVar 0) (gCons (gVar 4) (gCons (gVar 5) gNil)))) gNil))) [4, 5]) gNil))) (qSeq (qIf (gB (gInV (gC (.int 0)) 3)) (qRet (gC .none)) qNx) (qRet (gCall dSum (gCons (gLc (gItems (gCallF 1 m__law_parts_k25 (gCons (gVar 0) gNil))) (sName 6) gYes (gCall dMax2 (gCons (gC (.int 1)) (gCons (gBin dDiv (gBin dAdd (gCall dSum (gCons (gLc (gItems (gVar 6)) (sName 4) gYes (gDGet 3 (gVar 4) (gC (.int 0))) [4]) gNil)) (gC (.int 1))) (gC (.int 2))) gNil))) [6]) gNil)))))))
def m__law_number := mF 7 g__law_number
end Lw

set_option maxHeartbeats 4000000
namespace Fu
open PySem
/-! ### comprehensions over typed items -/
theorem turns_typed {α : Type} {gg : D → Sx → Option Sx} {gt : M Bool} {ge : M D} {vs : List Nat} {b : α → Bool} {enc f : α → D} {w : List (Option R)} {os : List (Option Cell)} :
    ∀ (xs : List α) (sl : List (Option R)), wipeS sl vs = w → (∀ x ∈ xs, ∃ sl1, gg (enc x) ⟨w, os⟩ = some ⟨sl1, os⟩ ∧ wipeS sl1 vs = w ∧ gt ⟨sl1, os⟩ = some (b x, ⟨sl1, os⟩) ∧ (b x = true → ge ⟨sl1, os⟩ = some (f x, ⟨sl1, os⟩))) →
      ∃ sl', wipeS sl' vs = w ∧ gTurns gg gt ge vs (xs.map enc) ⟨sl, os⟩ = some ((xs.filter b).map f, ⟨sl', os⟩)
  | [], sl, e, _ => ⟨sl, e, rfl⟩
  | x :: xs, sl, e, h => by
    obtain ⟨sl1, h1, h2, h3, h4⟩ := h x List.mem_cons_self
    obtain ⟨sl', e', ih⟩ := turns_typed xs sl1 h2 fun y hy => h y (List.mem_cons_of_mem _ hy)
    refine ⟨sl', e', ?_⟩
    rw [List.map_cons, gTurns]
    simp only [e, h1, h3, Option.bind_some]
    cases hb : b x with
    | true => simp [h4 hb, ih, hb]
    | false => simp [ih, hb]
theorem ev_lcX {α : Type} {S : Sx} {Q : D → Sx → Prop} {gi : M (List D)} {gg : D → Sx → Option Sx} {gt : M Bool} {ge : M D} {vs : List Nat} {xs : List α} {enc : α → D} {b : α → Bool} {g : α → D}
    (h : Ev (gi S) fun ds S1 => ds = xs.map enc ∧ (∀ x ∈ xs, Es (gg (enc x) ⟨wipeS S1.sl vs, S1.os⟩) fun S2 => wipeS S2.sl vs = wipeS S1.sl vs ∧ S2.os = S1.os ∧ Ev (gt S2) fun c S3 => S3 = S2 ∧ c = b x ∧ (b x = true → Ev (ge S2) fun e S4 => e = g x ∧ S4 = S2)) ∧ Q (.list ((xs.filter b).map g)) S1) : Ev (gLc gi gg gt ge vs S) Q := by
  obtain ⟨ds, ⟨sl1, os1⟩, e1, rfl, h1, q⟩ := h
  obtain ⟨sl', e', ht⟩ := turns_typed (gg := gg) (gt := gt) (ge := ge) (b := b) (enc := enc) (f := g) xs sl1 rfl fun d hd => by
    obtain ⟨⟨sl2, os2⟩, e2, e3, e4, c, S3, e5, e6, e7, e8⟩ := h1 d hd
    cases e4
    subst e7 e6
    exact ⟨sl2, e2, e3, e5, fun hb => (e8 hb).eq⟩
  refine ⟨_, _, ?_, q⟩
  unfold gLc
  rw [e1]
  simp only [Option.bind_some, ht, backS_same e']
theorem ev_mapX {α : Type} {S : Sx} {Q : D → Sx → Prop} {gi : M (List D)} {gg : D → Sx → Option Sx} {ge : M D} {vs : List Nat} {xs : List α} {enc : α → D} {g : α → D}
    (h : Ev (gi S) fun ds S1 => ds = xs.map enc ∧ (∀ x ∈ xs, Es (gg (enc x) ⟨wipeS S1.sl vs, S1.os⟩) fun S2 => wipeS S2.sl vs = wipeS S1.sl vs ∧ S2.os = S1.os ∧ Ev (ge S2) fun e S4 => e = g x ∧ S4 = S2) ∧ Q (.list (xs.map g)) S1) : Ev (gLc gi gg gYes ge vs S) Q := by
  refine ev_lcX (xs := xs) (enc := enc) (b := fun _ => true) (g := g) ?_
  refine h.mono fun ds S1 h => ⟨h.1, fun d hd => ?_, by rw [List.filter_eq_self.mpr fun _ _ => rfl]; exact h.2.2⟩
  obtain ⟨S2, e2, e3, e4, e5⟩ := h.2.1 d hd
  exact ⟨S2, e2, e3, e4, ev_yes ⟨rfl, rfl, fun _ => e5⟩⟩
/-- two clauses, typed -/
theorem turns2_typed {α β : Type} {gg : D → Sx → Option Sx} {gt : M Bool} {gi1 : M (List D)} {gg1 : D → Sx → Option Sx} {gt1 : M Bool} {ge : M D} {vs vs1 : List Nat} {b : α → Bool} {enc : α → D} {es : α → List β} {enc1 : α → β → D} {b1 : α → β → Bool} {f : α → β → D} {w : List (Option R)} {os : List (Option Cell)} (hv : ∀ v ∈ vs1, v ∈ vs) :
    ∀ (xs : List α) (sl : List (Option R)), wipeS sl vs = w → (∀ d ∈ xs, ∃ sl1, gg (enc d) ⟨w, os⟩ = some ⟨sl1, os⟩ ∧ wipeS sl1 vs = w ∧ gt ⟨sl1, os⟩ = some (b d, ⟨sl1, os⟩) ∧ (b d = true → gi1 ⟨sl1, os⟩ = some ((es d).map (enc1 d), ⟨sl1, os⟩) ∧
        ∀ e ∈ es d, ∃ sl2, gg1 (enc1 d e) ⟨wipeS sl1 vs1, os⟩ = some ⟨sl2, os⟩ ∧ wipeS sl2 vs1 = wipeS sl1 vs1 ∧ gt1 ⟨sl2, os⟩ = some (b1 d e, ⟨sl2, os⟩) ∧ (b1 d e = true → ge ⟨sl2, os⟩ = some (f d e, ⟨sl2, os⟩)))) →
      ∃ sl', wipeS sl' vs = w ∧ gTurns2 gg gt gi1 gg1 gt1 ge vs vs1 (xs.map enc) ⟨sl, os⟩ = some ((xs.filter b).flatMap (fun d => ((es d).filter (b1 d)).map (f d)), ⟨sl', os⟩)
  | [], sl, e, _ => ⟨sl, e, rfl⟩
  | d :: ds, sl, e, h => by
    obtain ⟨sl1, h1, h2, h3, h4⟩ := h d List.mem_cons_self
    have hr : ∀ d ∈ ds, _ := fun x hx => h x (List.mem_cons_of_mem _ hx)
    cases hb : b d with
    | true =>
      obtain ⟨h5, h6⟩ := h4 hb
      obtain ⟨sl3, e3, h7⟩ := turns_typed (enc := enc1 d) (es d) sl1 rfl h6
      have e4 : wipeS sl3 vs = w := by rw [← wipe_sub hv, e3, wipe_sub hv, h2]
      obtain ⟨sl', e', ih⟩ := turns2_typed hv ds sl3 e4 hr
      refine ⟨sl', e', ?_⟩
      rw [List.map_cons, gTurns2]
      simp only [e, h1, h3, Option.bind_some, hb, if_true, h5, h7, ih, List.filter_cons_of_pos hb, List.flatMap_cons]
    | false =>
      obtain ⟨sl', e', ih⟩ := turns2_typed hv ds sl1 h2 hr
      refine ⟨sl', e', ?_⟩
      rw [List.map_cons, gTurns2]
      simp [e, h1, h3, hb, ih]
theorem ev_lc2X {α β : Type} {S : Sx} {Q : D → Sx → Prop} {gi : M (List D)} {gg : D → Sx → Option Sx} {gt : M Bool} {gi1 : M (List D)} {gg1 : D → Sx → Option Sx} {gt1 : M Bool} {ge : M D} {vs vs1 : List Nat} {xs : List α} {enc : α → D} {b : α → Bool} {es : α → List β} {enc1 : α → β → D} {b1 : α → β → Bool} {f : α → β → D} (hv : ∀ v ∈ vs1, v ∈ vs)
    (h : Ev (gi S) fun ds S1 => ds = xs.map enc ∧ (∀ d ∈ xs, Es (gg (enc d) ⟨wipeS S1.sl vs, S1.os⟩) fun S2 => wipeS S2.sl vs = wipeS S1.sl vs ∧ S2.os = S1.os ∧ Ev (gt S2) fun c S3 => S3 = S2 ∧ c = b d ∧ (b d = true → Ev (gi1 S2) fun ys S4 => (ys = (es d).map (enc1 d) ∧ S4 = S2) ∧
      ∀ e ∈ es d, Es (gg1 (enc1 d e) ⟨wipeS S2.sl vs1, S2.os⟩) fun S5 => wipeS S5.sl vs1 = wipeS S2.sl vs1 ∧ S5.os = S2.os ∧ Ev (gt1 S5) fun c S6 => S6 = S5 ∧ c = b1 d e ∧ (b1 d e = true → Ev (ge S5) fun z S7 => z = f d e ∧ S7 = S5))) ∧
      ((xs.filter b).flatMap (fun d => ((es d).filter (b1 d)).map (f d))).length ≤ 16777216 ∧ Q (.list ((xs.filter b).flatMap (fun d => ((es d).filter (b1 d)).map (f d)))) S1) : Ev (gLc2 gi gg gt gi1 gg1 gt1 ge vs vs1 S) Q := by
  obtain ⟨ds, ⟨sl1, os1⟩, e1, rfl, h1, l, q⟩ := h
  obtain ⟨sl', e', ht⟩ := turns2_typed (gg := gg) (gt := gt) (gi1 := gi1) (gg1 := gg1) (gt1 := gt1) (ge := ge) (b := b) (enc := enc) (es := es) (enc1 := enc1) (b1 := b1) (f := f) hv xs sl1 rfl fun d hd => by
    obtain ⟨⟨sl2, os2⟩, e2, e3, e4, c, S3, e5, e6, e7, e8⟩ := h1 d hd
    cases e4
    subst e7 e6
    refine ⟨sl2, e2, e3, e5, fun hb => ?_⟩
    obtain ⟨ys, S4, e9, ⟨rfl, rfl⟩, e10⟩ := e8 hb
    refine ⟨e9, fun e he => ?_⟩
    obtain ⟨⟨sl5, os5⟩, f2, f3, f4, c, S6, f5, f6, f7, f8⟩ := e10 e he
    cases f4
    subst f7 f6
    exact ⟨sl5, f2, f3, f5, fun hb => (f8 hb).eq⟩
  refine ⟨_, _, ?_, q⟩
  unfold gLc2
  rw [e1]
  simp only [Option.bind_some, ht, line_eq, if_pos l, backS_same e']
/-- loops over typed items -/
theorem eo_loopX {α : Type} {S : Sx} {Z : Out → Prop} {gg : D → Sx → Option Sx} {body : Sx → Option Out} {xs : List α} {enc : α → D} (I : Nat → Sx → Prop) (h0 : I 0 S) (hs : ∀ i x S, xs[i]? = some x → I i S → Es (gg (enc x) S) fun S1 => Eo (body S1) fun o => ∃ S2, o = .nx S2 ∧ I (i + 1) S2) (hz : ∀ S', I xs.length S' → Z (.nx S')) : Eo (gLoop gg body (xs.map enc) S) Z := by
  refine eo_loop I h0 (fun i d S hd hI => ?_) fun S' h => hz S' (by simpa using h)
  rw [List.getElem?_map] at hd
  obtain ⟨x, hx, rfl⟩ := Option.map_eq_some_iff.mp hd
  exact hs i x S hx hI
theorem rng0 (n : Nat) : rng 0 n = (List.range n).map fun i : Nat => .int (i : Int) := by
  unfold rng; simp

/-! ### lists or tuples -/
def seqOf : D → Option (List D)
  | .list xs => some xs
  | .tuple xs => some xs
  | _ => none
def Sq (d : D) (xs : List D) : Prop := d = .list xs ∨ d = .tuple xs
theorem sq_l (xs : List D) : Sq (.list xs) xs := .inl rfl
theorem sq_t (xs : List D) : Sq (.tuple xs) xs := .inr rfl
theorem sq_of {d : D} {xs : List D} (h : seqOf d = some xs) : Sq d xs := by
  cases d <;> simp [seqOf] at h
  · exact .inl (by rw [h])
  · exact .inr (by rw [h])
theorem Sq.of {d : D} {xs : List D} (h : Sq d xs) : seqOf d = some xs := by rcases h with rfl | rfl <;> rfl
theorem Sq.isi {d : D} {xs : List D} (h : Sq d xs) : (isT "list" d || isT "tuple" d) = true := by rcases h with rfl | rfl <;> rfl
theorem isi_seq (d : D) : (isT "list" d || isT "tuple" d) = (seqOf d).isSome := by cases d <;> rfl
section
variable {Q : D → Prop} {d x : D} {xs : List D} {i : Int}
theorem ed_ixQ (s : Sq d xs) (h0 : 0 ≤ i) (e : xs[i.toNat]? = some x) (h : Q x) : Ed (dIx d (.int i)) Q := by
  rcases s with rfl | rfl
  · exact ed_ixL h0 e h
  · exact ed_ixT h0 e h
theorem ed_lenQ (s : Sq d xs) (h : Q (.int xs.length)) : Ed (dLen [d]) Q := by rcases s with rfl | rfl <;> exact ⟨_, rfl, h⟩
theorem ed_itQ {Q : List D → Prop} (s : Sq d xs) (h : Q xs) : Ed (itemsOf d) Q := by rcases s with rfl | rfl <;> exact ⟨_, rfl, h⟩
theorem ed_slQ {lo hi : Option Int} (s : Sq d xs) (h : ∀ z, Sq z (cutL xs lo hi) → Q z) : Ed (dSl d lo hi) Q := by
  rcases s with rfl | rfl
  · exact ⟨_, rfl, h _ (sq_l _)⟩
  · exact ⟨_, rfl, h _ (sq_t _)⟩
end
theorem all_mapX {α : Type} (f : α → Bool) (xs : List α) {Q : D → Prop} (h : Q (.bool (xs.all f))) : Ed (dAll [.list (xs.map fun a => .bool (f a))]) Q := ⟨_, all_map f xs, h⟩
theorem any_map {α : Type} (f : α → Bool) (xs : List α) {Q : D → Prop} (h : Q (.bool (xs.any f))) : Ed (dAny [.list (xs.map fun a => .bool (f a))]) Q := ⟨_, by
  simp only [dAny, allBools_fn, Option.bind_some]; rw [List.any_map]; rfl, h⟩
theorem ed_sumI {ns : List Int} {Q : D → Prop} (h : Q (.int ns.sum)) : Ed (dSum [.list (ns.map .int)]) Q := ⟨_, by simp only [dSum, allInts_of]; rfl, h⟩
/-! ### looks -/
theorem ev_viewN {S : Sx} {g : M D} {Q : D → Sx → Prop} (h : Ev (g (sealAll S)) fun d _ => ∃ ds, d = .list ds ∧ hardDs ds = true ∧ Q (.list ds) S) : Ev (gViewN g S) Q := by
  obtain ⟨d, S1, e, ds, rfl, hz, q⟩ := h
  exact ⟨_, S, by simp only [gViewN, e, Option.bind_some, hz, if_true], q⟩
theorem sealS_none (os : List (Option Cell)) : sealS os none = none := rfl
theorem sealS_dat (os : List (Option Cell)) (d : D) : sealS os (some (.dat d)) = some (.dat d) := rfl
theorem sealS_scr (os : List (Option Cell)) (d : List Int) : sealS os (some (.scr d)) = some (.scr d) := rfl
def sealC (os : List (Option Cell)) : Option (Option Cell) → Option R
  | some (some (.lst ds)) => some (.dat (.list ds))
  | some (some (.lR rs)) => ((mapO (snapR os 7) rs).map .list).map .dat
  | _ => none
theorem sealS_own (os : List (Option Cell)) (j : Nat) : sealS os (some (.own j)) = sealC os os[j]? := by
  simp only [sealS, snapR]
  generalize os[j]? = c
  rcases c with _ | _ | c
  · rfl
  · rfl
  · cases c <;> rfl
theorem sealC_lst (os : List (Option Cell)) (ds : List D) : sealC os (some (some (.lst ds))) = some (.dat (.list ds)) := rfl
theorem sealAll_mk {sl sl' : List (Option R)} {os os' : List (Option Cell)} (h : sl.map (sealS os) = sl') (h2 : os.map (fun _ => none) = os') : sealAll ⟨sl, os⟩ = ⟨sl', os'⟩ := by unfold sealAll; rw [h, h2]
theorem hards_iff {ds : List D} : hardDs ds = true ↔ ∀ d ∈ ds, hardD d = true := by
  induction ds with
  | nil => simp [hardDs]
  | cons d ds ih => rw [hardDs, Bool.and_eq_true, ih]; simp
theorem hards_map {α : Type} {f : α → D} {xs : List α} (h : ∀ x, hardD (f x) = true) : hardDs (xs.map f) = true := hards_iff.mpr fun d hd => by obtain ⟨n, _, rfl⟩ := List.mem_map.mp hd; exact h n
end Fu

set_option maxHeartbeats 4000000
namespace Lw
open PySem Fu
local macro_rules | `(tactic| walk_at "e1") => `(tactic| first
  | with_reducible refine eo_seq ?_ | (with_reducible refine then_nx' ?_; refine ⟨?_, ?_, ?_⟩; rotate_left; · (try dsimp only [List.set, List.length_cons, List.length_nil, List.cons_append, List.nil_append, Nat.zero_add, Nat.reduceAdd]); exact rfl) | with_reducible refine then_rt ?_ | with_reducible refine eo_if ?_ | with_reducible refine eo_ret ?_ | with_reducible refine eo_set ?_ | with_reducible refine eo_asg ?_ | with_reducible refine eo_drop ?_ | with_reducible refine eo_nx ?_ | with_reducible refine eo_par ?_ | with_reducible refine eo_own ?_ | with_reducible refine eo_retN ?_ | with_reducible refine eo_for ?_ | with_reducible refine eo_retO ?_
  | with_reducible refine ev_c ?_ | (with_reducible refine ev_var ?_; refine ⟨_, rfl, ?_⟩) | with_reducible refine ev_bin ?_ | with_reducible refine ev_un ?_ | with_reducible refine ev_nil ?_ | with_reducible refine ev_cons ?_
  | with_reducible refine ev_tup ?_ | with_reducible refine ev_lst ?_ | with_reducible refine ev_call ?_ | with_reducible refine ev_callF ?_ | with_reducible refine ev_isi ?_ | with_reducible refine ev_isi2 ?_ | with_reducible refine ev_andV ?_ | with_reducible refine ev_orV ?_ | with_reducible refine ev_notV ?_
  | with_reducible refine ev_B ?_ | with_reducible refine ev_and ?_ | with_reducible refine ev_or ?_ | with_reducible refine ev_not ?_ | with_reducible refine ev_yes ?_ | with_reducible refine ev_if ?_ | with_reducible refine ev_no ?_ | with_reducible refine ev_so ?_ | with_reducible refine ev_sl ?_ | with_reducible refine ev_items ?_
  | (with_reducible refine ev_ixO ?_; refine ⟨_, _, rfl, rfl, ?_⟩) | (with_reducible refine ev_varO ?_; refine ⟨_, _, rfl, rfl, ?_⟩) | (with_reducible refine ev_lenO ?_; refine ⟨_, _, rfl, rfl, ?_⟩) | (with_reducible refine ev_scrSl ?_; refine ⟨_, rfl, ?_⟩) | (with_reducible refine ev_scrLen ?_; refine ⟨_, rfl, ?_⟩) | (with_reducible refine ev_callScr ?_; refine ⟨_, rfl, ?_⟩) | (with_reducible refine ev_OL ?_; refine ⟨_, _, rfl, rfl, ?_⟩) | with_reducible refine ev_OR ?_ | with_reducible refine ev_rep ?_ | with_reducible refine ev_listRng1 ?_ | with_reducible refine eo_setO ?_
  | with_reducible refine es_name ?_ | with_reducible refine es_tup2 ?_ | with_reducible refine es_tup3 ?_
  | with_reducible refine ed_addI ?_ | with_reducible refine ed_subI ?_ | with_reducible refine ed_cmp ?_ | with_reducible refine ed_eqI ?_ | with_reducible refine ed_neI ?_ | with_reducible refine ed_slT ?_ | with_reducible refine ed_slL ?_ | with_reducible refine ed_lenT ?_ | with_reducible refine ed_lenL ?_ | with_reducible refine ed_lenS ?_ | with_reducible refine ed_inS ?_ | with_reducible refine ed_itT ?_ | with_reducible refine ed_itL ?_ | with_reducible refine ed_tupL ?_ | with_reducible refine ed_tupT ?_ | with_reducible refine ed_listL ?_ | with_reducible refine ed_listT ?_ | with_reducible refine ed_neg ?_ | with_reducible refine ed_max ?_ | with_reducible refine ed_min ?_ | with_reducible refine ed_intB ?_
  | with_reducible refine ev_rng1 ?_ | with_reducible refine ev_rng2 ?_)
local macro_rules | `(tactic| walk_at "sd") => `(tactic| first | rfl | assumption | (simp only [decide_eq_true_eq, decide_eq_false_iff_not, Bool.not_eq_true', Bool.not_eq_false', Bool.and_eq_true, Bool.or_eq_true, List.length_map, List.length_cons, List.length_nil, List.length_append, List.length_range] at *; omega))
local macro_rules | `(tactic| walk_at "e2") => `(tactic| first
  | walk_at "e1" | with_reducible refine ⟨_, rfl, ?_⟩ | with_reducible refine ⟨_, _, rfl, ?_⟩
  | with_reducible refine And.intro (Eq.refl (List.length _)) ?_ | with_reducible refine And.intro (Nat.le_of_ble_eq_true (n := List.length _) rfl) ?_
  | with_reducible refine And.intro (Eq.refl (_ : Sx)) (?_ : Ed _ _)
  | ((with_reducible refine And.intro ?_ (And.intro ?_ (?_ : Ev _ _))); (· rfl); (· rfl))
  | ((with_reducible refine ed_ixT ?_ ?_ ?_); (· decide); (· rfl)) | ((with_reducible refine ed_ixL ?_ ?_ ?_); (· decide); (· rfl)) | ((with_reducible refine ed_at ?_ ?_ ?_); (· decide); (· rfl))
  | ((with_reducible refine ed_modI ?_ ?_); (· first | decide | omega))
  | with_reducible exact gives_nx | ((with_reducible refine gives_rt ?_); (· rfl)) | ((with_reducible refine And.intro ?_ ?_); (· exact rfl); (· with_reducible exact Eq.refl (_ : Sx))))
local macro_rules | `(tactic| walk_at "e") => `(tactic| repeat walk_at "e2")
/-- begin a def's spec -/
local macro_rules | `(tactic| walk_at "i") => `(tactic| simp only [initS, List.map_cons, List.map_nil, List.length_cons, List.length_nil, Nat.reduceAdd, Nat.reduceSub, List.replicate, List.cons_append, List.nil_append])
/-- a known truth decides -/
local macro_rules | `(tactic| walk_at "t") => `(tactic| first | ((with_reducible refine split_t ?_ ?_); (· walk_at "sd")) | ((with_reducible refine split_t' ?_ ?_); (· walk_at "sd")))
local macro_rules | `(tactic| walk_at "f") => `(tactic| first | ((with_reducible refine split_f ?_ ?_); (· walk_at "sd")) | ((with_reducible refine split_f' ?_ ?_); (· walk_at "sd")))
/-- all that is seen in a look -/
local macro_rules | `(tactic| walk_at "v") => `(tactic| (rw [sealAll_mk (by (simp only [List.set_cons_zero, List.set_cons_succ, List.map_cons, List.map_nil, sealS_none, sealS_dat, sealS_scr, sealS_own, List.getElem?_cons_zero, List.getElem?_cons_succ, sealC_lst]; rfl)) (by (simp only [List.set_cons_zero, List.set_cons_succ, List.map_cons, List.map_nil]; rfl))]))
/-! ### whole numbers, rows, companies, lines, ends: of anything -/
def wholeD : D → Bool
  | .int i => decide (0 ≤ i)
  | _ => false
def rowD (n : Nat) (d : D) : Bool := match seqOf d with
  | some xs => decide (xs.length = n)
  | none => false
def Let (c : Nat) : Prop := 97 ≤ c ∧ c ≤ 122
instance (c : Nat) : Decidable (Let c) := inferInstanceAs (Decidable (_ ∧ _))
theorem Let.ok {c : Nat} (h : Let c) : c < 0x110000 := by have := h.2; omega
def companyD : D → Bool
  | .str x => match x.cps.toList with
    | [c] => decide (Let c)
    | _ => false
  | _ => false
theorem company_of {d : D} (h : companyD d = true) : ∃ c, d = ch c ∧ Let c := by
  unfold companyD at h
  split at h
  · split at h
    · rename_i x c e
      refine ⟨c, ?_, of_decide_eq_true h⟩
      unfold ch
      congr 1
      exact congrArg Str.mk (Array.toList_inj.mp (by simpa using e))
    · cases h
  · cases h
theorem companyD_ch {c : Nat} (h : Let c) : companyD (ch c) = true := decide_eq_true h
theorem x_is_whole (d : D) : m_is_whole [d] = some (.bool (wholeD d)) := by
  unfold m_is_whole; refine mF_of ?_; walk_at "i"; unfold g_is_whole
  walk_at "e"
  refine ⟨fun h1 => ?_, fun h1 => ?_⟩
  · walk_at "e"
    refine ⟨fun h2 => ?_, fun h2 => ?_⟩
    · cases d <;> simp [isT, dTy] at h1 h2
      walk_at "e"
    · cases d <;> simp [isT, dTy] at h1 h2
      walk_at "e"
  · cases d <;> simp [isT, dTy] at h1 <;> walk_at "e"
theorem x_is_row (d : D) (n : Nat) : m_is_row [d, .int n] = some (.bool (rowD n d)) := by
  unfold m_is_row; refine mF_of ?_; walk_at "i"; unfold g_is_row
  walk_at "e"
  rw [isi_seq]
  refine ⟨fun h1 => ?_, fun h1 => ?_⟩
  · obtain ⟨xs, hx⟩ := Option.isSome_iff_exists.mp h1
    walk_at "e"
    refine ed_lenQ (sq_of hx) ?_
    walk_at "e"
    unfold rowD
    rw [gives_rtI, hx]
    simp only [PyData.bool.injEq, decide_eq_decide]
    omega
  · have hx : seqOf d = none := by simpa using h1
    rw [gives_rtI]
    unfold rowD; rw [hx]
theorem letters : ("abcdefghijklmnopqrstuvwxyz" : Str).cps.toList = (List.range 26).map (97 + ·) := by decide +kernel
theorem x_is_company (d : D) : m_is_company [d] = some (.bool (companyD d)) := by
  unfold m_is_company; refine mF_of ?_; walk_at "i"; unfold g_is_company
  walk_at "e"
  refine ⟨fun h1 => ?_, fun h1 => ?_⟩
  · obtain ⟨x, rfl⟩ : ∃ x, d = .str x := by cases d <;> simp [isT, dTy] at h1; exact ⟨_, rfl⟩
    walk_at "e"
    refine ⟨fun h2 => ?_, fun h2 => ?_⟩
    · have hl : x.cps.toList.length = 1 := by
        have h2 := of_decide_eq_true h2
        rw [Array.length_toList]
        exact Int.ofNat.inj h2
      obtain ⟨c, hc⟩ := List.length_eq_one_iff.mp hl
      obtain rfl : x = ⟨#[c]⟩ := congrArg Str.mk (Array.toList_inj.mp (by simpa using hc))
      walk_at "e"
      rw [gives_rtI]
      show PyData.bool _ = PyData.bool (decide (Let c))
      rw [letters]
      congr 1
      apply decide_eq_decide.mpr
      unfold Let
      rw [List.mem_map]
      constructor
      · rintro ⟨i, hi, rfl⟩; rw [List.mem_range] at hi; omega
      · intro h; exact ⟨c - 97, by rw [List.mem_range]; omega, by omega⟩
    · walk_at "e"
      rw [gives_rtI]
      show PyData.bool false = PyData.bool (match x.cps.toList with | [c] => decide (Let c) | _ => false)
      split
      · rename_i c e
        have h2 := of_decide_eq_false h2
        exfalso; apply h2
        have : x.cps.toList.length = 1 := by rw [e]; rfl
        rw [Array.length_toList] at this
        exact congrArg Int.ofNat this
      · rfl
  · rw [gives_rtI]
    cases d <;> first | rfl | simp [isT, dTy] at h1
theorem filter_tt {α : Type} (l : List α) : l.filter (fun _ => true) = l := List.filter_eq_self.mpr fun _ _ => rfl
/-! ### webs -/
abbrev Ln := Int × Int × Nat
def ln (l : Ln) : D := .tuple [.int l.1, .int l.2.1, ch l.2.2]
def wb (p : Int) (ls : List Ln) : D := .tuple [.int p, .tuple (ls.map ln)]
structure LnOk (p : Int) (l : Ln) : Prop where
  a0 : 0 ≤ l.1
  a1 : l.1 < p
  b0 : 0 ≤ l.2.1
  b1 : l.2.1 < p
  c : Let l.2.2
structure WbOk (p : Int) (ls : List Ln) : Prop where
  p0 : 0 ≤ p
  all : ∀ l ∈ ls, LnOk p l
  len : ls.length ≤ 1000000
def IsLn (d : D) (l : Ln) : Prop := Sq d [.int l.1, .int l.2.1, ch l.2.2]
def Lns (d : D) (ls : List Ln) : Prop := ∃ ps : List (D × Ln), Sq d (ps.map (·.1)) ∧ ls = ps.map (·.2) ∧ ∀ q ∈ ps, IsLn q.1 q.2
def Web (d : D) (p : Int) (ls : List Ln) : Prop := ∃ L, Sq d [.int p, L] ∧ Lns L ls
theorem isLn_ln (l : Ln) : IsLn (ln l) l := sq_t _
theorem lns_of {d : D} {ls : List Ln} (s : Sq d (ls.map ln)) : Lns d ls := ⟨ls.map fun l => (ln l, l), by rw [List.map_map]; exact s, by rw [List.map_map]; exact (List.map_id _).symm, fun q hq => by
  obtain ⟨l, _, rfl⟩ := List.mem_map.mp hq
  exact isLn_ln l⟩
theorem web_wb (p : Int) (ls : List Ln) : Web (wb p ls) p ls := ⟨_, sq_t _, lns_of (sq_t _)⟩
theorem line_at {d : D} {ls : List Ln} (h : Lns d ls) {i : Nat} {l : Ln} (hl : ls[i]? = some l) : ∃ xs x, Sq d xs ∧ xs.length = ls.length ∧ xs[i]? = some x ∧ IsLn x l := by
  obtain ⟨ps, s, rfl, hp⟩ := h
  rw [List.getElem?_map] at hl
  obtain ⟨q, hq, rfl⟩ := Option.map_eq_some_iff.mp hl
  exact ⟨_, q.1, s, by simp, by rw [List.getElem?_map, hq]; rfl, hp q (List.mem_of_getElem? hq)⟩
theorem lns_len {d : D} {ls : List Ln} (h : Lns d ls) : ∃ xs, Sq d xs ∧ xs.length = ls.length := by
  obtain ⟨ps, s, rfl, hp⟩ := h
  exact ⟨_, s, by simp⟩
theorem x_need_place {w : D} {p : Int} {ls : List Ln} {i : Int} (hw : Web w p ls) (h0 : 0 ≤ i) (h1 : i < p) : m_need_place [w, .int i] = some .none := by
  obtain ⟨L, s, hL⟩ := hw
  unfold m_need_place; refine mF_of ?_; walk_at "i"; unfold g_need_place
  walk_at "e"
  refine Ed.of (x_is_whole _) ?_
  walk_at "e"
  refine split_f' (by simp [wholeD, h0]) ?_
  walk_at "e"
  refine ed_ixQ s (by decide) rfl ?_
  walk_at "e"
  refine split_f (by simpa using h1) ?_
  walk_at "e"
/-! ### ends -/
def en (e : Int × Int) : D := .tuple [.int e.1, .int e.2]
def IsEn (d : D) (e : Int × Int) : Prop := Sq d [.int e.1, .int e.2]
theorem isEn_en (e : Int × Int) : IsEn (en e) e := sq_t _
def EndOk (n : Nat) (e : Int × Int) : Prop := 0 ≤ e.1 ∧ e.1 < n ∧ 0 ≤ e.2 ∧ e.2 < 2
instance (n : Nat) (e : Int × Int) : Decidable (EndOk n e) := by unfold EndOk; infer_instance
def sideOf (s : Int) (l : Ln) : Int := if s = 0 then l.1 else l.2.1
def plc (ls : List Ln) (e : Int × Int) : Int := match ls[e.1.toNat]? with
  | some l => sideOf e.2 l
  | none => 0
def cmpy (ls : List Ln) (e : Int × Int) : Nat := match ls[e.1.toNat]? with
  | some l => l.2.2
  | none => 0
def far (e : Int × Int) : Int × Int := (e.1, 1 - e.2)
theorem end_line {n : Nat} {ls : List Ln} {e : Int × Int} (hn : n = ls.length) (h : EndOk n e) : ∃ l, ls[e.1.toNat]? = some l ∧ l ∈ ls := by
  have hl : e.1.toNat < ls.length := by have := h.1; have := h.2.1; omega
  exact ⟨_, List.getElem?_eq_getElem hl, List.getElem_mem hl⟩
theorem x_place_of {w : D} {p : Int} {ls : List Ln} {d : D} {e : Int × Int} (hw : Web w p ls) (s : IsEn d e) (h : EndOk ls.length e) : m_place_of [w, d] = some (.int (plc ls e)) := by
  obtain ⟨L, sw, hL⟩ := hw
  obtain ⟨l, hl, _⟩ := end_line rfl h
  obtain ⟨xs, x, sx, hxl, hx, hln⟩ := line_at hL hl
  unfold m_place_of; refine mF_of ?_; walk_at "i"; unfold g_place_of
  walk_at "e"
  refine ed_ixQ sw (by decide) rfl ?_
  walk_at "e"
  refine ed_ixQ s (by decide) rfl ?_
  walk_at "e"
  refine ed_ixQ sx h.1 hx ?_
  walk_at "e"
  refine ed_ixQ s (by decide) rfl ?_
  walk_at "e"
  have h2 : e.2 = 0 ∨ e.2 = 1 := by have := h.2.2.1; have := h.2.2.2; omega
  unfold plc; rw [hl]
  rcases h2 with h2 | h2 <;> rw [h2] <;> exact ed_ixQ hln (by decide) rfl rfl
theorem x_company_of {w : D} {p : Int} {ls : List Ln} {d : D} {e : Int × Int} (hw : Web w p ls) (s : IsEn d e) (h : EndOk ls.length e) : m_company_of [w, d] = some (ch (cmpy ls e)) := by
  obtain ⟨L, sw, hL⟩ := hw
  obtain ⟨l, hl, _⟩ := end_line rfl h
  obtain ⟨xs, x, sx, hxl, hx, hln⟩ := line_at hL hl
  unfold m_company_of; refine mF_of ?_; walk_at "i"; unfold g_company_of
  walk_at "e"
  refine ed_ixQ sw (by decide) rfl ?_
  walk_at "e"
  refine ed_ixQ s (by decide) rfl ?_
  walk_at "e"
  refine ed_ixQ sx h.1 hx ?_
  walk_at "e"
  refine ed_ixQ hln (by decide) rfl ?_
  unfold cmpy; rw [hl]; rfl
/-! ### all ends, the ends at a place -/
def allE (n : Nat) : List (Int × Int) := (List.range n).flatMap fun i : Nat => [((i : Int), 0), ((i : Int), 1)]
theorem allE_len (n : Nat) : (allE n).length = 2 * n := by
  unfold allE
  rw [List.length_flatMap]
  induction n with
  | zero => rfl
  | succ n ih => 
    rw [List.range_succ, List.map_append, List.sum_append, ih]
    simp
    omega
theorem allE_mem {n : Nat} {e : Int × Int} : e ∈ allE n ↔ EndOk n e := by
  unfold allE EndOk
  rw [List.mem_flatMap]
  obtain ⟨a, b⟩ := e
  constructor
  · rintro ⟨i, hi, h⟩
    rw [List.mem_range] at hi
    simp only [List.mem_cons, Prod.mk.injEq, List.not_mem_nil, or_false] at h
    rcases h with ⟨rfl, rfl⟩ | ⟨rfl, rfl⟩ <;> simp only <;> omega
  · rintro ⟨h0, h1, h2, h3⟩
    simp only at h0 h1 h2 h3
    refine ⟨a.toNat, List.mem_range.mpr (by omega), ?_⟩
    simp only [List.mem_cons, Prod.mk.injEq, List.not_mem_nil, or_false, Int.toNat_of_nonneg h0, true_and]
    omega
theorem x_all_ends {w : D} {p : Int} {ls : List Ln} (hw : Web w p ls) (h : ls.length ≤ 1000000) : m_all_ends [w] = some (.list ((allE ls.length).map en)) := by
  obtain ⟨L, s, hL⟩ := hw
  obtain ⟨xs, sx, hl⟩ := lns_len hL
  unfold m_all_ends; refine mF_of ?_; walk_at "i"; unfold g_all_ends
  walk_at "e"
  refine ev_lc2X (xs := List.range ls.length) (enc := fun i => .int (i : Int)) (b := fun _ => true) (es := fun _ => [(0 : Int), 1]) (enc1 := fun _ s => .int s) (b1 := fun _ _ => true) (f := fun i s => en ((i : Int), s)) (by decide) ?_
  walk_at "e"
  refine ed_ixQ s (by decide) rfl ?_
  walk_at "e"
  refine ed_lenQ sx ?_
  walk_at "e"
  refine ⟨by omega, by omega, ?_, fun i hi => ?_, ?_⟩
  · rw [hl, rng0]; rfl
  · walk_at "e"
    refine ⟨rfl, rfl, fun _ => ?_⟩
    walk_at "e"
    refine ⟨by decide, by decide, ⟨rfl, rfl⟩, fun e he => ?_⟩
    walk_at "e"
    refine ⟨rfl, rfl, fun _ => ?_⟩
    walk_at "e"
  · have e : ((List.range ls.length).filter fun _ => true).flatMap (fun i : Nat => (([(0 : Int), 1] : List Int).filter fun _ => true).map fun s => en ((i : Int), s)) = (allE ls.length).map en := by
      simp only [filter_tt]
      unfold allE
      rw [List.map_flatMap]; rfl
    rw [e]
    refine ⟨by rw [List.length_map, allE_len]; omega, ?_⟩
    walk_at "e"
def ends (ls : List Ln) (q : Int) : List (Int × Int) := (allE ls.length).filter fun e => decide (plc ls e = q)
theorem ends_mem {ls : List Ln} {q : Int} {e : Int × Int} : e ∈ ends ls q ↔ EndOk ls.length e ∧ plc ls e = q := by
  unfold ends; rw [List.mem_filter, allE_mem, decide_eq_true_eq]
theorem x_ends_at {w : D} {p q : Int} {ls : List Ln} (hw : Web w p ls) (h : ls.length ≤ 1000000) (q0 : 0 ≤ q) (q1 : q < p) : m_ends_at [w, .int q] = some (.list ((ends ls q).map en)) := by
  unfold m_ends_at; refine mF_of ?_; walk_at "i"; unfold g_ends_at
  walk_at "e"
  refine Ed.of (x_need_place hw q0 q1) ?_
  walk_at "e"
  refine ev_lcX (xs := allE ls.length) (enc := en) (b := fun e => decide (plc ls e = q)) (g := en) ?_
  walk_at "e"
  refine Ed.of (x_all_ends hw h) ?_
  walk_at "e"
  refine ⟨rfl, fun e he => ?_, ?_⟩
  · walk_at "e"
    refine Ed.of (x_place_of hw (isEn_en e) (allE_mem.mp he)) ?_
    walk_at "e"
    refine ⟨rfl, rfl, fun _ => ?_⟩
    walk_at "e"
  · walk_at "e"
end Lw

set_option maxHeartbeats 4000000
namespace Lw
open PySem Fu
local macro_rules | `(tactic| walk_at "e1") => `(tactic| first
  | with_reducible refine eo_seq ?_ | (with_reducible refine then_nx' ?_; refine ⟨?_, ?_, ?_⟩; rotate_left; · (try dsimp only [List.set, List.length_cons, List.length_nil, List.cons_append, List.nil_append, Nat.zero_add, Nat.reduceAdd]); exact rfl) | with_reducible refine then_rt ?_ | with_reducible refine eo_if ?_ | with_reducible refine eo_ret ?_ | with_reducible refine eo_set ?_ | with_reducible refine eo_asg ?_ | with_reducible refine eo_drop ?_ | with_reducible refine eo_nx ?_ | with_reducible refine eo_par ?_ | with_reducible refine eo_own ?_ | with_reducible refine eo_retN ?_ | with_reducible refine eo_for ?_ | with_reducible refine eo_retO ?_
  | with_reducible refine ev_c ?_ | (with_reducible refine ev_var ?_; refine ⟨_, rfl, ?_⟩) | with_reducible refine ev_bin ?_ | with_reducible refine ev_un ?_ | with_reducible refine ev_nil ?_ | with_reducible refine ev_cons ?_
  | with_reducible refine ev_tup ?_ | with_reducible refine ev_lst ?_ | with_reducible refine ev_call ?_ | with_reducible refine ev_callF ?_ | with_reducible refine ev_isi ?_ | with_reducible refine ev_isi2 ?_ | with_reducible refine ev_andV ?_ | with_reducible refine ev_orV ?_ | with_reducible refine ev_notV ?_
  | with_reducible refine ev_B ?_ | with_reducible refine ev_and ?_ | with_reducible refine ev_or ?_ | with_reducible refine ev_not ?_ | with_reducible refine ev_yes ?_ | with_reducible refine ev_if ?_ | with_reducible refine ev_no ?_ | with_reducible refine ev_so ?_ | with_reducible refine ev_sl ?_ | with_reducible refine ev_items ?_
  | (with_reducible refine ev_ixO ?_; refine ⟨_, _, rfl, rfl, ?_⟩) | (with_reducible refine ev_varO ?_; refine ⟨_, _, rfl, rfl, ?_⟩) | (with_reducible refine ev_lenO ?_; refine ⟨_, _, rfl, rfl, ?_⟩) | (with_reducible refine ev_scrSl ?_; refine ⟨_, rfl, ?_⟩) | (with_reducible refine ev_scrLen ?_; refine ⟨_, rfl, ?_⟩) | (with_reducible refine ev_callScr ?_; refine ⟨_, rfl, ?_⟩) | (with_reducible refine ev_OL ?_; refine ⟨_, _, rfl, rfl, ?_⟩) | with_reducible refine ev_OR ?_ | with_reducible refine ev_rep ?_ | with_reducible refine ev_listRng1 ?_ | with_reducible refine eo_setO ?_
  | with_reducible refine es_name ?_ | with_reducible refine es_tup2 ?_ | with_reducible refine es_tup3 ?_
  | with_reducible refine ed_addI ?_ | with_reducible refine ed_subI ?_ | with_reducible refine ed_cmp ?_ | with_reducible refine ed_eqI ?_ | with_reducible refine ed_neI ?_ | with_reducible refine ed_slT ?_ | with_reducible refine ed_slL ?_ | with_reducible refine ed_lenT ?_ | with_reducible refine ed_lenL ?_ | with_reducible refine ed_lenS ?_ | with_reducible refine ed_inS ?_ | with_reducible refine ed_itT ?_ | with_reducible refine ed_itL ?_ | with_reducible refine ed_tupL ?_ | with_reducible refine ed_tupT ?_ | with_reducible refine ed_listL ?_ | with_reducible refine ed_listT ?_ | with_reducible refine ed_neg ?_ | with_reducible refine ed_max ?_ | with_reducible refine ed_min ?_ | with_reducible refine ed_intB ?_
  | with_reducible refine ev_rng1 ?_ | with_reducible refine ev_rng2 ?_)
local macro_rules | `(tactic| walk_at "sd") => `(tactic| first | rfl | assumption | (simp only [decide_eq_true_eq, decide_eq_false_iff_not, Bool.not_eq_true', Bool.not_eq_false', Bool.and_eq_true, Bool.or_eq_true, List.length_map, List.length_cons, List.length_nil, List.length_append, List.length_range] at *; omega))
local macro_rules | `(tactic| walk_at "e2") => `(tactic| first
  | walk_at "e1" | with_reducible refine ⟨_, rfl, ?_⟩ | with_reducible refine ⟨_, _, rfl, ?_⟩
  | with_reducible refine And.intro (Eq.refl (List.length _)) ?_ | with_reducible refine And.intro (Nat.le_of_ble_eq_true (n := List.length _) rfl) ?_
  | with_reducible refine And.intro (Eq.refl (_ : Sx)) (?_ : Ed _ _)
  | ((with_reducible refine And.intro ?_ (And.intro ?_ (?_ : Ev _ _))); (· rfl); (· rfl))
  | ((with_reducible refine ed_ixT ?_ ?_ ?_); (· decide); (· rfl)) | ((with_reducible refine ed_ixL ?_ ?_ ?_); (· decide); (· rfl)) | ((with_reducible refine ed_at ?_ ?_ ?_); (· decide); (· rfl))
  | ((with_reducible refine ed_modI ?_ ?_); (· first | decide | omega))
  | with_reducible exact gives_nx | ((with_reducible refine gives_rt ?_); (· rfl)) | ((with_reducible refine And.intro ?_ ?_); (· exact rfl); (· with_reducible exact Eq.refl (_ : Sx))))
local macro_rules | `(tactic| walk_at "e") => `(tactic| repeat walk_at "e2")
/-- begin a def's spec -/
local macro_rules | `(tactic| walk_at "i") => `(tactic| simp only [initS, List.map_cons, List.map_nil, List.length_cons, List.length_nil, Nat.reduceAdd, Nat.reduceSub, List.replicate, List.cons_append, List.nil_append])
/-- a known truth decides -/
local macro_rules | `(tactic| walk_at "t") => `(tactic| first | ((with_reducible refine split_t ?_ ?_); (· walk_at "sd")) | ((with_reducible refine split_t' ?_ ?_); (· walk_at "sd")))
local macro_rules | `(tactic| walk_at "f") => `(tactic| first | ((with_reducible refine split_f ?_ ?_); (· walk_at "sd")) | ((with_reducible refine split_f' ?_ ?_); (· walk_at "sd")))
/-- all that is seen in a look -/
local macro_rules | `(tactic| walk_at "v") => `(tactic| (rw [sealAll_mk (by (simp only [List.set_cons_zero, List.set_cons_succ, List.map_cons, List.map_nil, sealS_none, sealS_dat, sealS_scr, sealS_own, List.getElem?_cons_zero, List.getElem?_cons_succ, sealC_lst]; rfl)) (by (simp only [List.set_cons_zero, List.set_cons_succ, List.map_cons, List.map_nil]; rfl))]))
/-! ### rides -/
def lastE (es : List (Int × Int)) : Int × Int := es.getLast?.getD (0, 0)
theorem EndOk.far {n : Nat} {e : Int × Int} (h : EndOk n e) : EndOk n (far e) := by
  obtain ⟨h1, h2, h3, h4⟩ := h
  exact ⟨h1, h2, by show 0 ≤ 1 - e.2; omega, by show 1 - e.2 < 2; omega⟩
end Lw

set_option maxHeartbeats 4000000
namespace Lw
open PySem Fu
local macro_rules | `(tactic| walk_at "e1") => `(tactic| first
  | with_reducible refine eo_seq ?_ | (with_reducible refine then_nx' ?_; refine ⟨?_, ?_, ?_⟩; rotate_left; · (try dsimp only [List.set, List.length_cons, List.length_nil, List.cons_append, List.nil_append, Nat.zero_add, Nat.reduceAdd]); exact rfl) | with_reducible refine then_rt ?_ | with_reducible refine eo_if ?_ | with_reducible refine eo_ret ?_ | with_reducible refine eo_set ?_ | with_reducible refine eo_asg ?_ | with_reducible refine eo_drop ?_ | with_reducible refine eo_nx ?_ | with_reducible refine eo_par ?_ | with_reducible refine eo_own ?_ | with_reducible refine eo_retN ?_ | with_reducible refine eo_for ?_ | with_reducible refine eo_retO ?_
  | with_reducible refine ev_c ?_ | (with_reducible refine ev_var ?_; refine ⟨_, rfl, ?_⟩) | with_reducible refine ev_bin ?_ | with_reducible refine ev_un ?_ | with_reducible refine ev_nil ?_ | with_reducible refine ev_cons ?_
  | with_reducible refine ev_tup ?_ | with_reducible refine ev_lst ?_ | with_reducible refine ev_call ?_ | with_reducible refine ev_callF ?_ | with_reducible refine ev_isi ?_ | with_reducible refine ev_isi2 ?_ | with_reducible refine ev_andV ?_ | with_reducible refine ev_orV ?_ | with_reducible refine ev_notV ?_
  | with_reducible refine ev_B ?_ | with_reducible refine ev_and ?_ | with_reducible refine ev_or ?_ | with_reducible refine ev_not ?_ | with_reducible refine ev_yes ?_ | with_reducible refine ev_if ?_ | with_reducible refine ev_no ?_ | with_reducible refine ev_so ?_ | with_reducible refine ev_sl ?_ | with_reducible refine ev_items ?_
  | (with_reducible refine ev_ixO ?_; refine ⟨_, _, rfl, rfl, ?_⟩) | (with_reducible refine ev_varO ?_; refine ⟨_, _, rfl, rfl, ?_⟩) | (with_reducible refine ev_lenO ?_; refine ⟨_, _, rfl, rfl, ?_⟩) | (with_reducible refine ev_scrSl ?_; refine ⟨_, rfl, ?_⟩) | (with_reducible refine ev_scrLen ?_; refine ⟨_, rfl, ?_⟩) | (with_reducible refine ev_callScr ?_; refine ⟨_, rfl, ?_⟩) | (with_reducible refine ev_OL ?_; refine ⟨_, _, rfl, rfl, ?_⟩) | with_reducible refine ev_OR ?_ | with_reducible refine ev_rep ?_ | with_reducible refine ev_listRng1 ?_ | with_reducible refine eo_setO ?_
  | with_reducible refine es_name ?_ | with_reducible refine es_tup2 ?_ | with_reducible refine es_tup3 ?_
  | with_reducible refine ed_addI ?_ | with_reducible refine ed_subI ?_ | with_reducible refine ed_cmp ?_ | with_reducible refine ed_eqI ?_ | with_reducible refine ed_neI ?_ | with_reducible refine ed_slT ?_ | with_reducible refine ed_slL ?_ | with_reducible refine ed_lenT ?_ | with_reducible refine ed_lenL ?_ | with_reducible refine ed_lenS ?_ | with_reducible refine ed_inS ?_ | with_reducible refine ed_itT ?_ | with_reducible refine ed_itL ?_ | with_reducible refine ed_tupL ?_ | with_reducible refine ed_tupT ?_ | with_reducible refine ed_listL ?_ | with_reducible refine ed_listT ?_ | with_reducible refine ed_neg ?_ | with_reducible refine ed_max ?_ | with_reducible refine ed_min ?_ | with_reducible refine ed_intB ?_
  | with_reducible refine ev_rng1 ?_ | with_reducible refine ev_rng2 ?_)
local macro_rules | `(tactic| walk_at "sd") => `(tactic| first | rfl | assumption | (simp only [decide_eq_true_eq, decide_eq_false_iff_not, Bool.not_eq_true', Bool.not_eq_false', Bool.and_eq_true, Bool.or_eq_true, List.length_map, List.length_cons, List.length_nil, List.length_append, List.length_range] at *; omega))
local macro_rules | `(tactic| walk_at "e2") => `(tactic| first
  | walk_at "e1" | with_reducible refine ⟨_, rfl, ?_⟩ | with_reducible refine ⟨_, _, rfl, ?_⟩
  | with_reducible refine And.intro (Eq.refl (List.length _)) ?_ | with_reducible refine And.intro (Nat.le_of_ble_eq_true (n := List.length _) rfl) ?_
  | with_reducible refine And.intro (Eq.refl (_ : Sx)) (?_ : Ed _ _)
  | ((with_reducible refine And.intro ?_ (And.intro ?_ (?_ : Ev _ _))); (· rfl); (· rfl))
  | ((with_reducible refine ed_ixT ?_ ?_ ?_); (· decide); (· rfl)) | ((with_reducible refine ed_ixL ?_ ?_ ?_); (· decide); (· rfl)) | ((with_reducible refine ed_at ?_ ?_ ?_); (· decide); (· rfl))
  | ((with_reducible refine ed_modI ?_ ?_); (· first | decide | omega))
  | with_reducible exact gives_nx | ((with_reducible refine gives_rt ?_); (· rfl)) | ((with_reducible refine And.intro ?_ ?_); (· exact rfl); (· with_reducible exact Eq.refl (_ : Sx))))
local macro_rules | `(tactic| walk_at "e") => `(tactic| repeat walk_at "e2")
/-- begin a def's spec -/
local macro_rules | `(tactic| walk_at "i") => `(tactic| simp only [initS, List.map_cons, List.map_nil, List.length_cons, List.length_nil, Nat.reduceAdd, Nat.reduceSub, List.replicate, List.cons_append, List.nil_append])
/-- a known truth decides -/
local macro_rules | `(tactic| walk_at "t") => `(tactic| first | ((with_reducible refine split_t ?_ ?_); (· walk_at "sd")) | ((with_reducible refine split_t' ?_ ?_); (· walk_at "sd")))
local macro_rules | `(tactic| walk_at "f") => `(tactic| first | ((with_reducible refine split_f ?_ ?_); (· walk_at "sd")) | ((with_reducible refine split_f' ?_ ?_); (· walk_at "sd")))
/-- all that is seen in a look -/
local macro_rules | `(tactic| walk_at "v") => `(tactic| (rw [sealAll_mk (by (simp only [List.set_cons_zero, List.set_cons_succ, List.map_cons, List.map_nil, sealS_none, sealS_dat, sealS_scr, sealS_own, List.getElem?_cons_zero, List.getElem?_cons_succ, sealC_lst]; rfl)) (by (simp only [List.set_cons_zero, List.set_cons_succ, List.map_cons, List.map_nil]; rfl))]))
/-! ### groups by companies -/
namespace Gr
open PySem.W (dataLe)
open L2 (Key)
section
variable {α : Type}
def addG : List (Nat × List α) → Nat → α → List (Nat × List α)
  | [], c, e => [(c, [e])]
  | (k, g) :: G, c, e => if k = c then (k, g ++ [e]) :: G else (k, g) :: addG G c e
end
/-! #### the dict and its lists as cells -/
end Gr
end Lw

set_option maxHeartbeats 4000000
namespace Lw
open PySem Fu
local macro_rules | `(tactic| walk_at "e1") => `(tactic| first
  | with_reducible refine eo_seq ?_ | (with_reducible refine then_nx' ?_; refine ⟨?_, ?_, ?_⟩; rotate_left; · (try dsimp only [List.set, List.length_cons, List.length_nil, List.cons_append, List.nil_append, Nat.zero_add, Nat.reduceAdd]); exact rfl) | with_reducible refine then_rt ?_ | with_reducible refine eo_if ?_ | with_reducible refine eo_ret ?_ | with_reducible refine eo_set ?_ | with_reducible refine eo_asg ?_ | with_reducible refine eo_drop ?_ | with_reducible refine eo_nx ?_ | with_reducible refine eo_par ?_ | with_reducible refine eo_own ?_ | with_reducible refine eo_retN ?_ | with_reducible refine eo_for ?_ | with_reducible refine eo_retO ?_
  | with_reducible refine ev_c ?_ | (with_reducible refine ev_var ?_; refine ⟨_, rfl, ?_⟩) | with_reducible refine ev_bin ?_ | with_reducible refine ev_un ?_ | with_reducible refine ev_nil ?_ | with_reducible refine ev_cons ?_
  | with_reducible refine ev_tup ?_ | with_reducible refine ev_lst ?_ | with_reducible refine ev_call ?_ | with_reducible refine ev_callF ?_ | with_reducible refine ev_isi ?_ | with_reducible refine ev_isi2 ?_ | with_reducible refine ev_andV ?_ | with_reducible refine ev_orV ?_ | with_reducible refine ev_notV ?_
  | with_reducible refine ev_B ?_ | with_reducible refine ev_and ?_ | with_reducible refine ev_or ?_ | with_reducible refine ev_not ?_ | with_reducible refine ev_yes ?_ | with_reducible refine ev_if ?_ | with_reducible refine ev_no ?_ | with_reducible refine ev_so ?_ | with_reducible refine ev_sl ?_ | with_reducible refine ev_items ?_
  | (with_reducible refine ev_ixO ?_; refine ⟨_, _, rfl, rfl, ?_⟩) | (with_reducible refine ev_varO ?_; refine ⟨_, _, rfl, rfl, ?_⟩) | (with_reducible refine ev_lenO ?_; refine ⟨_, _, rfl, rfl, ?_⟩) | (with_reducible refine ev_scrSl ?_; refine ⟨_, rfl, ?_⟩) | (with_reducible refine ev_scrLen ?_; refine ⟨_, rfl, ?_⟩) | (with_reducible refine ev_callScr ?_; refine ⟨_, rfl, ?_⟩) | (with_reducible refine ev_OL ?_; refine ⟨_, _, rfl, rfl, ?_⟩) | with_reducible refine ev_OR ?_ | with_reducible refine ev_rep ?_ | with_reducible refine ev_listRng1 ?_ | with_reducible refine eo_setO ?_
  | with_reducible refine es_name ?_ | with_reducible refine es_tup2 ?_ | with_reducible refine es_tup3 ?_
  | with_reducible refine ed_addI ?_ | with_reducible refine ed_subI ?_ | with_reducible refine ed_cmp ?_ | with_reducible refine ed_eqI ?_ | with_reducible refine ed_neI ?_ | with_reducible refine ed_slT ?_ | with_reducible refine ed_slL ?_ | with_reducible refine ed_lenT ?_ | with_reducible refine ed_lenL ?_ | with_reducible refine ed_lenS ?_ | with_reducible refine ed_inS ?_ | with_reducible refine ed_itT ?_ | with_reducible refine ed_itL ?_ | with_reducible refine ed_tupL ?_ | with_reducible refine ed_tupT ?_ | with_reducible refine ed_listL ?_ | with_reducible refine ed_listT ?_ | with_reducible refine ed_neg ?_ | with_reducible refine ed_max ?_ | with_reducible refine ed_min ?_ | with_reducible refine ed_intB ?_
  | with_reducible refine ev_rng1 ?_ | with_reducible refine ev_rng2 ?_)
local macro_rules | `(tactic| walk_at "sd") => `(tactic| first | rfl | assumption | (simp only [decide_eq_true_eq, decide_eq_false_iff_not, Bool.not_eq_true', Bool.not_eq_false', Bool.and_eq_true, Bool.or_eq_true, List.length_map, List.length_cons, List.length_nil, List.length_append, List.length_range] at *; omega))
local macro_rules | `(tactic| walk_at "e2") => `(tactic| first
  | walk_at "e1" | with_reducible refine ⟨_, rfl, ?_⟩ | with_reducible refine ⟨_, _, rfl, ?_⟩
  | with_reducible refine And.intro (Eq.refl (List.length _)) ?_ | with_reducible refine And.intro (Nat.le_of_ble_eq_true (n := List.length _) rfl) ?_
  | with_reducible refine And.intro (Eq.refl (_ : Sx)) (?_ : Ed _ _)
  | ((with_reducible refine And.intro ?_ (And.intro ?_ (?_ : Ev _ _))); (· rfl); (· rfl))
  | ((with_reducible refine ed_ixT ?_ ?_ ?_); (· decide); (· rfl)) | ((with_reducible refine ed_ixL ?_ ?_ ?_); (· decide); (· rfl)) | ((with_reducible refine ed_at ?_ ?_ ?_); (· decide); (· rfl))
  | ((with_reducible refine ed_modI ?_ ?_); (· first | decide | omega))
  | with_reducible exact gives_nx | ((with_reducible refine gives_rt ?_); (· rfl)) | ((with_reducible refine And.intro ?_ ?_); (· exact rfl); (· with_reducible exact Eq.refl (_ : Sx))))
local macro_rules | `(tactic| walk_at "e") => `(tactic| repeat walk_at "e2")
/-- begin a def's spec -/
local macro_rules | `(tactic| walk_at "i") => `(tactic| simp only [initS, List.map_cons, List.map_nil, List.length_cons, List.length_nil, Nat.reduceAdd, Nat.reduceSub, List.replicate, List.cons_append, List.nil_append])
/-- a known truth decides -/
local macro_rules | `(tactic| walk_at "t") => `(tactic| first | ((with_reducible refine split_t ?_ ?_); (· walk_at "sd")) | ((with_reducible refine split_t' ?_ ?_); (· walk_at "sd")))
local macro_rules | `(tactic| walk_at "f") => `(tactic| first | ((with_reducible refine split_f ?_ ?_); (· walk_at "sd")) | ((with_reducible refine split_f' ?_ ?_); (· walk_at "sd")))
/-- all that is seen in a look -/
local macro_rules | `(tactic| walk_at "v") => `(tactic| (rw [sealAll_mk (by (simp only [List.set_cons_zero, List.set_cons_succ, List.map_cons, List.map_nil, sealS_none, sealS_dat, sealS_scr, sealS_own, List.getElem?_cons_zero, List.getElem?_cons_succ, sealC_lst]; rfl)) (by (simp only [List.set_cons_zero, List.set_cons_succ, List.map_cons, List.map_nil]; rfl))]))
namespace Gr
open PySem.W (dataLe)
open L2 (Key)
section
variable {α : Type}
theorem sum_addG {c : Nat} {e : α} : ∀ G : List (Nat × List α), ((addG G c e).map fun g => g.2.length).sum = (G.map fun g => g.2.length).sum + 1
  | [] => rfl
  | (k, g) :: G => by
    unfold addG
    split
    · simp only [List.map_cons, List.sum_cons, List.length_append, List.length_cons, List.length_nil]
      omega
    · simp only [List.map_cons, List.sum_cons, sum_addG G]
      omega
theorem keys_addG {c : Nat} {e : α} : ∀ G : List (Nat × List α), (addG G c e).map (·.1) = if c ∈ G.map (·.1) then G.map (·.1) else G.map (·.1) ++ [c]
  | [] => by simp [addG]
  | (k, g) :: G => by
    unfold addG
    by_cases hk : k = c
    · simp [hk]
    · have hk' : ¬ c = k := fun z => hk z.symm
      simp only [hk, if_false, List.map_cons, keys_addG G, List.mem_cons, hk', false_or]
      split <;> rfl
theorem mem_addG {c : Nat} {e : α} {x : Nat × List α} : ∀ {G : List (Nat × List α)}, (G.map (·.1)).Nodup → x ∈ addG G c e → (x ∈ G ∧ x.1 ≠ c) ∨ (x.1 = c ∧ ((∃ g, (c, g) ∈ G ∧ x.2 = g ++ [e]) ∨ ((∀ y ∈ G, y.1 ≠ c) ∧ x.2 = [e])))
  | [], _, h => by
    simp [addG] at h
    subst h
    exact .inr ⟨rfl, .inr ⟨(fun y hy => by cases hy), rfl⟩⟩
  | (k, g) :: G, nd, h => by
    have nd' := List.nodup_cons.mp (show (k :: G.map (·.1)).Nodup from nd)
    unfold addG at h
    split at h
    · rename_i hk
      rcases List.mem_cons.mp h with z | z
      · subst z hk
        exact .inr ⟨rfl, .inl ⟨g, List.mem_cons_self, rfl⟩⟩
      · refine .inl ⟨List.mem_cons_of_mem _ z, fun y => nd'.1 ?_⟩
        exact List.mem_map.mpr ⟨x, z, y.trans hk.symm⟩
    · rename_i hk
      rcases List.mem_cons.mp h with z | z
      · subst z
        exact .inl ⟨List.mem_cons_self, hk⟩
      · rcases mem_addG (G := G) nd'.2 z with ⟨a, b⟩ | ⟨a, ⟨g', b, b2⟩ | ⟨b, b2⟩⟩
        · exact .inl ⟨List.mem_cons_of_mem _ a, b⟩
        · exact .inr ⟨a, .inl ⟨g', List.mem_cons_of_mem _ b, b2⟩⟩
        · refine .inr ⟨a, .inr ⟨fun y hy => ?_, b2⟩⟩
          rcases List.mem_cons.mp hy with q | q
          · subst q; exact hk
          · exact b y q
structure GrpOk (f : α → Nat) (L : List α) (G : List (Nat × List α)) : Prop where
  nd : (G.map (·.1)).Nodup
  fl : ∀ g ∈ G, g.2 = L.filter (fun e => decide (f e = g.1)) ∧ g.2 ≠ []
  all : ∀ e ∈ L, f e ∈ G.map (·.1)
  sum : (G.map fun g => g.2.length).sum = L.length
theorem GrpOk.step {f : α → Nat} {L : List α} {G : List (Nat × List α)} (h : GrpOk f L G) (e : α) : GrpOk f (L ++ [e]) (addG G (f e) e) where
  nd := by
    rw [keys_addG]
    split
    · exact h.nd
    · rename_i hc
      exact List.nodup_append.mpr ⟨h.nd, by simp, fun a ha b hb => by simp at hb; subst hb; intro z; subst z; exact hc ha⟩
  fl := fun x hx => by
    rw [List.filter_append]
    rcases mem_addG h.nd hx with ⟨a, b⟩ | ⟨a, ⟨g, b, b2⟩ | ⟨b, b2⟩⟩
    · obtain ⟨h1, h2⟩ := h.fl x a
      refine ⟨?_, h2⟩
      have : ¬ f e = x.1 := fun z => b z.symm
      simp [this, ← h1]
    · obtain ⟨h1, h2⟩ := h.fl _ b
      simp only at h1
      refine ⟨?_, by rw [b2]; simp⟩
      rw [b2, a, ← h1]
      simp
    · refine ⟨?_, by rw [b2]; simp⟩
      rw [b2, a]
      have : L.filter (fun e' => decide (f e' = f e)) = [] := by
        rw [List.filter_eq_nil_iff]
        intro e' he' z
        obtain ⟨g, hg, hk⟩ := List.mem_map.mp (h.all e' he')
        exact b g hg (hk.trans (by simpa using z))
      rw [this]
      simp
  all := fun x hx => by
    rw [keys_addG]
    rcases List.mem_append.mp hx with z | z
    · have := h.all x z
      split
      · exact this
      · exact List.mem_append_left _ this
    · simp at z
      subst z
      split
      · assumption
      · simp
  sum := by rw [sum_addG, h.sum]; simp
end
/-! #### the def -/
end Gr
end Lw

set_option maxHeartbeats 4000000
namespace Lw
open PySem Fu
local macro_rules | `(tactic| walk_at "e1") => `(tactic| first
  | with_reducible refine eo_seq ?_ | (with_reducible refine then_nx' ?_; refine ⟨?_, ?_, ?_⟩; rotate_left; · (try dsimp only [List.set, List.length_cons, List.length_nil, List.cons_append, List.nil_append, Nat.zero_add, Nat.reduceAdd]); exact rfl) | with_reducible refine then_rt ?_ | with_reducible refine eo_if ?_ | with_reducible refine eo_ret ?_ | with_reducible refine eo_set ?_ | with_reducible refine eo_asg ?_ | with_reducible refine eo_drop ?_ | with_reducible refine eo_nx ?_ | with_reducible refine eo_par ?_ | with_reducible refine eo_own ?_ | with_reducible refine eo_retN ?_ | with_reducible refine eo_for ?_ | with_reducible refine eo_retO ?_
  | with_reducible refine ev_c ?_ | (with_reducible refine ev_var ?_; refine ⟨_, rfl, ?_⟩) | with_reducible refine ev_bin ?_ | with_reducible refine ev_un ?_ | with_reducible refine ev_nil ?_ | with_reducible refine ev_cons ?_
  | with_reducible refine ev_tup ?_ | with_reducible refine ev_lst ?_ | with_reducible refine ev_call ?_ | with_reducible refine ev_callF ?_ | with_reducible refine ev_isi ?_ | with_reducible refine ev_isi2 ?_ | with_reducible refine ev_andV ?_ | with_reducible refine ev_orV ?_ | with_reducible refine ev_notV ?_
  | with_reducible refine ev_B ?_ | with_reducible refine ev_and ?_ | with_reducible refine ev_or ?_ | with_reducible refine ev_not ?_ | with_reducible refine ev_yes ?_ | with_reducible refine ev_if ?_ | with_reducible refine ev_no ?_ | with_reducible refine ev_so ?_ | with_reducible refine ev_sl ?_ | with_reducible refine ev_items ?_
  | (with_reducible refine ev_ixO ?_; refine ⟨_, _, rfl, rfl, ?_⟩) | (with_reducible refine ev_varO ?_; refine ⟨_, _, rfl, rfl, ?_⟩) | (with_reducible refine ev_lenO ?_; refine ⟨_, _, rfl, rfl, ?_⟩) | (with_reducible refine ev_scrSl ?_; refine ⟨_, rfl, ?_⟩) | (with_reducible refine ev_scrLen ?_; refine ⟨_, rfl, ?_⟩) | (with_reducible refine ev_callScr ?_; refine ⟨_, rfl, ?_⟩) | (with_reducible refine ev_OL ?_; refine ⟨_, _, rfl, rfl, ?_⟩) | with_reducible refine ev_OR ?_ | with_reducible refine ev_rep ?_ | with_reducible refine ev_listRng1 ?_ | with_reducible refine eo_setO ?_
  | with_reducible refine es_name ?_ | with_reducible refine es_tup2 ?_ | with_reducible refine es_tup3 ?_
  | with_reducible refine ed_addI ?_ | with_reducible refine ed_subI ?_ | with_reducible refine ed_cmp ?_ | with_reducible refine ed_eqI ?_ | with_reducible refine ed_neI ?_ | with_reducible refine ed_slT ?_ | with_reducible refine ed_slL ?_ | with_reducible refine ed_lenT ?_ | with_reducible refine ed_lenL ?_ | with_reducible refine ed_lenS ?_ | with_reducible refine ed_inS ?_ | with_reducible refine ed_itT ?_ | with_reducible refine ed_itL ?_ | with_reducible refine ed_tupL ?_ | with_reducible refine ed_tupT ?_ | with_reducible refine ed_listL ?_ | with_reducible refine ed_listT ?_ | with_reducible refine ed_neg ?_ | with_reducible refine ed_max ?_ | with_reducible refine ed_min ?_ | with_reducible refine ed_intB ?_)
local macro_rules | `(tactic| walk_at "e2") => `(tactic| first
  | walk_at "e1" | with_reducible refine ⟨_, rfl, ?_⟩ | with_reducible refine ⟨_, _, rfl, ?_⟩
  | with_reducible refine And.intro (Eq.refl (List.length _)) ?_ | with_reducible refine And.intro (Nat.le_of_ble_eq_true (n := List.length _) rfl) ?_
  | with_reducible refine And.intro (Eq.refl (_ : Sx)) (?_ : Ed _ _)
  | with_reducible exact gives_nx | with_reducible (refine gives_rt ?_; rfl))
local macro_rules | `(tactic| walk_at "e") => `(tactic| repeat walk_at "e2")
/-- begin a def's spec -/
local macro_rules | `(tactic| walk_at "i") => `(tactic| simp only [initS, List.map_cons, List.map_nil, List.length_cons, List.length_nil, Nat.reduceAdd, Nat.reduceSub, List.replicate, List.cons_append, List.nil_append])
namespace Sp
/-! ### the spring -/
structure Reel (b : Nat) (cs : List D) : Prop where
  ex : ∃ (f s n : Int), cs = [.int f, .int s, .int n] ∧ 0 ≤ f ∧ 0 ≤ s ∧ s < 2305843009213693951 ∧ 0 ≤ n ∧ n + b ≤ 18446744073709551616
theorem Reel.mono {a b : Nat} {cs : List D} (h : Reel a cs) (l : b ≤ a) : Reel b cs := by
  obtain ⟨f, s, n, h1, h2, h3, h4, h5, h6⟩ := h
  exact ⟨f, s, n, h1, h2, h3, h4, h5, by omega⟩
theorem log_lt {i : Int} {k : Nat} (h : i.natAbs < 2 ^ (k + 1)) : i.natAbs.log2 ≤ k := by
  by_cases z : i.natAbs = 0
  · rw [z]; simp
  · exact Nat.le_of_lt_succ ((Nat.log2_lt z).mpr h)
theorem mulW {i j : Int} (a : -170141183460469231731687303715884105728 < i ∧ i < 170141183460469231731687303715884105728) (b : -170141183460469231731687303715884105728 < j ∧ j < 170141183460469231731687303715884105728) : L2.CMulW i j := by
  unfold L2.CMulW
  have h1 : i.natAbs.log2 ≤ 126 := log_lt (by show i.natAbs < 170141183460469231731687303715884105728; omega)
  have h2 : j.natAbs.log2 ≤ 126 := log_lt (by show j.natAbs < 170141183460469231731687303715884105728; omega)
  omega
theorem divW {i j : Int} (a : 0 < j ∧ j < 170141183460469231731687303715884105728) : L2.CDivW i j := by
  unfold L2.CDivW
  have h2 : j.natAbs.log2 ≤ 126 := log_lt (by show j.natAbs < 170141183460469231731687303715884105728; omega)
  exact ⟨a.1, by omega⟩
theorem x_draw {b : Nat} {cs : List D} {many : Int} (h : Reel (b + 1) cs) (m0 : 0 < many) (m1 : many ≤ 18446744073709551616) : ∃ d cs', m__law_draw_k15 cs [.int many] = some (d, cs') ∧ ∃ v, d = .int v ∧ 0 ≤ v ∧ v < many ∧ Reel b cs' := by
  obtain ⟨f, s, n, rfl, f0, s0, s1, n0, n1⟩ := h
  unfold m__law_draw_k15; refine mIO_of ?_; walk_at "i"; unfold g__law_draw_k15
  walk_at "e"
  refine ed_at (by decide) rfl ?_
  walk_at "e"
  refine ⟨fun ht => ?_, fun ht => ?_⟩
  · walk_at "e"
    refine ed_at (by decide) rfl ?_
    walk_at "e"
    refine ed_modI m0 ?_
    walk_at "e"
    refine ed_at (by decide) rfl ?_
    walk_at "e"
    refine ed_divI (divW ⟨m0, by omega⟩) ?_
    refine ⟨0, _, rfl, rfl, ?_⟩
    walk_at "e"
    refine ⟨rfl, 0, rfl, by simp, ?_⟩
    walk_at "e"
    exact ⟨_, rfl, _, rfl, Int.emod_nonneg _ (by omega), Int.emod_lt_of_pos _ m0, f / many, s, n, rfl, Int.ediv_nonneg f0 (by omega), s0, s1, n0, by omega⟩
  · walk_at "e"
    refine ed_at (by decide) rfl ?_
    walk_at "e"
    refine ⟨0, _, rfl, rfl, ?_⟩
    walk_at "e"
    refine ⟨rfl, 2, rfl, by simp, ?_⟩
    walk_at "e"
    refine ed_at (by decide) rfl ?_
    walk_at "e"
    refine ed_at (by decide) rfl ?_
    walk_at "e"
    refine ed_mulI (mulW ⟨by omega, by omega⟩ ⟨by omega, by omega⟩) ?_
    walk_at "e"
    refine ed_modI (by decide) ?_
    walk_at "e"
    refine ed_at (by decide) rfl ?_
    walk_at "e"
    refine ed_mulI (mulW ⟨by omega, by omega⟩ ⟨by omega, by omega⟩) ?_
    walk_at "e"
    refine ed_at (by decide) rfl ?_
    walk_at "e"
    refine ed_mulI (mulW ⟨by omega, by omega⟩ ⟨by omega, by omega⟩) ?_
    walk_at "e"
    refine ed_modI (by decide) ?_
    refine ⟨0, _, rfl, rfl, ?_⟩
    walk_at "e"
    refine ⟨rfl, 1, rfl, by simp, ?_⟩
    walk_at "e"
    refine ed_at (by decide) rfl ?_
    walk_at "e"
    refine ed_divI (divW ⟨by decide, by decide⟩) ?_
    walk_at "e"
    refine ed_modI m0 ?_
    exact ⟨_, rfl, _, rfl, Int.emod_nonneg _ (by omega), Int.emod_lt_of_pos _ m0, f, _, n + 1, rfl, f0, Int.emod_nonneg _ (by decide), Int.emod_lt_of_pos _ (by decide), by omega, by omega⟩
theorem ed_abs {Q : D → Prop} {i : Int} (h : Q (.int i.natAbs)) : Ed (dAbs [.int i]) Q := ⟨_, rfl, by
  have : (if i < 0 then -i else i) = (i.natAbs : Int) := by split <;> omega
  rw [this]; exact h⟩
theorem x_spring {ns : List Int} (h : ns.length ≤ 63) : ∃ cs, m__law_spring ns = some cs ∧ Reel 4294967296 cs := by
  unfold m__law_spring; refine mScrN_of ?_; walk_at "i"; unfold g__law_spring
  walk_at "e"
  rw [cut_to (by decide), List.take_of_length_le (by simpa using h)]
  have hlen : (ns.map PyData.int).length ≤ 63 := by simpa using h
  refine eo_loop (fun i S => ∃ f st x, S = ⟨[some (.scr ns), some (.dat (.int f)), some (.dat (.int st)), x], []⟩ ∧ 0 ≤ f ∧ f < 2 ^ (200 * i) ∧ 0 ≤ st ∧ st < 2305843009213693951) ⟨_, _, _, rfl, by decide, by decide, by decide, by decide⟩ ?_ ?_
  · rintro i d S hd ⟨f, st, x, rfl, f0, f1, h0, h1⟩
    have hi : i < 63 := by
      have := (List.getElem?_eq_some_iff.mp hd).1
      omega
    obtain ⟨c, hc, rfl⟩ := List.mem_map.mp (List.mem_of_getElem? hd)
    have hp : (2 : Int) ^ (200 * (i + 1)) = 2 ^ (200 * i) * 2 ^ 200 := by rw [← Int.pow_add]; congr 1
    have hpos : (0 : Int) < 2 ^ (200 * i) := Int.pow_pos (by decide)
    have hbig : (10 : Int) ^ 60 < 2 ^ 200 := by decide
    have mono : f < 2 ^ (200 * (i + 1)) := by
      rw [hp]
      have : (2 : Int) ^ (200 * i) * 1 ≤ 2 ^ (200 * i) * 2 ^ 200 := Int.mul_le_mul_of_nonneg_left (by decide) (by omega)
      omega
    walk_at "e"
    refine ed_abs ?_
    walk_at "e"
    refine ed_powI (by decide) ?_
    walk_at "e"
    refine ⟨fun ht => ?_, fun ht => ?_⟩
    · walk_at "e"
      refine ed_powI (by decide) ?_
      refine ed_mulI ?_ ?_
      · unfold L2.CMulW
        have e1 : f.natAbs.log2 ≤ 200 * i := log_lt (by
          have : (f.natAbs : Int) < ((2 ^ (200 * i + 1) : Nat) : Int) := by
            push_cast
            rw [Int.pow_succ]
            omega
          exact Int.ofNat_lt.mp this)
        have e2 : ((10 : Int) ^ (60 : Int).toNat).natAbs.log2 ≤ 200 := by decide
        omega
      walk_at "e"
      refine ed_abs ?_
      walk_at "e"
      refine ed_powI (by decide) ?_
      refine ed_modI (by decide) ?_
      walk_at "e"
      refine ed_mulI (mulW ⟨by omega, by omega⟩ ⟨by decide, by decide⟩) ?_
      walk_at "e"
      refine ed_modI (by decide) ?_
      walk_at "e"
      refine ed_modI (by decide) ?_
      refine ⟨_, rfl, _, _, _, rfl, ?_, ?_, Int.emod_nonneg _ (by decide), Int.emod_lt_of_pos _ (by decide)⟩
      · have := Int.emod_nonneg (c.natAbs : Int) (show (10 : Int) ^ (60 : Int).toNat ≠ 0 by decide)
        have := Int.mul_nonneg f0 (show (0 : Int) ≤ 10 ^ (60 : Int).toNat by decide)
        omega
      · have a1 := Int.emod_lt_of_pos (c.natAbs : Int) (show (0 : Int) < 10 ^ (60 : Int).toNat by decide)
        have a2 : (f + 1) * (10 : Int) ^ (60 : Int).toNat ≤ 2 ^ (200 * i) * 10 ^ (60 : Int).toNat := Int.mul_le_mul_of_nonneg_right (by omega) (by decide)
        have a3 : (2 : Int) ^ (200 * i) * 10 ^ (60 : Int).toNat ≤ 2 ^ (200 * i) * 2 ^ 200 := Int.mul_le_mul_of_nonneg_left (by decide) (by omega)
        rw [hp]
        rw [Int.add_mul, Int.one_mul] at a2
        omega
    · walk_at "e"
      refine ed_mulI (mulW ⟨by omega, by omega⟩ ⟨by decide, by decide⟩) ?_
      walk_at "e"
      refine ed_modI (by decide) ?_
      walk_at "e"
      refine ed_modI (by decide) ?_
      exact ⟨_, rfl, _, _, _, rfl, f0, mono, Int.emod_nonneg _ (by decide), Int.emod_lt_of_pos _ (by decide)⟩
  · rintro S ⟨f, st, x, rfl, f0, f1, h0, h1⟩
    walk_at "e"
    exact ⟨_, _, _, rfl, rfl, f, st, 0, rfl, f0, h0, h1, by decide, by decide⟩
end Sp
end Lw

set_option maxHeartbeats 4000000
namespace Lw
open PySem Fu
local macro_rules | `(tactic| walk_at "e1") => `(tactic| first
  | with_reducible refine eo_seq ?_ | (with_reducible refine then_nx' ?_; refine ⟨?_, ?_, ?_⟩; rotate_left; · (try dsimp only [List.set, List.length_cons, List.length_nil, List.cons_append, List.nil_append, Nat.zero_add, Nat.reduceAdd]); exact rfl) | with_reducible refine then_rt ?_ | with_reducible refine eo_if ?_ | with_reducible refine eo_ret ?_ | with_reducible refine eo_set ?_ | with_reducible refine eo_asg ?_ | with_reducible refine eo_drop ?_ | with_reducible refine eo_nx ?_ | with_reducible refine eo_par ?_ | with_reducible refine eo_own ?_ | with_reducible refine eo_retN ?_ | with_reducible refine eo_for ?_ | with_reducible refine eo_retO ?_
  | with_reducible refine ev_c ?_ | (with_reducible refine ev_var ?_; refine ⟨_, rfl, ?_⟩) | with_reducible refine ev_bin ?_ | with_reducible refine ev_un ?_ | with_reducible refine ev_nil ?_ | with_reducible refine ev_cons ?_
  | with_reducible refine ev_tup ?_ | with_reducible refine ev_lst ?_ | with_reducible refine ev_call ?_ | with_reducible refine ev_callF ?_ | with_reducible refine ev_isi ?_ | with_reducible refine ev_isi2 ?_ | with_reducible refine ev_andV ?_ | with_reducible refine ev_orV ?_ | with_reducible refine ev_notV ?_
  | with_reducible refine ev_B ?_ | with_reducible refine ev_and ?_ | with_reducible refine ev_or ?_ | with_reducible refine ev_not ?_ | with_reducible refine ev_yes ?_ | with_reducible refine ev_if ?_ | with_reducible refine ev_no ?_ | with_reducible refine ev_so ?_ | with_reducible refine ev_sl ?_ | with_reducible refine ev_items ?_
  | (with_reducible refine ev_ixO ?_; refine ⟨_, _, rfl, rfl, ?_⟩) | (with_reducible refine ev_varO ?_; refine ⟨_, _, rfl, rfl, ?_⟩) | (with_reducible refine ev_lenO ?_; refine ⟨_, _, rfl, rfl, ?_⟩) | (with_reducible refine ev_scrSl ?_; refine ⟨_, rfl, ?_⟩) | (with_reducible refine ev_scrLen ?_; refine ⟨_, rfl, ?_⟩) | (with_reducible refine ev_callScr ?_; refine ⟨_, rfl, ?_⟩) | (with_reducible refine ev_OL ?_; refine ⟨_, _, rfl, rfl, ?_⟩) | with_reducible refine ev_OR ?_ | with_reducible refine ev_rep ?_ | with_reducible refine ev_listRng1 ?_ | with_reducible refine eo_setO ?_
  | with_reducible refine es_name ?_ | with_reducible refine es_tup2 ?_ | with_reducible refine es_tup3 ?_
  | with_reducible refine ed_addI ?_ | with_reducible refine ed_subI ?_ | with_reducible refine ed_cmp ?_ | with_reducible refine ed_eqI ?_ | with_reducible refine ed_neI ?_ | with_reducible refine ed_slT ?_ | with_reducible refine ed_slL ?_ | with_reducible refine ed_lenT ?_ | with_reducible refine ed_lenL ?_ | with_reducible refine ed_lenS ?_ | with_reducible refine ed_inS ?_ | with_reducible refine ed_itT ?_ | with_reducible refine ed_itL ?_ | with_reducible refine ed_tupL ?_ | with_reducible refine ed_tupT ?_ | with_reducible refine ed_listL ?_ | with_reducible refine ed_listT ?_ | with_reducible refine ed_neg ?_ | with_reducible refine ed_max ?_ | with_reducible refine ed_min ?_ | with_reducible refine ed_intB ?_
  | with_reducible refine ev_rng1 ?_ | with_reducible refine ev_rng2 ?_)
local macro_rules | `(tactic| walk_at "sd") => `(tactic| first | rfl | assumption | (simp only [decide_eq_true_eq, decide_eq_false_iff_not, Bool.not_eq_true', Bool.not_eq_false', Bool.and_eq_true, Bool.or_eq_true, List.length_map, List.length_cons, List.length_nil, List.length_append, List.length_range] at *; omega))
local macro_rules | `(tactic| walk_at "e2") => `(tactic| first
  | walk_at "e1" | with_reducible refine ⟨_, rfl, ?_⟩ | with_reducible refine ⟨_, _, rfl, ?_⟩
  | with_reducible refine And.intro (Eq.refl (List.length _)) ?_ | with_reducible refine And.intro (Nat.le_of_ble_eq_true (n := List.length _) rfl) ?_
  | with_reducible refine And.intro (Eq.refl (_ : Sx)) (?_ : Ed _ _)
  | ((with_reducible refine And.intro ?_ (And.intro ?_ (?_ : Ev _ _))); (· rfl); (· rfl))
  | ((with_reducible refine ed_ixT ?_ ?_ ?_); (· decide); (· rfl)) | ((with_reducible refine ed_ixL ?_ ?_ ?_); (· decide); (· rfl)) | ((with_reducible refine ed_at ?_ ?_ ?_); (· decide); (· rfl))
  | ((with_reducible refine ed_modI ?_ ?_); (· first | decide | omega))
  | with_reducible exact gives_nx | ((with_reducible refine gives_rt ?_); (· rfl)) | ((with_reducible refine And.intro ?_ ?_); (· exact rfl); (· with_reducible exact Eq.refl (_ : Sx))))
local macro_rules | `(tactic| walk_at "e") => `(tactic| repeat walk_at "e2")
/-- begin a def's spec -/
local macro_rules | `(tactic| walk_at "i") => `(tactic| simp only [initS, List.map_cons, List.map_nil, List.length_cons, List.length_nil, Nat.reduceAdd, Nat.reduceSub, List.replicate, List.cons_append, List.nil_append])
/-- a known truth decides -/
local macro_rules | `(tactic| walk_at "t") => `(tactic| first | ((with_reducible refine split_t ?_ ?_); (· walk_at "sd")) | ((with_reducible refine split_t' ?_ ?_); (· walk_at "sd")))
local macro_rules | `(tactic| walk_at "f") => `(tactic| first | ((with_reducible refine split_f ?_ ?_); (· walk_at "sd")) | ((with_reducible refine split_f' ?_ ?_); (· walk_at "sd")))
/-- all that is seen in a look -/
local macro_rules | `(tactic| walk_at "v") => `(tactic| (rw [sealAll_mk (by (simp only [List.set_cons_zero, List.set_cons_succ, List.map_cons, List.map_nil, sealS_none, sealS_dat, sealS_scr, sealS_own, List.getElem?_cons_zero, List.getElem?_cons_succ, sealC_lst]; rfl)) (by (simp only [List.set_cons_zero, List.set_cons_succ, List.map_cons, List.map_nil]; rfl))]))
namespace Gr
def mxc (cs : List Nat) : Int := (cs.map fun c => (cs.count c : Int)).foldl max 0
/-- what a place wants -/
def wntC (cs : List Nat) : Int := max (2 * mxc cs - cs.length) ((cs.length : Int) % 2)
def wnt (ls : List Ln) (q : Int) : Int := wntC ((ends ls q).map (cmpy ls))
/-! #### the law's own want -/
theorem ed_countC {cs : List Nat} {c : Nat} {Q : D → Prop} (hc : c < 0x110000) (hcs : ∀ x ∈ cs, x < 0x110000) (h : Q (.int (cs.count c : Nat))) : Ed (dCount (.list (cs.map ch)) (ch c)) Q := by
  refine ⟨_, ?_, h⟩
  have cl : ∀ cs : List Nat, (∀ x ∈ cs, x < 0x110000) → PyData.canLayAll0 (cs.map ch) = true := fun cs => by
    induction cs with
    | nil => intro _; rfl
    | cons x cs ih =>
      intro hx
      have h1 := (fine_ch (hx x List.mem_cons_self)).1
      simp [PyData.canLayAll0, h1, ih fun y hy => hx y (List.mem_cons_of_mem _ hy)]
  simp only [dCount]
  rw [if_pos ⟨cl cs hcs, (fine_ch hc).1, by simp [PyData.depth, ch]⟩, List.countP_map, List.count]
  have : (List.countP ((fun y => PyData.eqv y (ch c)) ∘ ch) cs) = List.countP (fun x => x == c) cs := List.countP_congr fun x hx => by
    have := eqv_plain (ch x) (ch c) rfl rfl
    simp only [Function.comp, beq_iff_eq]
    rw [this]
    exact ⟨fun z => ch_inj z, fun z => by rw [z]⟩
  rw [this]
end Gr
end Lw

set_option maxHeartbeats 4000000
namespace Lw
open PySem Fu
local macro_rules | `(tactic| walk_at "e1") => `(tactic| first
  | with_reducible refine eo_seq ?_ | (with_reducible refine then_nx' ?_; refine ⟨?_, ?_, ?_⟩; rotate_left; · (try dsimp only [List.set, List.length_cons, List.length_nil, List.cons_append, List.nil_append, Nat.zero_add, Nat.reduceAdd]); exact rfl) | with_reducible refine then_rt ?_ | with_reducible refine eo_if ?_ | with_reducible refine eo_ret ?_ | with_reducible refine eo_set ?_ | with_reducible refine eo_asg ?_ | with_reducible refine eo_drop ?_ | with_reducible refine eo_nx ?_ | with_reducible refine eo_par ?_ | with_reducible refine eo_own ?_ | with_reducible refine eo_retN ?_ | with_reducible refine eo_for ?_ | with_reducible refine eo_retO ?_
  | with_reducible refine ev_c ?_ | (with_reducible refine ev_var ?_; refine ⟨_, rfl, ?_⟩) | with_reducible refine ev_bin ?_ | with_reducible refine ev_un ?_ | with_reducible refine ev_nil ?_ | with_reducible refine ev_cons ?_
  | with_reducible refine ev_tup ?_ | with_reducible refine ev_lst ?_ | with_reducible refine ev_call ?_ | with_reducible refine ev_callF ?_ | with_reducible refine ev_isi ?_ | with_reducible refine ev_isi2 ?_ | with_reducible refine ev_andV ?_ | with_reducible refine ev_orV ?_ | with_reducible refine ev_notV ?_
  | with_reducible refine ev_B ?_ | with_reducible refine ev_and ?_ | with_reducible refine ev_or ?_ | with_reducible refine ev_not ?_ | with_reducible refine ev_yes ?_ | with_reducible refine ev_if ?_ | with_reducible refine ev_no ?_ | with_reducible refine ev_so ?_ | with_reducible refine ev_sl ?_ | with_reducible refine ev_items ?_
  | (with_reducible refine ev_ixO ?_; refine ⟨_, _, rfl, rfl, ?_⟩) | (with_reducible refine ev_varO ?_; refine ⟨_, _, rfl, rfl, ?_⟩) | (with_reducible refine ev_lenO ?_; refine ⟨_, _, rfl, rfl, ?_⟩) | (with_reducible refine ev_scrSl ?_; refine ⟨_, rfl, ?_⟩) | (with_reducible refine ev_scrLen ?_; refine ⟨_, rfl, ?_⟩) | (with_reducible refine ev_callScr ?_; refine ⟨_, rfl, ?_⟩) | (with_reducible refine ev_OL ?_; refine ⟨_, _, rfl, rfl, ?_⟩) | with_reducible refine ev_OR ?_ | with_reducible refine ev_rep ?_ | with_reducible refine ev_listRng1 ?_ | with_reducible refine eo_setO ?_
  | with_reducible refine es_name ?_ | with_reducible refine es_tup2 ?_ | with_reducible refine es_tup3 ?_
  | with_reducible refine ed_addI ?_ | with_reducible refine ed_subI ?_ | with_reducible refine ed_cmp ?_ | with_reducible refine ed_eqI ?_ | with_reducible refine ed_neI ?_ | with_reducible refine ed_slT ?_ | with_reducible refine ed_slL ?_ | with_reducible refine ed_lenT ?_ | with_reducible refine ed_lenL ?_ | with_reducible refine ed_lenS ?_ | with_reducible refine ed_inS ?_ | with_reducible refine ed_itT ?_ | with_reducible refine ed_itL ?_ | with_reducible refine ed_tupL ?_ | with_reducible refine ed_tupT ?_ | with_reducible refine ed_listL ?_ | with_reducible refine ed_listT ?_ | with_reducible refine ed_neg ?_ | with_reducible refine ed_max ?_ | with_reducible refine ed_min ?_ | with_reducible refine ed_intB ?_
  | with_reducible refine ev_rng1 ?_ | with_reducible refine ev_rng2 ?_)
local macro_rules | `(tactic| walk_at "sd") => `(tactic| first | rfl | assumption | (simp only [decide_eq_true_eq, decide_eq_false_iff_not, Bool.not_eq_true', Bool.not_eq_false', Bool.and_eq_true, Bool.or_eq_true, List.length_map, List.length_cons, List.length_nil, List.length_append, List.length_range] at *; omega))
local macro_rules | `(tactic| walk_at "e2") => `(tactic| first
  | walk_at "e1" | with_reducible refine ⟨_, rfl, ?_⟩ | with_reducible refine ⟨_, _, rfl, ?_⟩
  | with_reducible refine And.intro (Eq.refl (List.length _)) ?_ | with_reducible refine And.intro (Nat.le_of_ble_eq_true (n := List.length _) rfl) ?_
  | with_reducible refine And.intro (Eq.refl (_ : Sx)) (?_ : Ed _ _)
  | ((with_reducible refine And.intro ?_ (And.intro ?_ (?_ : Ev _ _))); (· rfl); (· rfl))
  | ((with_reducible refine ed_ixT ?_ ?_ ?_); (· decide); (· rfl)) | ((with_reducible refine ed_ixL ?_ ?_ ?_); (· decide); (· rfl)) | ((with_reducible refine ed_at ?_ ?_ ?_); (· decide); (· rfl))
  | ((with_reducible refine ed_modI ?_ ?_); (· first | decide | omega))
  | with_reducible exact gives_nx | ((with_reducible refine gives_rt ?_); (· rfl)) | ((with_reducible refine And.intro ?_ ?_); (· exact rfl); (· with_reducible exact Eq.refl (_ : Sx))))
local macro_rules | `(tactic| walk_at "e") => `(tactic| repeat walk_at "e2")
/-- begin a def's spec -/
local macro_rules | `(tactic| walk_at "i") => `(tactic| simp only [initS, List.map_cons, List.map_nil, List.length_cons, List.length_nil, Nat.reduceAdd, Nat.reduceSub, List.replicate, List.cons_append, List.nil_append])
/-- a known truth decides -/
local macro_rules | `(tactic| walk_at "t") => `(tactic| first | ((with_reducible refine split_t ?_ ?_); (· walk_at "sd")) | ((with_reducible refine split_t' ?_ ?_); (· walk_at "sd")))
local macro_rules | `(tactic| walk_at "f") => `(tactic| first | ((with_reducible refine split_f ?_ ?_); (· walk_at "sd")) | ((with_reducible refine split_f' ?_ ?_); (· walk_at "sd")))
/-- all that is seen in a look -/
local macro_rules | `(tactic| walk_at "v") => `(tactic| (rw [sealAll_mk (by (simp only [List.set_cons_zero, List.set_cons_succ, List.map_cons, List.map_nil, sealS_none, sealS_dat, sealS_scr, sealS_own, List.getElem?_cons_zero, List.getElem?_cons_succ, sealC_lst]; rfl)) (by (simp only [List.set_cons_zero, List.set_cons_succ, List.map_cons, List.map_nil]; rfl))]))
namespace Gr
/-! #### the greatest count -/
end Gr
end Lw

set_option maxHeartbeats 4000000
namespace Lw
open PySem Fu
local macro_rules | `(tactic| walk_at "e1") => `(tactic| first
  | with_reducible refine eo_seq ?_ | (with_reducible refine then_nx' ?_; refine ⟨?_, ?_, ?_⟩; rotate_left; · (try dsimp only [List.set, List.length_cons, List.length_nil, List.cons_append, List.nil_append, Nat.zero_add, Nat.reduceAdd]); exact rfl) | with_reducible refine then_rt ?_ | with_reducible refine eo_if ?_ | with_reducible refine eo_ret ?_ | with_reducible refine eo_set ?_ | with_reducible refine eo_asg ?_ | with_reducible refine eo_drop ?_ | with_reducible refine eo_nx ?_ | with_reducible refine eo_par ?_ | with_reducible refine eo_own ?_ | with_reducible refine eo_retN ?_ | with_reducible refine eo_for ?_ | with_reducible refine eo_retO ?_
  | with_reducible refine ev_c ?_ | (with_reducible refine ev_var ?_; refine ⟨_, rfl, ?_⟩) | with_reducible refine ev_bin ?_ | with_reducible refine ev_un ?_ | with_reducible refine ev_nil ?_ | with_reducible refine ev_cons ?_
  | with_reducible refine ev_tup ?_ | with_reducible refine ev_lst ?_ | with_reducible refine ev_call ?_ | with_reducible refine ev_callF ?_ | with_reducible refine ev_isi ?_ | with_reducible refine ev_isi2 ?_ | with_reducible refine ev_andV ?_ | with_reducible refine ev_orV ?_ | with_reducible refine ev_notV ?_
  | with_reducible refine ev_B ?_ | with_reducible refine ev_and ?_ | with_reducible refine ev_or ?_ | with_reducible refine ev_not ?_ | with_reducible refine ev_yes ?_ | with_reducible refine ev_if ?_ | with_reducible refine ev_no ?_ | with_reducible refine ev_so ?_ | with_reducible refine ev_sl ?_ | with_reducible refine ev_items ?_
  | (with_reducible refine ev_ixO ?_; refine ⟨_, _, rfl, rfl, ?_⟩) | (with_reducible refine ev_varO ?_; refine ⟨_, _, rfl, rfl, ?_⟩) | (with_reducible refine ev_lenO ?_; refine ⟨_, _, rfl, rfl, ?_⟩) | (with_reducible refine ev_scrSl ?_; refine ⟨_, rfl, ?_⟩) | (with_reducible refine ev_scrLen ?_; refine ⟨_, rfl, ?_⟩) | (with_reducible refine ev_callScr ?_; refine ⟨_, rfl, ?_⟩) | (with_reducible refine ev_OL ?_; refine ⟨_, _, rfl, rfl, ?_⟩) | with_reducible refine ev_OR ?_ | with_reducible refine ev_rep ?_ | with_reducible refine ev_listRng1 ?_ | with_reducible refine eo_setO ?_
  | with_reducible refine es_name ?_ | with_reducible refine es_tup2 ?_ | with_reducible refine es_tup3 ?_
  | with_reducible refine ed_addI ?_ | with_reducible refine ed_subI ?_ | with_reducible refine ed_cmp ?_ | with_reducible refine ed_eqI ?_ | with_reducible refine ed_neI ?_ | with_reducible refine ed_slT ?_ | with_reducible refine ed_slL ?_ | with_reducible refine ed_lenT ?_ | with_reducible refine ed_lenL ?_ | with_reducible refine ed_lenS ?_ | with_reducible refine ed_inS ?_ | with_reducible refine ed_itT ?_ | with_reducible refine ed_itL ?_ | with_reducible refine ed_tupL ?_ | with_reducible refine ed_tupT ?_ | with_reducible refine ed_listL ?_ | with_reducible refine ed_listT ?_ | with_reducible refine ed_neg ?_ | with_reducible refine ed_max ?_ | with_reducible refine ed_min ?_ | with_reducible refine ed_intB ?_
  | with_reducible refine ev_rng1 ?_ | with_reducible refine ev_rng2 ?_)
local macro_rules | `(tactic| walk_at "sd") => `(tactic| first | rfl | assumption | (simp only [decide_eq_true_eq, decide_eq_false_iff_not, Bool.not_eq_true', Bool.not_eq_false', Bool.and_eq_true, Bool.or_eq_true, List.length_map, List.length_cons, List.length_nil, List.length_append, List.length_range] at *; omega))
local macro_rules | `(tactic| walk_at "e2") => `(tactic| first
  | walk_at "e1" | with_reducible refine ⟨_, rfl, ?_⟩ | with_reducible refine ⟨_, _, rfl, ?_⟩
  | with_reducible refine And.intro (Eq.refl (List.length _)) ?_ | with_reducible refine And.intro (Nat.le_of_ble_eq_true (n := List.length _) rfl) ?_
  | with_reducible refine And.intro (Eq.refl (_ : Sx)) (?_ : Ed _ _)
  | ((with_reducible refine And.intro ?_ (And.intro ?_ (?_ : Ev _ _))); (· rfl); (· rfl))
  | ((with_reducible refine ed_ixT ?_ ?_ ?_); (· decide); (· rfl)) | ((with_reducible refine ed_ixL ?_ ?_ ?_); (· decide); (· rfl)) | ((with_reducible refine ed_at ?_ ?_ ?_); (· decide); (· rfl))
  | ((with_reducible refine ed_modI ?_ ?_); (· first | decide | omega))
  | with_reducible exact gives_nx | ((with_reducible refine gives_rt ?_); (· rfl)) | ((with_reducible refine And.intro ?_ ?_); (· exact rfl); (· with_reducible exact Eq.refl (_ : Sx))))
local macro_rules | `(tactic| walk_at "e") => `(tactic| repeat walk_at "e2")
/-- begin a def's spec -/
local macro_rules | `(tactic| walk_at "i") => `(tactic| simp only [initS, List.map_cons, List.map_nil, List.length_cons, List.length_nil, Nat.reduceAdd, Nat.reduceSub, List.replicate, List.cons_append, List.nil_append])
/-- a known truth decides -/
local macro_rules | `(tactic| walk_at "t") => `(tactic| first | ((with_reducible refine split_t ?_ ?_); (· walk_at "sd")) | ((with_reducible refine split_t' ?_ ?_); (· walk_at "sd")))
local macro_rules | `(tactic| walk_at "f") => `(tactic| first | ((with_reducible refine split_f ?_ ?_); (· walk_at "sd")) | ((with_reducible refine split_f' ?_ ?_); (· walk_at "sd")))
/-- all that is seen in a look -/
local macro_rules | `(tactic| walk_at "v") => `(tactic| (rw [sealAll_mk (by (simp only [List.set_cons_zero, List.set_cons_succ, List.map_cons, List.map_nil, sealS_none, sealS_dat, sealS_scr, sealS_own, List.getElem?_cons_zero, List.getElem?_cons_succ, sealC_lst]; rfl)) (by (simp only [List.set_cons_zero, List.set_cons_succ, List.map_cons, List.map_nil]; rfl))]))
namespace Gr
/-! #### all places together -/
end Gr
end Lw

set_option maxHeartbeats 4000000
namespace Lw
open PySem Fu
local macro_rules | `(tactic| walk_at "e1") => `(tactic| first
  | with_reducible refine eo_seq ?_ | (with_reducible refine then_nx' ?_; refine ⟨?_, ?_, ?_⟩; rotate_left; · (try dsimp only [List.set, List.length_cons, List.length_nil, List.cons_append, List.nil_append, Nat.zero_add, Nat.reduceAdd]); exact rfl) | with_reducible refine then_rt ?_ | with_reducible refine eo_if ?_ | with_reducible refine eo_ret ?_ | with_reducible refine eo_set ?_ | with_reducible refine eo_asg ?_ | with_reducible refine eo_drop ?_ | with_reducible refine eo_nx ?_ | with_reducible refine eo_par ?_ | with_reducible refine eo_own ?_ | with_reducible refine eo_retN ?_ | with_reducible refine eo_for ?_ | with_reducible refine eo_retO ?_
  | with_reducible refine ev_c ?_ | (with_reducible refine ev_var ?_; refine ⟨_, rfl, ?_⟩) | with_reducible refine ev_bin ?_ | with_reducible refine ev_un ?_ | with_reducible refine ev_nil ?_ | with_reducible refine ev_cons ?_
  | with_reducible refine ev_tup ?_ | with_reducible refine ev_lst ?_ | with_reducible refine ev_call ?_ | with_reducible refine ev_callF ?_ | with_reducible refine ev_isi ?_ | with_reducible refine ev_isi2 ?_ | with_reducible refine ev_andV ?_ | with_reducible refine ev_orV ?_ | with_reducible refine ev_notV ?_
  | with_reducible refine ev_B ?_ | with_reducible refine ev_and ?_ | with_reducible refine ev_or ?_ | with_reducible refine ev_not ?_ | with_reducible refine ev_yes ?_ | with_reducible refine ev_if ?_ | with_reducible refine ev_no ?_ | with_reducible refine ev_so ?_ | with_reducible refine ev_sl ?_ | with_reducible refine ev_items ?_
  | (with_reducible refine ev_ixO ?_; refine ⟨_, _, rfl, rfl, ?_⟩) | (with_reducible refine ev_varO ?_; refine ⟨_, _, rfl, rfl, ?_⟩) | (with_reducible refine ev_lenO ?_; refine ⟨_, _, rfl, rfl, ?_⟩) | (with_reducible refine ev_scrSl ?_; refine ⟨_, rfl, ?_⟩) | (with_reducible refine ev_scrLen ?_; refine ⟨_, rfl, ?_⟩) | (with_reducible refine ev_callScr ?_; refine ⟨_, rfl, ?_⟩) | (with_reducible refine ev_OL ?_; refine ⟨_, _, rfl, rfl, ?_⟩) | with_reducible refine ev_OR ?_ | with_reducible refine ev_rep ?_ | with_reducible refine ev_listRng1 ?_ | with_reducible refine eo_setO ?_
  | with_reducible refine es_name ?_ | with_reducible refine es_tup2 ?_ | with_reducible refine es_tup3 ?_
  | with_reducible refine ed_addI ?_ | with_reducible refine ed_subI ?_ | with_reducible refine ed_cmp ?_ | with_reducible refine ed_eqI ?_ | with_reducible refine ed_neI ?_ | with_reducible refine ed_slT ?_ | with_reducible refine ed_slL ?_ | with_reducible refine ed_lenT ?_ | with_reducible refine ed_lenL ?_ | with_reducible refine ed_lenS ?_ | with_reducible refine ed_inS ?_ | with_reducible refine ed_itT ?_ | with_reducible refine ed_itL ?_ | with_reducible refine ed_tupL ?_ | with_reducible refine ed_tupT ?_ | with_reducible refine ed_listL ?_ | with_reducible refine ed_listT ?_ | with_reducible refine ed_neg ?_ | with_reducible refine ed_max ?_ | with_reducible refine ed_min ?_ | with_reducible refine ed_intB ?_
  | with_reducible refine ev_rng1 ?_ | with_reducible refine ev_rng2 ?_)
local macro_rules | `(tactic| walk_at "sd") => `(tactic| first | rfl | assumption | (simp only [decide_eq_true_eq, decide_eq_false_iff_not, Bool.not_eq_true', Bool.not_eq_false', Bool.and_eq_true, Bool.or_eq_true, List.length_map, List.length_cons, List.length_nil, List.length_append, List.length_range] at *; omega))
local macro_rules | `(tactic| walk_at "e2") => `(tactic| first
  | walk_at "e1" | with_reducible refine ⟨_, rfl, ?_⟩ | with_reducible refine ⟨_, _, rfl, ?_⟩
  | with_reducible refine And.intro (Eq.refl (List.length _)) ?_ | with_reducible refine And.intro (Nat.le_of_ble_eq_true (n := List.length _) rfl) ?_
  | with_reducible refine And.intro (Eq.refl (_ : Sx)) (?_ : Ed _ _)
  | ((with_reducible refine And.intro ?_ (And.intro ?_ (?_ : Ev _ _))); (· rfl); (· rfl))
  | ((with_reducible refine ed_ixT ?_ ?_ ?_); (· decide); (· rfl)) | ((with_reducible refine ed_ixL ?_ ?_ ?_); (· decide); (· rfl)) | ((with_reducible refine ed_at ?_ ?_ ?_); (· decide); (· rfl))
  | ((with_reducible refine ed_modI ?_ ?_); (· first | decide | omega))
  | with_reducible exact gives_nx | ((with_reducible refine gives_rt ?_); (· rfl)) | ((with_reducible refine And.intro ?_ ?_); (· exact rfl); (· with_reducible exact Eq.refl (_ : Sx))))
local macro_rules | `(tactic| walk_at "e") => `(tactic| repeat walk_at "e2")
/-- begin a def's spec -/
local macro_rules | `(tactic| walk_at "i") => `(tactic| simp only [initS, List.map_cons, List.map_nil, List.length_cons, List.length_nil, Nat.reduceAdd, Nat.reduceSub, List.replicate, List.cons_append, List.nil_append])
/-- a known truth decides -/
local macro_rules | `(tactic| walk_at "t") => `(tactic| first | ((with_reducible refine split_t ?_ ?_); (· walk_at "sd")) | ((with_reducible refine split_t' ?_ ?_); (· walk_at "sd")))
local macro_rules | `(tactic| walk_at "f") => `(tactic| first | ((with_reducible refine split_f ?_ ?_); (· walk_at "sd")) | ((with_reducible refine split_f' ?_ ?_); (· walk_at "sd")))
/-- all that is seen in a look -/
local macro_rules | `(tactic| walk_at "v") => `(tactic| (rw [sealAll_mk (by (simp only [List.set_cons_zero, List.set_cons_succ, List.map_cons, List.map_nil, sealS_none, sealS_dat, sealS_scr, sealS_own, List.getElem?_cons_zero, List.getElem?_cons_succ, sealC_lst]; rfl)) (by (simp only [List.set_cons_zero, List.set_cons_succ, List.map_cons, List.map_nil]; rfl))]))
namespace Pt
/-! ### marks carried along lines -/
def mstep (f : Int → Int) (l : Ln) : Int → Int := fun q => if q = l.1 ∨ q = l.2.1 then min (f l.1) (f l.2.1) else f q
def mround (ls : List Ln) (f : Int → Int) : Int → Int := ls.foldl mstep f
def mrounds (ls : List Ln) : Nat → Int → Int
  | 0 => fun q => q
  | t + 1 => mround ls (mrounds ls t)
/-- the least place that hangs together with a place -/
def cm (p : Int) (ls : List Ln) : Int → Int := mrounds ls p.toNat
theorem mstep_le (f : Int → Int) (l : Ln) (q : Int) : mstep f l q ≤ f q := by
  unfold mstep
  split
  · rename_i h
    rcases h with h | h <;> subst h <;> omega
  · exact Int.le_refl _
theorem mround_le : ∀ (ls : List Ln) (f : Int → Int) (q : Int), mround ls f q ≤ f q
  | [], f, q => Int.le_refl _
  | l :: ls, f, q => Int.le_trans (mround_le ls (mstep f l) q) (mstep_le f l q)
theorem mround_nn {ls : List Ln} (h : ∀ l ∈ ls, 0 ≤ l.1 ∧ 0 ≤ l.2.1) {f : Int → Int} (hf : ∀ q, 0 ≤ q → 0 ≤ f q) : ∀ q, 0 ≤ q → 0 ≤ mround ls f q := by
  induction ls generalizing f with
  | nil => exact hf
  | cons l ls ih =>
    refine ih (fun k hk => h k (List.mem_cons_of_mem _ hk)) (f := mstep f l) fun q hq => ?_
    obtain ⟨a, b⟩ := h l List.mem_cons_self
    unfold mstep
    have := hf _ a
    have := hf _ b
    split
    · omega
    · exact hf q hq
theorem mrounds_nn {ls : List Ln} (h : ∀ l ∈ ls, 0 ≤ l.1 ∧ 0 ≤ l.2.1) : ∀ (t : Nat) (q : Int), 0 ≤ q → 0 ≤ mrounds ls t q
  | 0, _, hq => hq
  | t + 1, q, hq => mround_nn h (mrounds_nn h t) q hq
def Cl (ls : List Ln) (Q : Int → Prop) : Prop := ∀ l ∈ ls, Q l.1 ↔ Q l.2.1
/-- marks stay within what is closed -/
theorem mround_in {ls : List Ln} {Q : Int → Prop} (h : Cl ls Q) {f : Int → Int} (hf : ∀ q, Q (f q) ↔ Q q) : ∀ q, Q (mround ls f q) ↔ Q q := by
  induction ls generalizing f with
  | nil => exact hf
  | cons l ls ih =>
    refine ih (fun k hk => h k (List.mem_cons_of_mem _ hk)) (f := mstep f l) fun q => ?_
    have hl := h l List.mem_cons_self
    have h1 := hf l.1
    have h2 := hf l.2.1
    unfold mstep
    split
    · rename_i hq
      have e : Q (min (f l.1) (f l.2.1)) ↔ Q l.1 := by
        rcases Int.le_total (f l.1) (f l.2.1) with z | z
        · rw [Int.min_eq_left z]; exact h1
        · rw [Int.min_eq_right z]; exact h2.trans hl.symm
      rcases hq with hq | hq
      · rw [hq]; exact e
      · rw [hq]; exact e.trans hl
    · exact hf q
theorem mrounds_in {ls : List Ln} {Q : Int → Prop} (h : Cl ls Q) : ∀ (t : Nat) (q : Int), Q (mrounds ls t q) ↔ Q q
  | 0, _ => Iff.rfl
  | t + 1, q => mround_in h (mrounds_in h t) q
theorem cm_in {p : Int} {ls : List Ln} {Q : Int → Prop} (h : Cl ls Q) (q : Int) : Q (cm p ls q) ↔ Q q := mrounds_in h _ q
theorem cm_sep {p : Int} {ls : List Ln} {Q : Int → Prop} (h : Cl ls Q) {a b : Int} (e : cm p ls a = cm p ls b) : Q a ↔ Q b :=
  (cm_in (p := p) h a).symm.trans (e ▸ cm_in (p := p) h b)
/-- where the marks under m are closed, nothing changes there -/
theorem mround_cl {ls : List Ln} {f g : Int → Int} {m : Int} (h : Cl ls fun q => f q ≤ m) (hg : ∀ q, g q ≤ m ↔ f q ≤ m) : ∀ q, mround ls g q ≤ m ↔ f q ≤ m := by
  induction ls generalizing g with
  | nil => exact hg
  | cons l ls ih =>
    refine ih (fun k hk => h k (List.mem_cons_of_mem _ hk)) (g := mstep g l) fun q => ?_
    have hl := h l List.mem_cons_self
    simp only at hl
    have h1 := hg l.1
    have h2 := hg l.2.1
    unfold mstep
    split
    · rename_i hq
      have e : min (g l.1) (g l.2.1) ≤ m ↔ f l.1 ≤ m := by
        rcases Int.le_total (g l.1) (g l.2.1) with z | z
        · rw [Int.min_eq_left z]; exact h1
        · rw [Int.min_eq_right z]; exact h2.trans hl.symm
      rcases hq with hq | hq
      · rw [hq]; exact e
      · rw [hq]; exact e.trans hl
    · exact hg q
/-- where they are not, one place more comes in -/
theorem mround_op {ls : List Ln} {f : Int → Int} {m : Int} (h : ¬ Cl ls fun q => f q ≤ m) : ∃ l ∈ ls, ∃ q, (q = l.1 ∨ q = l.2.1) ∧ mround ls f q ≤ m ∧ ¬ f q ≤ m := by
  have h2 : ∃ l ∈ ls, ¬ (f l.1 ≤ m ↔ f l.2.1 ≤ m) := by
    refine Classical.byContradiction fun z => h fun l hl => Classical.byContradiction fun y => z ⟨l, hl, y⟩
  obtain ⟨l, hl, hn⟩ := h2
  obtain ⟨xs, ys, rfl⟩ := List.append_of_mem hl
  have key : ∀ q, (q = l.1 ∨ q = l.2.1) → (f l.1 ≤ m ∨ f l.2.1 ≤ m) → mround (xs ++ l :: ys) f q ≤ m := by
    intro q hq ho
    have e : mround (xs ++ l :: ys) f q = mround ys (mstep (mround xs f) l) q := by
      unfold mround
      rw [List.foldl_append, List.foldl_cons]
    rw [e]
    refine Int.le_trans (mround_le ys _ q) ?_
    unfold mstep
    rw [if_pos hq]
    have a := mround_le xs f l.1
    have b := mround_le xs f l.2.1
    omega
  by_cases h1 : f l.1 ≤ m
  · refine ⟨l, hl, l.2.1, .inr rfl, key _ (.inr rfl) (.inl h1), fun z => hn ⟨fun _ => z, fun _ => h1⟩⟩
  · by_cases h2 : f l.2.1 ≤ m
    · exact ⟨l, hl, l.1, .inl rfl, key _ (.inl rfl) (.inr h2), h1⟩
    · exact absurd ⟨fun z => absurd z h1, fun z => absurd z h2⟩ hn
def cnt (n : Nat) (f : Int → Int) (m : Int) : Nat := (List.range n).countP fun i : Nat => decide (f i ≤ m)
theorem countP_lt {α : Type} {P Q : α → Bool} : ∀ {l : List α} {x : α}, (∀ y ∈ l, P y = true → Q y = true) → x ∈ l → P x = false → Q x = true → l.countP P + 1 ≤ l.countP Q
  | [], x, _, hx, _, _ => nomatch hx
  | y :: l, x, h, hx, h1, h2 => by
    rcases List.mem_cons.mp hx with z | z
    · subst z
      rw [List.countP_cons_of_neg (by rw [h1]; decide), List.countP_cons_of_pos h2]
      have := List.countP_mono_left (l := l) (p := P) (q := Q) fun y hy => h y (List.mem_cons_of_mem _ hy)
      omega
    · have := countP_lt (fun y hy => h y (List.mem_cons_of_mem _ hy)) z h1 h2
      rw [List.countP_cons, List.countP_cons]
      have hy := h y List.mem_cons_self
      cases e1 : P y
      · simp; omega
      · rw [hy e1]; simp; omega
theorem cl_or {n : Nat} {ls : List Ln} (h : ∀ l ∈ ls, 0 ≤ l.1 ∧ l.1 < n ∧ 0 ≤ l.2.1 ∧ l.2.1 < n) (m : Int) : ∀ t : Nat, (Cl ls fun q => mrounds ls t q ≤ m) ∨ t + cnt n (mrounds ls 0) m ≤ cnt n (mrounds ls t) m
  | 0 => .inr (by omega)
  | t + 1 => by
    by_cases hc : Cl ls fun q => mrounds ls t q ≤ m
    · refine .inl ?_
      have := mround_cl hc (g := mrounds ls t) fun q => Iff.rfl
      intro l hl
      simp only [mrounds]
      exact (this l.1).trans ((hc l hl).trans (this l.2.1).symm)
    · rcases cl_or h m t with z | z
      · exact absurd z hc
      · refine .inr ?_
        obtain ⟨l, hl, q, hq, q1, q2⟩ := mround_op hc
        obtain ⟨a0, a1, b0, b1⟩ := h l hl
        have hq' : 0 ≤ q ∧ q < n := by rcases hq with hq | hq <;> subst hq <;> exact ⟨by assumption, by assumption⟩
        have e : ((q.toNat : Nat) : Int) = q := by omega
        have := countP_lt (l := List.range n) (P := fun i : Nat => decide (mrounds ls t i ≤ m)) (Q := fun i : Nat => decide (mrounds ls (t + 1) i ≤ m)) (x := q.toNat)
          (fun y _ hy => decide_eq_true (Int.le_trans (mround_le ls _ _) (of_decide_eq_true hy))) (List.mem_range.mpr (by omega)) (by rw [e]; exact decide_eq_false q2) (by rw [e]; exact decide_eq_true q1)
        unfold cnt at z ⊢
        omega
/-- marks are alike along lines in the end -/
theorem cm_line {p : Int} {ls : List Ln} (h : ∀ l ∈ ls, 0 ≤ l.1 ∧ l.1 < p ∧ 0 ≤ l.2.1 ∧ l.2.1 < p) {l : Ln} (hl : l ∈ ls) : cm p ls l.1 = cm p ls l.2.1 := by
  have hp : ((p.toNat : Nat) : Int) = p := by have := h l hl; omega
  have h' : ∀ l ∈ ls, 0 ≤ l.1 ∧ l.1 < (p.toNat : Nat) ∧ 0 ≤ l.2.1 ∧ l.2.1 < (p.toNat : Nat) := by rw [hp]; exact h
  have hnn : ∀ l ∈ ls, 0 ≤ l.1 ∧ 0 ≤ l.2.1 := fun l hl => ⟨(h l hl).1, (h l hl).2.2.1⟩
  have key : ∀ m : Int, 0 ≤ m → Cl ls fun q => cm p ls q ≤ m := by
    intro m hm
    rcases cl_or h' m p.toNat with z | z
    · exact z
    · have h1 : cnt p.toNat (mrounds ls p.toNat) m ≤ p.toNat := by
        unfold cnt
        have := List.countP_le_length (p := fun i : Nat => decide (mrounds ls p.toNat i ≤ m)) (l := List.range p.toNat)
        rwa [List.length_range] at this
      have h2 : 0 < cnt p.toNat (mrounds ls 0) m := by
        unfold cnt
        refine List.countP_pos_iff.mpr ⟨0, List.mem_range.mpr ?_, decide_eq_true hm⟩
        have := h l hl
        omega
      omega
  obtain ⟨a0, a1, b0, b1⟩ := h l hl
  have n1 := mrounds_nn hnn p.toNat _ a0
  have n2 := mrounds_nn hnn p.toNat _ b0
  exact Int.le_antisymm ((key _ n2 l hl).mpr (Int.le_refl _)) ((key _ n1 l hl).mp (Int.le_refl _))
/-! ### parts, line by line -/
def lat (ls : List Ln) (i : Nat) : Ln := ls.getD i (0, 0, 0)
theorem lat_of {ls : List Ln} {i : Nat} {l : Ln} (h : ls[i]? = some l) : lat ls i = l := by unfold lat; rw [List.getD_eq_getElem?_getD, h]; rfl
theorem lat_at {ls : List Ln} {i : Nat} (h : i < ls.length) : ls[i]? = some (lat ls i) := by rw [lat_of (List.getElem?_eq_getElem h)]; exact List.getElem?_eq_getElem h
theorem lat_mem {ls : List Ln} {i : Nat} (h : i < ls.length) : lat ls i ∈ ls := List.mem_of_getElem? (lat_at h)
def met (ls : List Ln) (part : List Nat) : List Int := part.flatMap fun i => [(lat ls i).1, (lat ls i).2.1]
def hang (ls : List Ln) (part : List Nat) (i : Nat) : Bool := decide ((lat ls i).1 ∈ met ls part ∨ (lat ls i).2.1 ∈ met ls part)
def clr (p : Int) (ls : List Ln) (i : Nat) : Int := cm p ls (lat ls i).1
theorem mem_met {ls : List Ln} {part : List Nat} {q : Int} : q ∈ met ls part ↔ ∃ i ∈ part, q = (lat ls i).1 ∨ q = (lat ls i).2.1 := by
  unfold met
  rw [List.mem_flatMap]
  simp only [List.mem_cons, List.not_mem_nil, or_false]
theorem met_clr {p : Int} {ls : List Ln} (h : ∀ l ∈ ls, 0 ≤ l.1 ∧ l.1 < p ∧ 0 ≤ l.2.1 ∧ l.2.1 < p) {i : Nat} (hi : i < ls.length) {q : Int} (hq : q = (lat ls i).1 ∨ q = (lat ls i).2.1) : cm p ls q = clr p ls i := by
  rcases hq with hq | hq
  · rw [hq]; rfl
  · rw [hq]; exact (cm_line h (lat_mem hi)).symm
structure Inn (p : Int) (ls : List Ln) (L : List Nat) (s : Nat) (part left more : List Nat) : Prop where
  left_eq : left = L.filter fun i => decide (i ∉ part)
  sub : ∀ i ∈ part, i ∈ L ∧ clr p ls i = clr p ls s
  nd : part.Nodup
  more_eq : (part = [] ∧ more = [s]) ∨ (s ∈ part ∧ more = left.filter (hang ls part))
section
variable {p : Int} {ls : List Ln} {L : List Nat} {s : Nat} {part left more : List Nat}
theorem Inn.more_sub (I : Inn p ls L s part left more) (hs : s ∈ L) : ∀ i ∈ more, i ∈ left := by
  intro i hi
  rcases I.more_eq with ⟨h1, h2⟩ | ⟨_, h2⟩
  · rw [h2] at hi
    rw [List.mem_singleton.mp hi, I.left_eq, h1, List.mem_filter]
    exact ⟨hs, by simp⟩
  · rw [h2] at hi
    exact (List.mem_filter.mp hi).1
theorem Inn.more_nd (I : Inn p ls L s part left more) (hL : L.Nodup) : more.Nodup := by
  rcases I.more_eq with ⟨_, h2⟩ | ⟨_, h2⟩
  · rw [h2]; exact List.nodup_cons.mpr ⟨List.not_mem_nil, List.nodup_nil⟩
  · rw [h2, I.left_eq]; exact (hL.filter _).filter _
theorem Inn.more_clr (h : ∀ l ∈ ls, 0 ≤ l.1 ∧ l.1 < p ∧ 0 ≤ l.2.1 ∧ l.2.1 < p) (hn : ∀ i ∈ L, i < ls.length) (I : Inn p ls L s part left more) : ∀ i ∈ more, clr p ls i = clr p ls s := by
  intro i hi
  rcases I.more_eq with ⟨_, h2⟩ | ⟨_, h2⟩
  · rw [h2] at hi
    rw [List.mem_singleton.mp hi]
  · rw [h2, I.left_eq] at hi
    obtain ⟨h3, h4⟩ := List.mem_filter.mp hi
    have hiL := hn i (List.mem_filter.mp h3).1
    have key : ∀ q, (q = (lat ls i).1 ∨ q = (lat ls i).2.1) → q ∈ met ls part → clr p ls i = clr p ls s := by
      intro q hq hm
      obtain ⟨j, hj, hqj⟩ := mem_met.mp hm
      obtain ⟨j1, j2⟩ := I.sub j hj
      rw [← met_clr h hiL hq, met_clr h (hn j j1) hqj, j2]
    rcases of_decide_eq_true h4 with z | z
    · exact key _ (.inl rfl) z
    · exact key _ (.inr rfl) z
theorem Inn.step (h : ∀ l ∈ ls, 0 ≤ l.1 ∧ l.1 < p ∧ 0 ≤ l.2.1 ∧ l.2.1 < p) (hn : ∀ i ∈ L, i < ls.length) (hL : L.Nodup) (hs : s ∈ L) (I : Inn p ls L s part left more) (hm : more ≠ []) :
    Inn p ls L s (part ++ more) (left.filter fun i => decide (i ∉ more)) ((left.filter fun i => decide (i ∉ more)).filter (hang ls (part ++ more))) ∧ (left.filter fun i => decide (i ∉ more)).length < left.length := by
  have hsub := I.more_sub hs
  refine ⟨⟨?_, ?_, ?_, .inr ⟨?_, rfl⟩⟩, ?_⟩
  · rw [I.left_eq, List.filter_filter]
    refine List.filter_congr fun i _ => ?_
    by_cases a : i ∈ part <;> by_cases b : i ∈ more <;> simp [a, b]
  · intro i hi
    rcases List.mem_append.mp hi with z | z
    · exact I.sub i z
    · have := hsub i z
      rw [I.left_eq] at this
      exact ⟨(List.mem_filter.mp this).1, I.more_clr h hn i z⟩
  · refine List.nodup_append.mpr ⟨I.nd, I.more_nd hL, fun a ha b hb e => ?_⟩
    subst e
    have := hsub a hb
    rw [I.left_eq] at this
    exact of_decide_eq_true (List.mem_filter.mp this).2 ha
  · rcases I.more_eq with ⟨_, h2⟩ | ⟨h1, _⟩
    · rw [h2]; exact List.mem_append.mpr (.inr (List.mem_singleton.mpr rfl))
    · exact List.mem_append.mpr (.inl h1)
  · obtain ⟨x, hx⟩ := List.exists_mem_of_ne_nil _ hm
    have h1 := hsub x hx
    refine Nat.lt_of_le_of_ne (List.length_filter_le _ _) fun e => ?_
    have := List.length_filter_eq_length_iff.mp e x h1
    exact of_decide_eq_true this hx
theorem Inn.start (hs : s ∈ L) : Inn p ls L s [] L [s] := ⟨by rw [List.filter_eq_self.mpr (fun a _ => by simp)], (fun i hi => nomatch hi), List.nodup_nil, .inl ⟨rfl, rfl⟩⟩
/-- what the inner loop leaves -/
theorem Inn.done (h : ∀ l ∈ ls, 0 ≤ l.1 ∧ l.1 < p ∧ 0 ≤ l.2.1 ∧ l.2.1 < p) (hn : ∀ i ∈ L, i < ls.length) (hc : ∀ i, i < ls.length → clr p ls i = clr p ls s → i ∈ L) (hs : s ∈ L) (I : Inn p ls L s part left []) :
    (∀ i, i ∈ part ↔ i < ls.length ∧ clr p ls i = clr p ls s) ∧ left = L.filter fun i => decide (clr p ls i ≠ clr p ls s) := by
  obtain ⟨hsp, hm⟩ : s ∈ part ∧ ([] : List Nat) = left.filter (hang ls part) := by
    rcases I.more_eq with ⟨_, h2⟩ | h2
    · cases h2
    · exact h2
  have key : ∀ i, i < ls.length → (∃ q, (q = (lat ls i).1 ∨ q = (lat ls i).2.1) ∧ q ∈ met ls part) → i ∈ part := by
    rintro i hi ⟨q, hq, hqm⟩
    obtain ⟨j, hj, hqj⟩ := mem_met.mp hqm
    obtain ⟨j1, j2⟩ := I.sub j hj
    have hiL : i ∈ L := hc i hi (by rw [← met_clr h hi hq, met_clr h (hn j j1) hqj, j2])
    refine Classical.byContradiction fun z => ?_
    have : i ∈ left.filter (hang ls part) := by
      rw [I.left_eq]
      refine List.mem_filter.mpr ⟨List.mem_filter.mpr ⟨hiL, decide_eq_true z⟩, decide_eq_true ?_⟩
      rcases hq with hq | hq
      · exact .inl (hq ▸ hqm)
      · exact .inr (hq ▸ hqm)
    rw [← hm] at this
    cases this
  have cl : Cl ls fun q => q ∈ met ls part := by
    intro l hl
    obtain ⟨i, hi, e⟩ := List.getElem_of_mem hl
    have el : lat ls i = l := lat_of (by rw [List.getElem?_eq_getElem hi, e])
    constructor
    · intro hq
      exact mem_met.mpr ⟨i, key i hi ⟨_, .inl (by rw [el]), hq⟩, .inr (by rw [el])⟩
    · intro hq
      exact mem_met.mpr ⟨i, key i hi ⟨_, .inr (by rw [el]), hq⟩, .inl (by rw [el])⟩
  have h1 : ∀ i, i ∈ part ↔ i < ls.length ∧ clr p ls i = clr p ls s := by
    intro i
    constructor
    · intro hi
      obtain ⟨a, b⟩ := I.sub i hi
      exact ⟨hn i a, b⟩
    · rintro ⟨hi, e⟩
      exact key i hi ⟨_, .inl rfl, (cm_sep cl e).mpr (mem_met.mpr ⟨s, hsp, .inl rfl⟩)⟩
  refine ⟨h1, ?_⟩
  rw [I.left_eq]
  refine List.filter_congr fun i hi => ?_
  have := h1 i
  have hin := hn i hi
  by_cases z : clr p ls i = clr p ls s
  · simp [z, this, hin]
  · simp [z, this, hin]
end
set_option wf.preprocess false in
/-- the first ones of each kind -/
def heads (c : Nat → Int) : List Nat → List Int
  | [] => []
  | i :: L => c i :: heads c (L.filter fun j => decide (c j ≠ c i))
termination_by L => L.length
decreasing_by exact Nat.lt_succ_of_le (List.length_filter_le _ _)
theorem heads_nil (c : Nat → Int) : heads c [] = [] := by rw [heads]
theorem heads_cons (c : Nat → Int) (i : Nat) (L : List Nat) : heads c (i :: L) = c i :: heads c (L.filter fun j => decide (c j ≠ c i)) := by rw [heads]
theorem heads_facts (c : Nat → Int) : ∀ (n : Nat) (L : List Nat), L.length ≤ n → (heads c L).Nodup ∧ ∀ u, u ∈ heads c L ↔ ∃ i ∈ L, c i = u
  | _, [], _ => by rw [heads_nil]; exact ⟨List.nodup_nil, fun u => ⟨(fun z => nomatch z), (fun ⟨i, z, _⟩ => nomatch z)⟩⟩
  | 0, i :: L, h => by simp at h
  | n + 1, i :: L, h => by
    have hl : (L.filter fun j => decide (c j ≠ c i)).length ≤ n := Nat.le_trans (List.length_filter_le _ _) (by simpa using h)
    obtain ⟨h1, h2⟩ := heads_facts c n _ hl
    rw [heads_cons]
    refine ⟨List.nodup_cons.mpr ⟨fun z => ?_, h1⟩, fun u => ?_⟩
    · obtain ⟨j, hj, e⟩ := (h2 _).mp z
      exact of_decide_eq_true (List.mem_filter.mp hj).2 e
    · rw [List.mem_cons, h2]
      constructor
      · rintro (z | ⟨j, hj, e⟩)
        · exact ⟨i, List.mem_cons_self, z.symm⟩
        · exact ⟨j, List.mem_cons_of_mem _ (List.mem_filter.mp hj).1, e⟩
      · rintro ⟨j, hj, e⟩
        by_cases z : c j = c i
        · exact .inl (e.symm.trans z)
        · rcases List.mem_cons.mp hj with y | y
          · exact absurd (y ▸ rfl) z
          · exact .inr ⟨j, List.mem_filter.mpr ⟨y, decide_eq_true z⟩, e⟩
theorem heads_nd (c : Nat → Int) (L : List Nat) : (heads c L).Nodup := (heads_facts c _ L (Nat.le_refl _)).1
theorem mem_heads {c : Nat → Int} {L : List Nat} {u : Int} : u ∈ heads c L ↔ ∃ i ∈ L, c i = u := (heads_facts c _ L (Nat.le_refl _)).2 u
theorem heads_len (c : Nat → Int) : ∀ (n : Nat) (L : List Nat), L.length ≤ n → (heads c L).length ≤ L.length
  | _, [], _ => by rw [heads_nil]; exact Nat.le_refl _
  | 0, i :: L, h => by simp at h
  | n + 1, i :: L, h => by
    have hl : (L.filter fun j => decide (c j ≠ c i)).length ≤ n := Nat.le_trans (List.length_filter_le _ _) (by simpa using h)
    have := heads_len c n _ hl
    have := List.length_filter_le (fun j => decide (c j ≠ c i)) L
    rw [heads_cons, List.length_cons, List.length_cons]
    omega
/-- the lines of a kind -/
def partAt (p : Int) (ls : List Ln) (u : Int) : List Nat := (List.range ls.length).filter fun i => decide (clr p ls i = u)
def uss (p : Int) (ls : List Ln) : List Int := heads (clr p ls) (List.range ls.length)
/-- the parts -/
def partsL (p : Int) (ls : List Ln) : List (List Nat) := (uss p ls).map (partAt p ls)
theorem mem_partAt {p : Int} {ls : List Ln} {u : Int} {i : Nat} : i ∈ partAt p ls u ↔ i < ls.length ∧ clr p ls i = u := by
  unfold partAt
  rw [List.mem_filter, List.mem_range, decide_eq_true_eq]
/-- the outer loop -/
structure Outn (p : Int) (ls : List Ln) (us : List Int) (left : List Nat) : Prop where
  left_eq : left = (List.range ls.length).filter fun i => decide (clr p ls i ∉ us)
  us_eq : us ++ heads (clr p ls) left = uss p ls
theorem Outn.start {p : Int} {ls : List Ln} : Outn p ls [] (List.range ls.length) := ⟨by rw [List.filter_eq_self.mpr (fun a _ => by simp)], rfl⟩
theorem Outn.step {p : Int} {ls : List Ln} {us : List Int} {s : Nat} {L left : List Nat} (O : Outn p ls us (s :: L)) (hl : left = (s :: L).filter fun i => decide (clr p ls i ≠ clr p ls s)) : Outn p ls (us ++ [clr p ls s]) left := by
  refine ⟨?_, ?_⟩
  · rw [hl, O.left_eq, List.filter_filter]
    refine List.filter_congr fun i _ => ?_
    by_cases a : clr p ls i = clr p ls s
    · simp [a]
    · by_cases b : clr p ls i ∈ us <;> simp [a, b]
  · rw [← O.us_eq, heads_cons, List.append_assoc, List.singleton_append, hl, List.filter_cons_of_neg (by simp)]
theorem Outn.facts {p : Int} {ls : List Ln} {us : List Int} {s : Nat} {L : List Nat} (O : Outn p ls us (s :: L)) : (∀ i ∈ s :: L, i < ls.length) ∧ (s :: L).Nodup ∧ ∀ i, i < ls.length → clr p ls i = clr p ls s → i ∈ s :: L := by
  have hm : ∀ i, i ∈ s :: L ↔ i < ls.length ∧ clr p ls i ∉ us := fun i => by rw [O.left_eq, List.mem_filter, List.mem_range, decide_eq_true_eq]
  refine ⟨fun i hi => ((hm i).mp hi).1, ?_, fun i hi e => (hm i).mpr ⟨hi, ?_⟩⟩
  · rw [O.left_eq]; exact List.nodup_range.filter _
  · rw [e]; exact ((hm s).mp List.mem_cons_self).2
theorem Outn.done {p : Int} {ls : List Ln} {us : List Int} (O : Outn p ls us []) : us = uss p ls := by
  have := O.us_eq
  rwa [heads_nil, List.append_nil] at this
/-- the places of a part -/
theorem mem_met_part {p : Int} {ls : List Ln} (h : ∀ l ∈ ls, 0 ≤ l.1 ∧ l.1 < p ∧ 0 ≤ l.2.1 ∧ l.2.1 < p) {u : Int} (hu : u ∈ uss p ls) {q : Int} : q ∈ met ls (partAt p ls u) ↔ (0 ≤ q ∧ q < p) ∧ cm p ls q = u := by
  have key : ∀ i, i < ls.length → ∀ q, (q = (lat ls i).1 ∨ q = (lat ls i).2.1) → (q ∈ met ls (partAt p ls u) ↔ clr p ls i = u) := by
    intro i hi q hq
    constructor
    · intro hm
      obtain ⟨j, hj, hqj⟩ := mem_met.mp hm
      obtain ⟨j1, j2⟩ := mem_partAt.mp hj
      rw [← met_clr h hi hq, met_clr h j1 hqj, j2]
    · intro e
      exact mem_met.mpr ⟨i, mem_partAt.mpr ⟨hi, e⟩, hq⟩
  constructor
  · intro hm
    obtain ⟨j, hj, hqj⟩ := mem_met.mp hm
    obtain ⟨j1, j2⟩ := mem_partAt.mp hj
    obtain ⟨a0, a1, b0, b1⟩ := h _ (lat_mem j1)
    refine ⟨?_, by rw [met_clr h j1 hqj, j2]⟩
    rcases hqj with z | z <;> rw [z]
    · exact ⟨a0, a1⟩
    · exact ⟨b0, b1⟩
  · rintro ⟨_, e⟩
    obtain ⟨i, hi, e2⟩ := mem_heads.mp hu
    have hi := List.mem_range.mp hi
    have cl : Cl ls fun q => q ∈ met ls (partAt p ls u) := by
      intro l hl
      obtain ⟨j, hj, ej⟩ := List.getElem_of_mem hl
      have el : lat ls j = l := lat_of (by rw [List.getElem?_eq_getElem hj, ej])
      exact (key j hj l.1 (.inl (by rw [el]))).trans (key j hj l.2.1 (.inr (by rw [el]))).symm
    refine (cm_sep (p := p) cl (a := q) (b := (lat ls i).1) ?_).mpr ((key i hi _ (.inl rfl)).mpr e2)
    rw [e]; exact e2.symm
end Pt
end Lw

set_option maxHeartbeats 4000000
namespace Lw
open PySem Fu
local macro_rules | `(tactic| walk_at "e1") => `(tactic| first
  | with_reducible refine eo_seq ?_ | (with_reducible refine then_nx' ?_; refine ⟨?_, ?_, ?_⟩; rotate_left; · (try dsimp only [List.set, List.length_cons, List.length_nil, List.cons_append, List.nil_append, Nat.zero_add, Nat.reduceAdd]); exact rfl) | with_reducible refine then_rt ?_ | with_reducible refine eo_if ?_ | with_reducible refine eo_ret ?_ | with_reducible refine eo_set ?_ | with_reducible refine eo_asg ?_ | with_reducible refine eo_drop ?_ | with_reducible refine eo_nx ?_ | with_reducible refine eo_par ?_ | with_reducible refine eo_own ?_ | with_reducible refine eo_retN ?_ | with_reducible refine eo_for ?_ | with_reducible refine eo_retO ?_
  | with_reducible refine ev_c ?_ | (with_reducible refine ev_var ?_; refine ⟨_, rfl, ?_⟩) | with_reducible refine ev_bin ?_ | with_reducible refine ev_un ?_ | with_reducible refine ev_nil ?_ | with_reducible refine ev_cons ?_
  | with_reducible refine ev_tup ?_ | with_reducible refine ev_lst ?_ | with_reducible refine ev_call ?_ | with_reducible refine ev_callF ?_ | with_reducible refine ev_isi ?_ | with_reducible refine ev_isi2 ?_ | with_reducible refine ev_andV ?_ | with_reducible refine ev_orV ?_ | with_reducible refine ev_notV ?_
  | with_reducible refine ev_B ?_ | with_reducible refine ev_and ?_ | with_reducible refine ev_or ?_ | with_reducible refine ev_not ?_ | with_reducible refine ev_yes ?_ | with_reducible refine ev_if ?_ | with_reducible refine ev_no ?_ | with_reducible refine ev_so ?_ | with_reducible refine ev_sl ?_ | with_reducible refine ev_items ?_
  | (with_reducible refine ev_ixO ?_; refine ⟨_, _, rfl, rfl, ?_⟩) | (with_reducible refine ev_varO ?_; refine ⟨_, _, rfl, rfl, ?_⟩) | (with_reducible refine ev_lenO ?_; refine ⟨_, _, rfl, rfl, ?_⟩) | (with_reducible refine ev_scrSl ?_; refine ⟨_, rfl, ?_⟩) | (with_reducible refine ev_scrLen ?_; refine ⟨_, rfl, ?_⟩) | (with_reducible refine ev_callScr ?_; refine ⟨_, rfl, ?_⟩) | (with_reducible refine ev_OL ?_; refine ⟨_, _, rfl, rfl, ?_⟩) | with_reducible refine ev_OR ?_ | with_reducible refine ev_rep ?_ | with_reducible refine ev_listRng1 ?_ | with_reducible refine eo_setO ?_
  | with_reducible refine es_name ?_ | with_reducible refine es_tup2 ?_ | with_reducible refine es_tup3 ?_
  | with_reducible refine ed_addI ?_ | with_reducible refine ed_subI ?_ | with_reducible refine ed_cmp ?_ | with_reducible refine ed_eqI ?_ | with_reducible refine ed_neI ?_ | with_reducible refine ed_slT ?_ | with_reducible refine ed_slL ?_ | with_reducible refine ed_lenT ?_ | with_reducible refine ed_lenL ?_ | with_reducible refine ed_lenS ?_ | with_reducible refine ed_inS ?_ | with_reducible refine ed_itT ?_ | with_reducible refine ed_itL ?_ | with_reducible refine ed_tupL ?_ | with_reducible refine ed_tupT ?_ | with_reducible refine ed_listL ?_ | with_reducible refine ed_listT ?_ | with_reducible refine ed_neg ?_ | with_reducible refine ed_max ?_ | with_reducible refine ed_min ?_ | with_reducible refine ed_intB ?_
  | with_reducible refine ev_rng1 ?_ | with_reducible refine ev_rng2 ?_)
local macro_rules | `(tactic| walk_at "sd") => `(tactic| first | rfl | assumption | (simp only [decide_eq_true_eq, decide_eq_false_iff_not, Bool.not_eq_true', Bool.not_eq_false', Bool.and_eq_true, Bool.or_eq_true, List.length_map, List.length_cons, List.length_nil, List.length_append, List.length_range] at *; omega))
local macro_rules | `(tactic| walk_at "e2") => `(tactic| first
  | walk_at "e1" | with_reducible refine ⟨_, rfl, ?_⟩ | with_reducible refine ⟨_, _, rfl, ?_⟩
  | with_reducible refine And.intro (Eq.refl (List.length _)) ?_ | with_reducible refine And.intro (Nat.le_of_ble_eq_true (n := List.length _) rfl) ?_
  | with_reducible refine And.intro (Eq.refl (_ : Sx)) (?_ : Ed _ _)
  | ((with_reducible refine And.intro ?_ (And.intro ?_ (?_ : Ev _ _))); (· rfl); (· rfl))
  | ((with_reducible refine ed_ixT ?_ ?_ ?_); (· decide); (· rfl)) | ((with_reducible refine ed_ixL ?_ ?_ ?_); (· decide); (· rfl)) | ((with_reducible refine ed_at ?_ ?_ ?_); (· decide); (· rfl))
  | ((with_reducible refine ed_modI ?_ ?_); (· first | decide | omega))
  | with_reducible exact gives_nx | ((with_reducible refine gives_rt ?_); (· rfl)) | ((with_reducible refine And.intro ?_ ?_); (· exact rfl); (· with_reducible exact Eq.refl (_ : Sx))))
local macro_rules | `(tactic| walk_at "e") => `(tactic| repeat walk_at "e2")
/-- begin a def's spec -/
local macro_rules | `(tactic| walk_at "i") => `(tactic| simp only [initS, List.map_cons, List.map_nil, List.length_cons, List.length_nil, Nat.reduceAdd, Nat.reduceSub, List.replicate, List.cons_append, List.nil_append])
/-- a known truth decides -/
local macro_rules | `(tactic| walk_at "t") => `(tactic| first | ((with_reducible refine split_t ?_ ?_); (· walk_at "sd")) | ((with_reducible refine split_t' ?_ ?_); (· walk_at "sd")))
local macro_rules | `(tactic| walk_at "f") => `(tactic| first | ((with_reducible refine split_f ?_ ?_); (· walk_at "sd")) | ((with_reducible refine split_f' ?_ ?_); (· walk_at "sd")))
/-- all that is seen in a look -/
local macro_rules | `(tactic| walk_at "v") => `(tactic| (rw [sealAll_mk (by (simp only [List.set_cons_zero, List.set_cons_succ, List.map_cons, List.map_nil, sealS_none, sealS_dat, sealS_scr, sealS_own, List.getElem?_cons_zero, List.getElem?_cons_succ, sealC_lst]; rfl)) (by (simp only [List.set_cons_zero, List.set_cons_succ, List.map_cons, List.map_nil]; rfl))]))
namespace Pt
open Gr
/-! ### sums by parts -/
/-- the places of a kind -/
def placesAt (p : Int) (ls : List Ln) (u : Int) : List Nat := (List.range p.toNat).filter fun i : Nat => decide (cm p ls i = u)
/-- what a part wants -/
def wantAt (p : Int) (ls : List Ln) (u : Int) : Int := ((placesAt p ls u).map fun i : Nat => wnt ls i).sum
theorem mem_placesAt {p : Int} {ls : List Ln} {u : Int} {i : Nat} : i ∈ placesAt p ls u ↔ (i : Int) < p ∧ cm p ls i = u := by
  unfold placesAt
  rw [List.mem_filter, List.mem_range, decide_eq_true_eq]
  constructor
  · rintro ⟨a, b⟩; exact ⟨by omega, b⟩
  · rintro ⟨a, b⟩; exact ⟨by omega, b⟩
theorem pw_places (p : Int) (ls : List Ln) (u : Int) : ((placesAt p ls u).map fun i : Nat => (i : Int)).Pairwise (· < ·) := by
  rw [List.pairwise_map]
  unfold placesAt
  refine List.Pairwise.imp (fun h => ?_) (List.Pairwise.filter _ List.pairwise_lt_range)
  omega
/-- the places of a part's lines, sorted, are its places -/
theorem sset_places {p : Int} {ls : List Ln} (h : ∀ l ∈ ls, 0 ≤ l.1 ∧ l.1 < p ∧ 0 ≤ l.2.1 ∧ l.2.1 < p) {u : Int} (hu : u ∈ uss p ls) : sset (met ls (partAt p ls u)) = (placesAt p ls u).map fun i : Nat => (i : Int) := by
  refine pw_uniq (sset_pw _) (pw_places p ls u) fun q => ?_
  rw [mem_sset, mem_met_part h hu, List.mem_map]
  constructor
  · rintro ⟨⟨q0, q1⟩, e⟩
    have e1 : ((q.toNat : Nat) : Int) = q := by omega
    exact ⟨q.toNat, mem_placesAt.mpr (by rw [e1]; exact ⟨q1, e⟩), e1⟩
  · rintro ⟨i, hi, rfl⟩
    obtain ⟨a, b⟩ := mem_placesAt.mp hi
    exact ⟨⟨by omega, a⟩, b⟩
/-- the kinds, sorted -/
def usedL (p : Int) (ls : List Ln) : List Int := sset (ls.map fun l => cm p ls l.1)
theorem mem_uss {p : Int} {ls : List Ln} {u : Int} : u ∈ uss p ls ↔ ∃ l ∈ ls, cm p ls l.1 = u := by
  unfold uss
  rw [mem_heads]
  constructor
  · rintro ⟨i, hi, e⟩
    exact ⟨_, lat_mem (List.mem_range.mp hi), e⟩
  · rintro ⟨l, hl, e⟩
    obtain ⟨j, hj, ej⟩ := List.getElem_of_mem hl
    have el : lat ls j = l := lat_of (by rw [List.getElem?_eq_getElem hj, ej])
    exact ⟨j, List.mem_range.mpr hj, by unfold clr; rw [el]; exact e⟩
theorem pw_nodup {l : List Int} (h : l.Pairwise (· < ·)) : l.Nodup := List.Pairwise.imp (fun h e => by omega) h
theorem perm_of {l m : List Int} (h1 : l.Nodup) (h2 : m.Nodup) (h : ∀ a, a ∈ l ↔ a ∈ m) : l.Perm m := by
  rw [List.perm_iff_count]
  intro a
  rw [h1.count, h2.count]
  by_cases z : a ∈ l
  · rw [if_pos z, if_pos ((h a).mp z)]
  · rw [if_neg z, if_neg fun y => z ((h a).mpr y)]
theorem used_perm (p : Int) (ls : List Ln) : (uss p ls).Perm (usedL p ls) := by
  refine perm_of (heads_nd _ _) (pw_nodup (sset_pw _)) fun u => ?_
  unfold usedL
  rw [mem_uss, mem_sset, List.mem_map]
/-- the fewest -/
def few (p : Int) (ls : List Ln) : Int := ((uss p ls).map fun u => max 1 ((wantAt p ls u + 1) / 2)).sum
theorem perm_sum {l m : List Int} (h : l.Perm m) : l.sum = m.sum := by
  induction h with
  | nil => rfl
  | cons a _ ih => simp [ih]
  | swap a b l => simp; omega
  | trans _ _ h1 h2 => exact h1.trans h2
theorem uss_len (p : Int) (ls : List Ln) : (uss p ls).length ≤ ls.length := by
  have := heads_len (clr p ls) _ (List.range ls.length) (Nat.le_refl _)
  rwa [List.length_range] at this
theorem used_len (p : Int) (ls : List Ln) : (usedL p ls).length ≤ ls.length := (used_perm p ls).length_eq ▸ uss_len p ls
end Pt
end Lw

set_option maxHeartbeats 4000000
namespace Lw
open PySem Fu
local macro_rules | `(tactic| walk_at "e1") => `(tactic| first
  | with_reducible refine eo_seq ?_ | (with_reducible refine then_nx' ?_; refine ⟨?_, ?_, ?_⟩; rotate_left; · (try dsimp only [List.set, List.length_cons, List.length_nil, List.cons_append, List.nil_append, Nat.zero_add, Nat.reduceAdd]); exact rfl) | with_reducible refine then_rt ?_ | with_reducible refine eo_if ?_ | with_reducible refine eo_ret ?_ | with_reducible refine eo_set ?_ | with_reducible refine eo_asg ?_ | with_reducible refine eo_drop ?_ | with_reducible refine eo_nx ?_ | with_reducible refine eo_par ?_ | with_reducible refine eo_own ?_ | with_reducible refine eo_retN ?_ | with_reducible refine eo_for ?_ | with_reducible refine eo_retO ?_
  | with_reducible refine ev_c ?_ | (with_reducible refine ev_var ?_; refine ⟨_, rfl, ?_⟩) | with_reducible refine ev_bin ?_ | with_reducible refine ev_un ?_ | with_reducible refine ev_nil ?_ | with_reducible refine ev_cons ?_
  | with_reducible refine ev_tup ?_ | with_reducible refine ev_lst ?_ | with_reducible refine ev_call ?_ | with_reducible refine ev_callF ?_ | with_reducible refine ev_isi ?_ | with_reducible refine ev_isi2 ?_ | with_reducible refine ev_andV ?_ | with_reducible refine ev_orV ?_ | with_reducible refine ev_notV ?_
  | with_reducible refine ev_B ?_ | with_reducible refine ev_and ?_ | with_reducible refine ev_or ?_ | with_reducible refine ev_not ?_ | with_reducible refine ev_yes ?_ | with_reducible refine ev_if ?_ | with_reducible refine ev_no ?_ | with_reducible refine ev_so ?_ | with_reducible refine ev_sl ?_ | with_reducible refine ev_items ?_
  | (with_reducible refine ev_ixO ?_; refine ⟨_, _, rfl, rfl, ?_⟩) | (with_reducible refine ev_varO ?_; refine ⟨_, _, rfl, rfl, ?_⟩) | (with_reducible refine ev_lenO ?_; refine ⟨_, _, rfl, rfl, ?_⟩) | (with_reducible refine ev_scrSl ?_; refine ⟨_, rfl, ?_⟩) | (with_reducible refine ev_scrLen ?_; refine ⟨_, rfl, ?_⟩) | (with_reducible refine ev_callScr ?_; refine ⟨_, rfl, ?_⟩) | (with_reducible refine ev_OL ?_; refine ⟨_, _, rfl, rfl, ?_⟩) | with_reducible refine ev_OR ?_ | with_reducible refine ev_rep ?_ | with_reducible refine ev_listRng1 ?_ | with_reducible refine eo_setO ?_
  | with_reducible refine es_name ?_ | with_reducible refine es_tup2 ?_ | with_reducible refine es_tup3 ?_
  | with_reducible refine ed_addI ?_ | with_reducible refine ed_subI ?_ | with_reducible refine ed_cmp ?_ | with_reducible refine ed_eqI ?_ | with_reducible refine ed_neI ?_ | with_reducible refine ed_slT ?_ | with_reducible refine ed_slL ?_ | with_reducible refine ed_lenT ?_ | with_reducible refine ed_lenL ?_ | with_reducible refine ed_lenS ?_ | with_reducible refine ed_inS ?_ | with_reducible refine ed_itT ?_ | with_reducible refine ed_itL ?_ | with_reducible refine ed_tupL ?_ | with_reducible refine ed_tupT ?_ | with_reducible refine ed_listL ?_ | with_reducible refine ed_listT ?_ | with_reducible refine ed_neg ?_ | with_reducible refine ed_max ?_ | with_reducible refine ed_min ?_ | with_reducible refine ed_intB ?_)
local macro_rules | `(tactic| walk_at "e2") => `(tactic| first
  | walk_at "e1" | with_reducible refine ⟨_, rfl, ?_⟩ | with_reducible refine ⟨_, _, rfl, ?_⟩
  | with_reducible refine And.intro (Eq.refl (List.length _)) ?_ | with_reducible refine And.intro (Nat.le_of_ble_eq_true (n := List.length _) rfl) ?_
  | with_reducible refine And.intro (Eq.refl (_ : Sx)) (?_ : Ed _ _)
  | with_reducible exact gives_nx | with_reducible (refine gives_rt ?_; rfl))
local macro_rules | `(tactic| walk_at "e") => `(tactic| repeat walk_at "e2")
/-- begin a def's spec -/
local macro_rules | `(tactic| walk_at "i") => `(tactic| simp only [initS, List.map_cons, List.map_nil, List.length_cons, List.length_nil, Nat.reduceAdd, Nat.reduceSub, List.replicate, List.cons_append, List.nil_append])
def rv (es : List (Int × Int)) : List (Int × Int) := es.reverse.map far
def rot (k : Nat) (es : List (Int × Int)) : List (Int × Int) := es.drop k ++ es.take k
def ways (es : List (Int × Int)) : List (List (Int × Int)) := ((List.range es.length).map fun k => rot k es) ++ ((List.range es.length).map fun k => rot k (rv es))
def along (ls : List Ln) (es : List (Int × Int)) : List Int := es.map (plc ls) ++ [plc ls (far (lastE es))]
/-! ### rounds and rides, in plain words -/
/-! ### the least of all ways -/
end Lw

set_option maxHeartbeats 4000000
namespace Lw
open PySem Fu
local macro_rules | `(tactic| walk_at "e1") => `(tactic| first
  | with_reducible refine eo_seq ?_ | (with_reducible refine then_nx' ?_; refine ⟨?_, ?_, ?_⟩; rotate_left; · (try dsimp only [List.set, List.length_cons, List.length_nil, List.cons_append, List.nil_append, Nat.zero_add, Nat.reduceAdd]); exact rfl) | with_reducible refine then_rt ?_ | with_reducible refine eo_if ?_ | with_reducible refine eo_ret ?_ | with_reducible refine eo_set ?_ | with_reducible refine eo_asg ?_ | with_reducible refine eo_drop ?_ | with_reducible refine eo_nx ?_ | with_reducible refine eo_par ?_ | with_reducible refine eo_own ?_ | with_reducible refine eo_retN ?_ | with_reducible refine eo_for ?_ | with_reducible refine eo_retO ?_
  | with_reducible refine ev_c ?_ | (with_reducible refine ev_var ?_; refine ⟨_, rfl, ?_⟩) | with_reducible refine ev_bin ?_ | with_reducible refine ev_un ?_ | with_reducible refine ev_nil ?_ | with_reducible refine ev_cons ?_
  | with_reducible refine ev_tup ?_ | with_reducible refine ev_lst ?_ | with_reducible refine ev_call ?_ | with_reducible refine ev_callF ?_ | with_reducible refine ev_isi ?_ | with_reducible refine ev_isi2 ?_ | with_reducible refine ev_andV ?_ | with_reducible refine ev_orV ?_ | with_reducible refine ev_notV ?_
  | with_reducible refine ev_B ?_ | with_reducible refine ev_and ?_ | with_reducible refine ev_or ?_ | with_reducible refine ev_not ?_ | with_reducible refine ev_yes ?_ | with_reducible refine ev_if ?_ | with_reducible refine ev_no ?_ | with_reducible refine ev_so ?_ | with_reducible refine ev_sl ?_ | with_reducible refine ev_items ?_
  | (with_reducible refine ev_ixO ?_; refine ⟨_, _, rfl, rfl, ?_⟩) | (with_reducible refine ev_varO ?_; refine ⟨_, _, rfl, rfl, ?_⟩) | (with_reducible refine ev_lenO ?_; refine ⟨_, _, rfl, rfl, ?_⟩) | (with_reducible refine ev_scrSl ?_; refine ⟨_, rfl, ?_⟩) | (with_reducible refine ev_scrLen ?_; refine ⟨_, rfl, ?_⟩) | (with_reducible refine ev_callScr ?_; refine ⟨_, rfl, ?_⟩) | (with_reducible refine ev_OL ?_; refine ⟨_, _, rfl, rfl, ?_⟩) | with_reducible refine ev_OR ?_ | with_reducible refine ev_rep ?_ | with_reducible refine ev_listRng1 ?_ | with_reducible refine eo_setO ?_
  | with_reducible refine es_name ?_ | with_reducible refine es_tup2 ?_ | with_reducible refine es_tup3 ?_
  | with_reducible refine ed_addI ?_ | with_reducible refine ed_subI ?_ | with_reducible refine ed_cmp ?_ | with_reducible refine ed_eqI ?_ | with_reducible refine ed_neI ?_ | with_reducible refine ed_slT ?_ | with_reducible refine ed_slL ?_ | with_reducible refine ed_lenT ?_ | with_reducible refine ed_lenL ?_ | with_reducible refine ed_lenS ?_ | with_reducible refine ed_inS ?_ | with_reducible refine ed_itT ?_ | with_reducible refine ed_itL ?_ | with_reducible refine ed_tupL ?_ | with_reducible refine ed_tupT ?_ | with_reducible refine ed_listL ?_ | with_reducible refine ed_listT ?_ | with_reducible refine ed_neg ?_ | with_reducible refine ed_max ?_ | with_reducible refine ed_min ?_ | with_reducible refine ed_intB ?_
  | with_reducible refine ev_rng1 ?_ | with_reducible refine ev_rng2 ?_)
local macro_rules | `(tactic| walk_at "sd") => `(tactic| first | rfl | assumption | (simp only [decide_eq_true_eq, decide_eq_false_iff_not, Bool.not_eq_true', Bool.not_eq_false', Bool.and_eq_true, Bool.or_eq_true, List.length_map, List.length_cons, List.length_nil, List.length_append, List.length_range] at *; omega))
local macro_rules | `(tactic| walk_at "e2") => `(tactic| first
  | walk_at "e1" | with_reducible refine ⟨_, rfl, ?_⟩ | with_reducible refine ⟨_, _, rfl, ?_⟩
  | with_reducible refine And.intro (Eq.refl (List.length _)) ?_ | with_reducible refine And.intro (Nat.le_of_ble_eq_true (n := List.length _) rfl) ?_
  | with_reducible refine And.intro (Eq.refl (_ : Sx)) (?_ : Ed _ _)
  | ((with_reducible refine And.intro ?_ (And.intro ?_ (?_ : Ev _ _))); (· rfl); (· rfl))
  | ((with_reducible refine ed_ixT ?_ ?_ ?_); (· decide); (· rfl)) | ((with_reducible refine ed_ixL ?_ ?_ ?_); (· decide); (· rfl)) | ((with_reducible refine ed_at ?_ ?_ ?_); (· decide); (· rfl))
  | ((with_reducible refine ed_modI ?_ ?_); (· first | decide | omega))
  | with_reducible exact gives_nx | ((with_reducible refine gives_rt ?_); (· rfl)) | ((with_reducible refine And.intro ?_ ?_); (· exact rfl); (· with_reducible exact Eq.refl (_ : Sx))))
local macro_rules | `(tactic| walk_at "e") => `(tactic| repeat walk_at "e2")
/-- begin a def's spec -/
local macro_rules | `(tactic| walk_at "i") => `(tactic| simp only [initS, List.map_cons, List.map_nil, List.length_cons, List.length_nil, Nat.reduceAdd, Nat.reduceSub, List.replicate, List.cons_append, List.nil_append])
/-- a known truth decides -/
local macro_rules | `(tactic| walk_at "t") => `(tactic| first | ((with_reducible refine split_t ?_ ?_); (· walk_at "sd")) | ((with_reducible refine split_t' ?_ ?_); (· walk_at "sd")))
local macro_rules | `(tactic| walk_at "f") => `(tactic| first | ((with_reducible refine split_f ?_ ?_); (· walk_at "sd")) | ((with_reducible refine split_f' ?_ ?_); (· walk_at "sd")))
/-- all that is seen in a look -/
local macro_rules | `(tactic| walk_at "v") => `(tactic| (rw [sealAll_mk (by (simp only [List.set_cons_zero, List.set_cons_succ, List.map_cons, List.map_nil, sealS_none, sealS_dat, sealS_scr, sealS_own, List.getElem?_cons_zero, List.getElem?_cons_succ, sealC_lst]; rfl)) (by (simp only [List.set_cons_zero, List.set_cons_succ, List.map_cons, List.map_nil]; rfl))]))
/-! ### texts of data -/
theorem dEq_str (x y : Str) : dEq (.str x) (.str y) = some (.bool (decide (x = y))) := by
  unfold dEq
  split
  · congr 2
  · rfl
theorem dNe_str (x y : Str) : dNe (.str x) (.str y) = some (.bool (!decide (x = y))) := by
  unfold dNe
  split
  · congr 3
  · rfl
theorem dEq_str_self (x : Str) : dEq (.str x) (.str x) = some (.bool true) := by rw [dEq_str]; simp
theorem dNe_str_self (x : Str) : dNe (.str x) (.str x) = some (.bool false) := by rw [dNe_str]; simp
/-- what can be shown: its depth, its weight -/
structure Shw (n m : Nat) (d : D) : Prop where
  lay : d.canLay0 = true
  dep : d.depth ≤ n
  wt : d.weight ≤ m
  short : d.intsShort 13 = true
  sh : d.showable = true
theorem Shw.mono {n m n' m' : Nat} {d : D} (h : Shw n m d) (l : n ≤ n') (k : m ≤ m') : Shw n' m' d := ⟨h.lay, Nat.le_trans h.dep l, Nat.le_trans h.wt k, h.short, h.sh⟩
theorem shw_int {i : Int} (h : i.natAbs < 10 ^ 12) : Shw 0 40 (.int i) := by
  have hb : i.natAbs.log2 ≤ 39 := by
    by_cases z : i.natAbs = 0
    · rw [z]; decide
    · refine Nat.le_of_lt_succ ((Nat.log2_lt z).mpr ?_)
      exact Nat.lt_trans h (by decide)
  refine ⟨by simp [PyData.canLay0], by simp [PyData.depth], ?_, ?_, ?_⟩
  · simp only [PyData.weight]
    split <;> omega
  · simp only [PyData.intsShort, decide_eq_true_eq]
    exact PyData.shown_int_le h
  · simp only [PyData.showable, decide_eq_true_eq]; omega
theorem shw_ch {c : Nat} (h : c < 0x110000) : Shw 0 40 (ch c) := ⟨(fine_ch h).1, (fine_ch h).2, by simp [ch, PyData.weight], rfl, rfl⟩
theorem shw_all {n m : Nat} : ∀ {ds : List D}, (∀ d ∈ ds, Shw n m d) → PyData.canLayAll0 ds = true ∧ PyData.depthAll ds ≤ n ∧ PyData.weightAll ds ≤ ds.length * (m + 1) ∧ PyData.intsShortAll 13 ds = true ∧ PyData.showableAll ds = true
  | [], _ => ⟨rfl, Nat.zero_le _, Nat.zero_le _, rfl, rfl⟩
  | d :: ds, h => by
    obtain ⟨a, b, c, e, f⟩ := shw_all fun x hx => h x (List.mem_cons_of_mem _ hx)
    have k := h d List.mem_cons_self
    refine ⟨by simp [PyData.canLayAll0, a, k.lay], by simp only [PyData.depthAll]; exact Nat.max_le.mpr ⟨k.dep, b⟩, ?_, by simp [PyData.intsShortAll, e, k.short], by simp [PyData.showableAll, f, k.sh]⟩
    simp only [PyData.weightAll, List.length_cons]
    rw [Nat.add_mul]
    have := k.wt
    omega
theorem shw_list {n m : Nat} {ds : List D} (h : ∀ d ∈ ds, Shw n m d) : Shw (n + 1) (ds.length * (m + 1)) (.list ds) := by
  obtain ⟨a, b, c, e, f⟩ := shw_all h
  exact ⟨by simpa [PyData.canLay0] using a, by simp only [PyData.depth]; omega, by simpa only [PyData.weight] using c, by simpa only [PyData.intsShort] using e, by simpa only [PyData.showable] using f⟩
theorem shw_tup {n m : Nat} {ds : List D} (h : ∀ d ∈ ds, Shw n m d) : Shw (n + 1) (ds.length * (m + 1)) (.tuple ds) := by
  obtain ⟨a, b, c, e, f⟩ := shw_all h
  exact ⟨by simpa [PyData.canLay0] using a, by simp only [PyData.depth]; omega, by simpa only [PyData.weight] using c, by simpa only [PyData.intsShort] using e, by simpa only [PyData.showable] using f⟩
theorem shw_sq {n m : Nat} {d : D} {ds : List D} (s : Sq d ds) (h : ∀ d ∈ ds, Shw n m d) : Shw (n + 1) (ds.length * (m + 1)) d := by
  rcases s with rfl | rfl
  · exact shw_list h
  · exact shw_tup h
theorem Shw.ok {n m : Nat} {d : D} (h : Shw n m d) (hn : n ≤ 60) (hm : m ≤ 1048576) : showOk d = true := by
  unfold showOk
  have l : d.shown.length ≤ sizeLine := PyData.shown_fits (B := 13) (by decide) (by decide) (PyData.leavesShort_of_canLay0 13 d h.lay h.short) (by have := h.wt; omega)
  rw [sizeLine_eq] at l
  simp only [Bool.and_eq_true, decide_eq_true_eq, Bool.not_eq_true']
  exact ⟨⟨⟨⟨h.sh, PyData.hasDict_of_canLay d h.lay⟩, h.lay⟩, Nat.le_trans h.dep hn⟩, l⟩
theorem ed_repr {n m : Nat} {d : D} {ds : List D} {Q : D → Prop} (s : Sq d ds) (h : Shw n m d) (q : Q (.str d.shown)) (hn : n ≤ 60 := by decide) (hm : m ≤ 1048576 := by omega) : Ed (dRepr [d]) Q := by
  have ok := h.ok hn hm
  rcases s with rfl | rfl
  · exact ⟨_, by simp only [dRepr, ok, if_true], q⟩
  · exact ⟨_, by simp only [dRepr, ok, if_true], q⟩
theorem Shw.fine {n m : Nat} {d : D} (h : Shw n m d) : Fine n d := ⟨h.lay, h.dep⟩
/-! ### all tuples turned to lists -/
mutual
def listsD : D → D
  | .list xs => .list (listsDs xs)
  | .tuple xs => .list (listsDs xs)
  | d => d
def listsDs : List D → List D
  | [] => []
  | x :: xs => listsD x :: listsDs xs
end
theorem listsDs_map : ∀ xs : List D, listsDs xs = xs.map listsD
  | [] => rfl
  | x :: xs => by rw [listsDs, listsDs_map xs]; rfl
theorem lists_sq {d : D} {xs : List D} (s : Sq d xs) : listsD d = .list (xs.map listsD) := by
  rcases s with rfl | rfl <;> rw [listsD, listsDs_map]
theorem depth_mem : ∀ {xs : List D} {x : D}, x ∈ xs → x.depth ≤ PyData.depthAll xs
  | y :: ys, x, h => by
    simp only [PyData.depthAll]
    rcases List.mem_cons.mp h with rfl | h
    · exact Nat.le_max_left _ _
    · exact Nat.le_trans (depth_mem h) (Nat.le_max_right _ _)
theorem depth_sq {d : D} {xs : List D} (s : Sq d xs) : d.depth = PyData.depthAll xs + 1 := by rcases s with rfl | rfl <;> simp only [PyData.depth]
theorem x_lists : ∀ (n : Nat) (d : D), d.depth < n → m__law_lists n [d] = some (listsD d)
  | 0, _, h => absurd h (Nat.not_lt_zero _)
  | n + 1, d, h => by
    show mF 2 (g__law_lists (m__law_lists n)) [d] = _
    refine mF_of ?_; walk_at "i"; unfold g__law_lists
    walk_at "e"
    rw [isi_seq]
    refine ⟨fun h1 => ?_, fun h1 => ?_⟩
    · obtain ⟨xs, hx⟩ := Option.isSome_iff_exists.mp h1
      have s := sq_of hx
      walk_at "e"
      refine ev_mapX (xs := xs) (enc := fun z => z) (g := listsD) ?_
      walk_at "e"
      refine ed_itQ s ⟨by simp, fun z hz => ?_, ?_⟩
      · walk_at "e"
        have hd := depth_mem hz
        have := depth_sq s
        refine Ed.of (x_lists n z (by omega)) ⟨rfl, rfl⟩
      · walk_at "e"
        rw [gives_rtI, lists_sq s]
    · have h1 : seqOf d = none := by simpa using h1
      walk_at "e"
      cases d <;> first | rfl | simp [seqOf] at h1
theorem isLn_lists {d : D} {l : Ln} (s : IsLn d l) : IsLn (listsD d) l := by
  unfold IsLn; rw [lists_sq s]; exact sq_l _
theorem lns_lists {d : D} {ls : List Ln} (h : Lns d ls) : Lns (listsD d) ls := by
  obtain ⟨ps, s, rfl, hp⟩ := h
  refine ⟨ps.map fun q => (listsD q.1, q.2), ?_, by rw [List.map_map]; rfl, fun q hq => ?_⟩
  · rw [lists_sq s, List.map_map, List.map_map]; exact sq_l _
  · obtain ⟨r, hr, rfl⟩ := List.mem_map.mp hq
    exact isLn_lists (hp r hr)
theorem web_lists {d : D} {p : Int} {ls : List Ln} (h : Web d p ls) : Web (listsD d) p ls := by
  obtain ⟨L, s, hL⟩ := h
  exact ⟨listsD L, by rw [lists_sq s]; exact sq_l _, lns_lists hL⟩
/-! ### how webs and rides are shown -/
theorem shw_ln {p : Int} {d : D} {l : Ln} (s : IsLn d l) (h : LnOk p l) (hp : p ≤ 1000000) : Shw 1 123 d := by
  refine shw_sq (n := 0) (m := 40) s fun x hx => ?_
  simp only [List.mem_cons, List.not_mem_nil, or_false] at hx
  have := h.a0; have := h.a1; have := h.b0; have := h.b1
  rcases hx with rfl | rfl | rfl
  · exact shw_int (by omega)
  · exact shw_int (by omega)
  · exact shw_ch h.c.ok
theorem shw_lns {p : Int} {d : D} {ls : List Ln} (h : Lns d ls) (k : ∀ l ∈ ls, LnOk p l) (hp : p ≤ 1000000) : Shw 2 (ls.length * 124) d := by
  obtain ⟨ps, s, rfl, hq⟩ := h
  have := shw_sq s (n := 1) (m := 123) fun x hx => by
    obtain ⟨q, hm, rfl⟩ := List.mem_map.mp hx
    exact shw_ln (hq q hm) (k _ (List.mem_map_of_mem hm)) hp
  simpa using this
theorem shw_web {d : D} {p : Int} {ls : List Ln} (h : Web d p ls) (k : WbOk p ls) (hp : p ≤ 1000000) : Shw 3 (2 * (ls.length * 124 + 41)) d := by
  obtain ⟨L, s, hL⟩ := h
  have := shw_sq s (n := 2) (m := ls.length * 124 + 40) fun x hx => by
    simp only [List.mem_cons, List.not_mem_nil, or_false] at hx
    rcases hx with rfl | rfl
    · exact (shw_int (by have := k.p0; omega)).mono (by decide) (by omega)
    · exact (shw_lns hL k.all hp).mono (by decide) (by omega)
  simpa using this
end Lw

set_option maxHeartbeats 4000000
namespace Lw
open PySem Fu
local macro_rules | `(tactic| walk_at "e1") => `(tactic| first
  | with_reducible refine eo_seq ?_ | (with_reducible refine then_nx' ?_; refine ⟨?_, ?_, ?_⟩; rotate_left; · (try dsimp only [List.set, List.length_cons, List.length_nil, List.cons_append, List.nil_append, Nat.zero_add, Nat.reduceAdd]); exact rfl) | with_reducible refine then_rt ?_ | with_reducible refine eo_if ?_ | with_reducible refine eo_ret ?_ | with_reducible refine eo_set ?_ | with_reducible refine eo_asg ?_ | with_reducible refine eo_drop ?_ | with_reducible refine eo_nx ?_ | with_reducible refine eo_par ?_ | with_reducible refine eo_own ?_ | with_reducible refine eo_retN ?_ | with_reducible refine eo_for ?_ | with_reducible refine eo_retO ?_
  | with_reducible refine ev_c ?_ | (with_reducible refine ev_var ?_; refine ⟨_, rfl, ?_⟩) | with_reducible refine ev_bin ?_ | with_reducible refine ev_un ?_ | with_reducible refine ev_nil ?_ | with_reducible refine ev_cons ?_
  | with_reducible refine ev_tup ?_ | with_reducible refine ev_lst ?_ | with_reducible refine ev_call ?_ | with_reducible refine ev_callF ?_ | with_reducible refine ev_isi ?_ | with_reducible refine ev_isi2 ?_ | with_reducible refine ev_andV ?_ | with_reducible refine ev_orV ?_ | with_reducible refine ev_notV ?_
  | with_reducible refine ev_B ?_ | with_reducible refine ev_and ?_ | with_reducible refine ev_or ?_ | with_reducible refine ev_not ?_ | with_reducible refine ev_yes ?_ | with_reducible refine ev_if ?_ | with_reducible refine ev_no ?_ | with_reducible refine ev_so ?_ | with_reducible refine ev_sl ?_ | with_reducible refine ev_items ?_
  | (with_reducible refine ev_ixO ?_; refine ⟨_, _, rfl, rfl, ?_⟩) | (with_reducible refine ev_varO ?_; refine ⟨_, _, rfl, rfl, ?_⟩) | (with_reducible refine ev_lenO ?_; refine ⟨_, _, rfl, rfl, ?_⟩) | (with_reducible refine ev_scrSl ?_; refine ⟨_, rfl, ?_⟩) | (with_reducible refine ev_scrLen ?_; refine ⟨_, rfl, ?_⟩) | (with_reducible refine ev_callScr ?_; refine ⟨_, rfl, ?_⟩) | (with_reducible refine ev_OL ?_; refine ⟨_, _, rfl, rfl, ?_⟩) | with_reducible refine ev_OR ?_ | with_reducible refine ev_rep ?_ | with_reducible refine ev_listRng1 ?_ | with_reducible refine eo_setO ?_
  | with_reducible refine es_name ?_ | with_reducible refine es_tup2 ?_ | with_reducible refine es_tup3 ?_
  | with_reducible refine ed_addI ?_ | with_reducible refine ed_subI ?_ | with_reducible refine ed_cmp ?_ | with_reducible refine ed_eqI ?_ | with_reducible refine ed_neI ?_ | with_reducible refine ed_slT ?_ | with_reducible refine ed_slL ?_ | with_reducible refine ed_lenT ?_ | with_reducible refine ed_lenL ?_ | with_reducible refine ed_lenS ?_ | with_reducible refine ed_inS ?_ | with_reducible refine ed_itT ?_ | with_reducible refine ed_itL ?_ | with_reducible refine ed_tupL ?_ | with_reducible refine ed_tupT ?_ | with_reducible refine ed_listL ?_ | with_reducible refine ed_listT ?_ | with_reducible refine ed_neg ?_ | with_reducible refine ed_max ?_ | with_reducible refine ed_min ?_ | with_reducible refine ed_intB ?_)
local macro_rules | `(tactic| walk_at "e2") => `(tactic| first
  | walk_at "e1" | with_reducible refine ⟨_, rfl, ?_⟩ | with_reducible refine ⟨_, _, rfl, ?_⟩
  | with_reducible refine And.intro (Eq.refl (List.length _)) ?_ | with_reducible refine And.intro (Nat.le_of_ble_eq_true (n := List.length _) rfl) ?_
  | with_reducible refine And.intro (Eq.refl (_ : Sx)) (?_ : Ed _ _)
  | with_reducible exact gives_nx | with_reducible (refine gives_rt ?_; rfl))
local macro_rules | `(tactic| walk_at "e") => `(tactic| repeat walk_at "e2")
/-- begin a def's spec -/
local macro_rules | `(tactic| walk_at "i") => `(tactic| simp only [initS, List.map_cons, List.map_nil, List.length_cons, List.length_nil, Nat.reduceAdd, Nat.reduceSub, List.replicate, List.cons_append, List.nil_append])
namespace Sp
/-! ### the circle that the law plants -/
def lastN (sg : List Nat) : Nat := sg.getLast?.getD 0
def headN (sg : List Nat) : Nat := sg.head?.getD 0
structure Signs (sg : List Nat) : Prop where
  all : ∀ c ∈ sg, 97 ≤ c ∧ c ≤ 100
  adj : ∀ i a b, sg[i]? = some a → sg[i + 1]? = some b → a ≠ b
/-- the line at one step of the circle -/
def stepLn (n : Nat) (sp : List Int) (sg : List Nat) (i : Nat) (s : Int) : Ln :=
  if s = 0 then (sp.getD i 0, sp.getD ((i + 1) % n) 0, sg.getD i 0) else (sp.getD ((i + 1) % n) 0, sp.getD i 0, sg.getD i 0)
structure Half (p : Int) (first n k : Nat) (sp : List Int) (sg : List Nat) (L : List Nat) (qs : List (Option Ln)) (es : List (Int × Int)) : Prop where
  len : L.length + k = n
  nd : L.Nodup
  lt : ∀ m ∈ L, m < n
  qlen : qs.length = n
  free : ∀ m ∈ L, qs[m]? = some none
  full : ∀ m, m < n → m ∉ L → ∃ l, qs[m]? = some (some l) ∧ LnOk p l
  elen : es.length = k
  at' : ∀ i, i < k → ∃ (m : Nat) (s : Int), es[i]? = some (((first + m : Nat) : Int), s) ∧ m < n ∧ m ∉ L ∧ (s = 0 ∨ s = 1) ∧ qs[m]? = some (some (stepLn n sp sg i s))
  end' : (es.map Prod.fst).Nodup
  sub : ∀ e ∈ es, ∃ m : Nat, e.1 = ((first + m : Nat) : Int) ∧ m < n ∧ m ∉ L
theorem Half.step {p : Int} {first n k : Nat} {sp : List Int} {sg L : List Nat} {qs : List (Option Ln)} {es : List (Int × Int)} {v m : Nat} {s : Int} (h : Half p first n k sp sg L qs es) (hv : L[v]? = some m) (hs : s = 0 ∨ s = 1) (hl : LnOk p (stepLn n sp sg k s)) :
    Half p first n (k + 1) sp sg (L.eraseIdx v) (qs.set m (some (stepLn n sp sg k s))) (es ++ [(((first + m : Nat) : Int), s)]) := by
  obtain ⟨hvl, hve⟩ := List.getElem?_eq_some_iff.mp hv
  have hm : m ∈ L := List.mem_of_getElem? hv
  have hmn := h.lt m hm
  have hne : m ∉ L.eraseIdx v := by
    intro z
    rw [List.mem_eraseIdx_iff_getElem?] at z
    obtain ⟨i, hi, he⟩ := z
    obtain ⟨hil, hie⟩ := List.getElem?_eq_some_iff.mp he
    exact hi ((List.getElem_inj h.nd).mp (hie.trans hve.symm))
  have hsub : ∀ x ∈ L.eraseIdx v, x ∈ L := fun x hx => List.mem_of_mem_eraseIdx hx
  have hback : ∀ x ∈ L, x ≠ m → x ∈ L.eraseIdx v := fun x hx hxm => by
    rw [List.mem_eraseIdx_iff_getElem?]
    obtain ⟨i, hi⟩ := List.mem_iff_getElem?.mp hx
    refine ⟨i, fun e => ?_, hi⟩
    subst e
    rw [hv] at hi
    cases hi; exact hxm rfl
  refine ⟨?_, h.nd.sublist (List.eraseIdx_sublist L v), fun x hx => h.lt x (hsub x hx), by rw [List.length_set]; exact h.qlen, fun x hx => ?_, fun x hx hxl => ?_, ?_, fun i hi => ?_, ?_, fun e he => ?_⟩
  · rw [List.length_eraseIdx, if_pos hvl]
    have := h.len
    omega
  · rw [List.getElem?_set_ne (fun e : m = x => hne (by rw [e]; exact hx))]
    exact h.free x (hsub x hx)
  · by_cases e : x = m
    · subst e
      exact ⟨_, List.getElem?_set_self (by rw [h.qlen]; exact hx), hl⟩
    · rw [List.getElem?_set_ne (fun z => e z.symm)]
      exact h.full x hx fun z => hxl (hback x z e)
  · rw [List.length_append, h.elen]; rfl
  · by_cases hik : i < k
    · obtain ⟨x, t, h1, h2, h3, h4, h5⟩ := h.at' i hik
      refine ⟨x, t, by rw [List.getElem?_append_left (by rw [h.elen]; exact hik)]; exact h1, h2, fun z => h3 (hsub x z), h4, ?_⟩
      rw [List.getElem?_set_ne (fun z : m = x => h3 (by rw [← z]; exact hm))]
      exact h5
    · have : i = k := by omega
      subst this
      refine ⟨m, s, ?_, hmn, hne, hs, List.getElem?_set_self (by rw [h.qlen]; exact hmn)⟩
      rw [List.getElem?_append_right (by rw [h.elen]; exact Nat.le_refl _), h.elen, Nat.sub_self]; rfl
  · rw [List.map_append, List.nodup_append]
    refine ⟨h.end', by simp, fun a ha c hc => ?_⟩
    obtain ⟨e, he, rfl⟩ := List.mem_map.mp ha
    have hc : c = ((first + m : Nat) : Int) := by simpa using hc
    obtain ⟨x, h1, h2, h3⟩ := h.sub e he
    intro z
    have : x = m := by omega
    exact h3 (this ▸ hm)
  · rcases List.mem_append.mp he with he | he
    · obtain ⟨x, h1, h2, h3⟩ := h.sub e he
      exact ⟨x, h1, h2, fun z => h3 (hsub x z)⟩
    · rw [List.mem_singleton.mp he]
      exact ⟨m, rfl, hmn, hne⟩
structure Circ (p : Int) (first n : Nat) (sp : List Int) (sg : List Nat) (ks : List Ln) (es : List (Int × Int)) : Prop where
  spOk : ∀ x ∈ sp, 0 ≤ x ∧ x < p
  spl : sp.length = n
  sgOk : Signs sg
  sgl : sg.length = n
  ends : lastN sg ≠ headN sg
  half : Half p first n n sp sg [] (ks.map some) es
theorem all_some {α : Type} : ∀ {qs : List (Option α)}, (∀ q ∈ qs, ∃ l, q = some l) → ∃ ks : List α, qs = ks.map some
  | [], _ => ⟨[], rfl⟩
  | q :: qs, h => by
    obtain ⟨l, rfl⟩ := h q List.mem_cons_self
    obtain ⟨ks, rfl⟩ := all_some fun x hx => h x (List.mem_cons_of_mem _ hx)
    exact ⟨l :: ks, rfl⟩
/-! ### a planted round -/
theorem Circ.at {p : Int} {n : Nat} {sp : List Int} {sg : List Nat} {ks more : List Ln} {es : List (Int × Int)} (h : Circ p 0 n sp sg ks es) {i : Nat} (hi : i < n) :
    ∃ e, es[i]? = some e ∧ EndOk (ks ++ more).length e ∧ plc (ks ++ more) e = sp.getD i 0 ∧ plc (ks ++ more) (far e) = sp.getD ((i + 1) % n) 0 ∧ cmpy (ks ++ more) e = sg.getD i 0 := by
  obtain ⟨m, s, h1, h2, _, hs, h5⟩ := h.half.at' i hi
  have hk : ks.length = n := by have := h.half.qlen; rwa [List.length_map] at this
  rw [Nat.zero_add] at h1
  have h6 : (ks ++ more)[m]? = some (stepLn n sp sg i s) := by
    rw [List.getElem?_append_left (by omega)]
    rw [List.getElem?_map] at h5
    obtain ⟨l, e1, e2⟩ := Option.map_eq_some_iff.mp h5
    cases e2
    exact e1
  refine ⟨_, h1, ⟨by simp, by simp; omega, by simp only; omega, by simp only; omega⟩, ?_, ?_, ?_⟩
  · unfold plc
    simp only [Int.toNat_natCast, h6]
    rcases hs with rfl | rfl <;> simp [sideOf, stepLn]
  · unfold plc far
    simp only [Int.toNat_natCast, h6]
    rcases hs with rfl | rfl <;> simp [sideOf, stepLn]
  · unfold cmpy
    simp only [Int.toNat_natCast, h6]
    rcases hs with rfl | rfl <;> simp [stepLn]
end Sp
end Lw

set_option maxHeartbeats 4000000
namespace Lw
open PySem Fu
local macro_rules | `(tactic| walk_at "e1") => `(tactic| first
  | with_reducible refine eo_seq ?_ | (with_reducible refine then_nx' ?_; refine ⟨?_, ?_, ?_⟩; rotate_left; · (try dsimp only [List.set, List.length_cons, List.length_nil, List.cons_append, List.nil_append, Nat.zero_add, Nat.reduceAdd]); exact rfl) | with_reducible refine then_rt ?_ | with_reducible refine eo_if ?_ | with_reducible refine eo_ret ?_ | with_reducible refine eo_set ?_ | with_reducible refine eo_asg ?_ | with_reducible refine eo_drop ?_ | with_reducible refine eo_nx ?_ | with_reducible refine eo_par ?_ | with_reducible refine eo_own ?_ | with_reducible refine eo_retN ?_ | with_reducible refine eo_for ?_ | with_reducible refine eo_retO ?_
  | with_reducible refine ev_c ?_ | (with_reducible refine ev_var ?_; refine ⟨_, rfl, ?_⟩) | with_reducible refine ev_bin ?_ | with_reducible refine ev_un ?_ | with_reducible refine ev_nil ?_ | with_reducible refine ev_cons ?_
  | with_reducible refine ev_tup ?_ | with_reducible refine ev_lst ?_ | with_reducible refine ev_call ?_ | with_reducible refine ev_callF ?_ | with_reducible refine ev_isi ?_ | with_reducible refine ev_isi2 ?_ | with_reducible refine ev_andV ?_ | with_reducible refine ev_orV ?_ | with_reducible refine ev_notV ?_
  | with_reducible refine ev_B ?_ | with_reducible refine ev_and ?_ | with_reducible refine ev_or ?_ | with_reducible refine ev_not ?_ | with_reducible refine ev_yes ?_ | with_reducible refine ev_if ?_ | with_reducible refine ev_no ?_ | with_reducible refine ev_so ?_ | with_reducible refine ev_sl ?_ | with_reducible refine ev_items ?_
  | (with_reducible refine ev_ixO ?_; refine ⟨_, _, rfl, rfl, ?_⟩) | (with_reducible refine ev_varO ?_; refine ⟨_, _, rfl, rfl, ?_⟩) | (with_reducible refine ev_lenO ?_; refine ⟨_, _, rfl, rfl, ?_⟩) | (with_reducible refine ev_scrSl ?_; refine ⟨_, rfl, ?_⟩) | (with_reducible refine ev_scrLen ?_; refine ⟨_, rfl, ?_⟩) | (with_reducible refine ev_callScr ?_; refine ⟨_, rfl, ?_⟩) | (with_reducible refine ev_OL ?_; refine ⟨_, _, rfl, rfl, ?_⟩) | with_reducible refine ev_OR ?_ | with_reducible refine ev_rep ?_ | with_reducible refine ev_listRng1 ?_ | with_reducible refine eo_setO ?_
  | with_reducible refine es_name ?_ | with_reducible refine es_tup2 ?_ | with_reducible refine es_tup3 ?_
  | with_reducible refine ed_addI ?_ | with_reducible refine ed_subI ?_ | with_reducible refine ed_cmp ?_ | with_reducible refine ed_eqI ?_ | with_reducible refine ed_neI ?_ | with_reducible refine ed_slT ?_ | with_reducible refine ed_slL ?_ | with_reducible refine ed_lenT ?_ | with_reducible refine ed_lenL ?_ | with_reducible refine ed_lenS ?_ | with_reducible refine ed_inS ?_ | with_reducible refine ed_itT ?_ | with_reducible refine ed_itL ?_ | with_reducible refine ed_tupL ?_ | with_reducible refine ed_tupT ?_ | with_reducible refine ed_listL ?_ | with_reducible refine ed_listT ?_ | with_reducible refine ed_neg ?_ | with_reducible refine ed_max ?_ | with_reducible refine ed_min ?_ | with_reducible refine ed_intB ?_
  | with_reducible refine ev_rng1 ?_ | with_reducible refine ev_rng2 ?_)
local macro_rules | `(tactic| walk_at "sd") => `(tactic| first | rfl | assumption | (simp only [decide_eq_true_eq, decide_eq_false_iff_not, Bool.not_eq_true', Bool.not_eq_false', Bool.and_eq_true, Bool.or_eq_true, List.length_map, List.length_cons, List.length_nil, List.length_append, List.length_range] at *; omega))
local macro_rules | `(tactic| walk_at "e2") => `(tactic| first
  | walk_at "e1" | with_reducible refine ⟨_, rfl, ?_⟩ | with_reducible refine ⟨_, _, rfl, ?_⟩
  | with_reducible refine And.intro (Eq.refl (List.length _)) ?_ | with_reducible refine And.intro (Nat.le_of_ble_eq_true (n := List.length _) rfl) ?_
  | with_reducible refine And.intro (Eq.refl (_ : Sx)) (?_ : Ed _ _)
  | ((with_reducible refine And.intro ?_ (And.intro ?_ (?_ : Ev _ _))); (· rfl); (· rfl))
  | ((with_reducible refine ed_ixT ?_ ?_ ?_); (· decide); (· rfl)) | ((with_reducible refine ed_ixL ?_ ?_ ?_); (· decide); (· rfl)) | ((with_reducible refine ed_at ?_ ?_ ?_); (· decide); (· rfl))
  | ((with_reducible refine ed_modI ?_ ?_); (· first | decide | omega))
  | with_reducible exact gives_nx | ((with_reducible refine gives_rt ?_); (· rfl)) | ((with_reducible refine And.intro ?_ ?_); (· exact rfl); (· with_reducible exact Eq.refl (_ : Sx))))
local macro_rules | `(tactic| walk_at "e") => `(tactic| repeat walk_at "e2")
/-- begin a def's spec -/
local macro_rules | `(tactic| walk_at "i") => `(tactic| simp only [initS, List.map_cons, List.map_nil, List.length_cons, List.length_nil, Nat.reduceAdd, Nat.reduceSub, List.replicate, List.cons_append, List.nil_append])
/-- a known truth decides -/
local macro_rules | `(tactic| walk_at "t") => `(tactic| first | ((with_reducible refine split_t ?_ ?_); (· walk_at "sd")) | ((with_reducible refine split_t' ?_ ?_); (· walk_at "sd")))
local macro_rules | `(tactic| walk_at "f") => `(tactic| first | ((with_reducible refine split_f ?_ ?_); (· walk_at "sd")) | ((with_reducible refine split_f' ?_ ?_); (· walk_at "sd")))
/-- all that is seen in a look -/
local macro_rules | `(tactic| walk_at "v") => `(tactic| (rw [sealAll_mk (by (simp only [List.set_cons_zero, List.set_cons_succ, List.map_cons, List.map_nil, sealS_none, sealS_dat, sealS_scr, sealS_own, List.getElem?_cons_zero, List.getElem?_cons_succ, sealC_lst]; rfl)) (by (simp only [List.set_cons_zero, List.set_cons_succ, List.map_cons, List.map_nil]; rfl))]))
/-! ### the law's own looks -/
theorem allE_range (n : Nat) : (List.range (2 * n)).map (fun k : Nat => (((k / 2 : Nat) : Int), ((k % 2 : Nat) : Int))) = allE n := by
  unfold allE
  induction n with
  | zero => rfl
  | succ n ih =>
    rw [show 2 * (n + 1) = 2 * n + 1 + 1 by omega, List.range_succ, List.range_succ, List.range_succ, List.map_append, List.map_append, ih, List.flatMap_append]
    simp only [List.map_cons, List.map_nil, List.flatMap_cons, List.flatMap_nil, List.append_nil, List.append_assoc, List.cons_append, List.nil_append]
    rw [show 2 * n / 2 = n by omega, show 2 * n % 2 = 0 by omega, show (2 * n + 1) / 2 = n by omega, show (2 * n + 1) % 2 = 1 by omega]
    rfl
theorem x__law_all_ends {w : D} {p : Int} {ls : List Ln} (hw : Web w p ls) (h : ls.length ≤ 1000000) : m__law_all_ends [w] = some (.list ((allE ls.length).map en)) := by
  obtain ⟨L, s, hL⟩ := hw
  obtain ⟨xs, sx, hl⟩ := lns_len hL
  unfold m__law_all_ends; refine mF_of ?_; walk_at "i"; unfold g__law_all_ends
  walk_at "e"
  refine ev_mapX (xs := List.range (2 * ls.length)) (enc := fun k : Nat => .int (k : Int)) (g := fun k : Nat => en (((k / 2 : Nat) : Int), ((k % 2 : Nat) : Int))) ?_
  walk_at "e"
  refine ed_ixQ s (by decide) rfl ?_
  walk_at "e"
  refine ed_lenQ sx ?_
  walk_at "e"
  refine ed_mulI (Sp.mulW ⟨by decide, by decide⟩ ⟨by omega, by omega⟩) ?_
  walk_at "e"
  refine ⟨by omega, by omega, ?_, fun k hk => ?_, ?_⟩
  · rw [hl, rng0, show ((2 : Int) * (ls.length : Int)).toNat = 2 * ls.length by omega]
  · walk_at "e"
    refine ed_divI (Sp.divW ⟨by decide, by decide⟩) ?_
    walk_at "e"
  · walk_at "e"
    rw [gives_rtI, ← allE_range, List.map_map]; rfl
/-- a list that is empty or not -/
theorem ed_ne_nil {n : Nat} {xs : List D} {Q : D → Prop} (h : ∀ x ∈ xs, Fine n x) (q : Q (.bool !decide (xs = []))) (hn : n ≤ 60 := by decide) : Ed (dNe (.list xs) (.list [])) Q := by
  refine ⟨_, ?_, q⟩
  unfold dNe
  rw [if_pos ⟨(fine_list h).shaped (by omega), (fine_list (n := 0) (ds := []) (fun _ h => nomatch h)).shaped⟩]
  cases xs <;> simp [PyData.eqv, PyData.eqvAll]
end Lw

set_option maxHeartbeats 4000000
namespace Lw
open PySem Fu
local macro_rules | `(tactic| walk_at "e1") => `(tactic| first
  | with_reducible refine eo_seq ?_ | (with_reducible refine then_nx' ?_; refine ⟨?_, ?_, ?_⟩; rotate_left; · (try dsimp only [List.set, List.length_cons, List.length_nil, List.cons_append, List.nil_append, Nat.zero_add, Nat.reduceAdd]); exact rfl) | with_reducible refine then_rt ?_ | with_reducible refine eo_if ?_ | with_reducible refine eo_ret ?_ | with_reducible refine eo_set ?_ | with_reducible refine eo_asg ?_ | with_reducible refine eo_drop ?_ | with_reducible refine eo_nx ?_ | with_reducible refine eo_par ?_ | with_reducible refine eo_own ?_ | with_reducible refine eo_retN ?_ | with_reducible refine eo_for ?_ | with_reducible refine eo_retO ?_
  | with_reducible refine ev_c ?_ | (with_reducible refine ev_var ?_; refine ⟨_, rfl, ?_⟩) | with_reducible refine ev_bin ?_ | with_reducible refine ev_un ?_ | with_reducible refine ev_nil ?_ | with_reducible refine ev_cons ?_
  | with_reducible refine ev_tup ?_ | with_reducible refine ev_lst ?_ | with_reducible refine ev_call ?_ | with_reducible refine ev_callF ?_ | with_reducible refine ev_isi ?_ | with_reducible refine ev_isi2 ?_ | with_reducible refine ev_andV ?_ | with_reducible refine ev_orV ?_ | with_reducible refine ev_notV ?_
  | with_reducible refine ev_B ?_ | with_reducible refine ev_and ?_ | with_reducible refine ev_or ?_ | with_reducible refine ev_not ?_ | with_reducible refine ev_yes ?_ | with_reducible refine ev_if ?_ | with_reducible refine ev_no ?_ | with_reducible refine ev_so ?_ | with_reducible refine ev_sl ?_ | with_reducible refine ev_items ?_
  | (with_reducible refine ev_ixO ?_; refine ⟨_, _, rfl, rfl, ?_⟩) | (with_reducible refine ev_varO ?_; refine ⟨_, _, rfl, rfl, ?_⟩) | (with_reducible refine ev_lenO ?_; refine ⟨_, _, rfl, rfl, ?_⟩) | (with_reducible refine ev_scrSl ?_; refine ⟨_, rfl, ?_⟩) | (with_reducible refine ev_scrLen ?_; refine ⟨_, rfl, ?_⟩) | (with_reducible refine ev_callScr ?_; refine ⟨_, rfl, ?_⟩) | (with_reducible refine ev_OL ?_; refine ⟨_, _, rfl, rfl, ?_⟩) | with_reducible refine ev_OR ?_ | with_reducible refine ev_rep ?_ | with_reducible refine ev_listRng1 ?_ | with_reducible refine eo_setO ?_
  | with_reducible refine es_name ?_ | with_reducible refine es_tup2 ?_ | with_reducible refine es_tup3 ?_
  | with_reducible refine ed_addI ?_ | with_reducible refine ed_subI ?_ | with_reducible refine ed_cmp ?_ | with_reducible refine ed_eqI ?_ | with_reducible refine ed_neI ?_ | with_reducible refine ed_slT ?_ | with_reducible refine ed_slL ?_ | with_reducible refine ed_lenT ?_ | with_reducible refine ed_lenL ?_ | with_reducible refine ed_lenS ?_ | with_reducible refine ed_inS ?_ | with_reducible refine ed_itT ?_ | with_reducible refine ed_itL ?_ | with_reducible refine ed_tupL ?_ | with_reducible refine ed_tupT ?_ | with_reducible refine ed_listL ?_ | with_reducible refine ed_listT ?_ | with_reducible refine ed_neg ?_ | with_reducible refine ed_max ?_ | with_reducible refine ed_min ?_ | with_reducible refine ed_intB ?_
  | with_reducible refine ev_rng1 ?_ | with_reducible refine ev_rng2 ?_)
local macro_rules | `(tactic| walk_at "sd") => `(tactic| first | rfl | assumption | (simp only [decide_eq_true_eq, decide_eq_false_iff_not, Bool.not_eq_true', Bool.not_eq_false', Bool.and_eq_true, Bool.or_eq_true, List.length_map, List.length_cons, List.length_nil, List.length_append, List.length_range] at *; omega))
local macro_rules | `(tactic| walk_at "e2") => `(tactic| first
  | walk_at "e1" | with_reducible refine ⟨_, rfl, ?_⟩ | with_reducible refine ⟨_, _, rfl, ?_⟩
  | with_reducible refine And.intro (Eq.refl (List.length _)) ?_ | with_reducible refine And.intro (Nat.le_of_ble_eq_true (n := List.length _) rfl) ?_
  | with_reducible refine And.intro (Eq.refl (_ : Sx)) (?_ : Ed _ _)
  | ((with_reducible refine And.intro ?_ (And.intro ?_ (?_ : Ev _ _))); (· rfl); (· rfl))
  | ((with_reducible refine ed_ixT ?_ ?_ ?_); (· decide); (· rfl)) | ((with_reducible refine ed_ixL ?_ ?_ ?_); (· decide); (· rfl)) | ((with_reducible refine ed_at ?_ ?_ ?_); (· decide); (· rfl))
  | ((with_reducible refine ed_modI ?_ ?_); (· first | decide | omega))
  | with_reducible exact gives_nx | ((with_reducible refine gives_rt ?_); (· rfl)) | ((with_reducible refine And.intro ?_ ?_); (· exact rfl); (· with_reducible exact Eq.refl (_ : Sx))))
local macro_rules | `(tactic| walk_at "e") => `(tactic| repeat walk_at "e2")
/-- begin a def's spec -/
local macro_rules | `(tactic| walk_at "i") => `(tactic| simp only [initS, List.map_cons, List.map_nil, List.length_cons, List.length_nil, Nat.reduceAdd, Nat.reduceSub, List.replicate, List.cons_append, List.nil_append])
/-- a known truth decides -/
local macro_rules | `(tactic| walk_at "t") => `(tactic| first | ((with_reducible refine split_t ?_ ?_); (· walk_at "sd")) | ((with_reducible refine split_t' ?_ ?_); (· walk_at "sd")))
local macro_rules | `(tactic| walk_at "f") => `(tactic| first | ((with_reducible refine split_f ?_ ?_); (· walk_at "sd")) | ((with_reducible refine split_f' ?_ ?_); (· walk_at "sd")))
/-- all that is seen in a look -/
local macro_rules | `(tactic| walk_at "v") => `(tactic| (rw [sealAll_mk (by (simp only [List.set_cons_zero, List.set_cons_succ, List.map_cons, List.map_nil, sealS_none, sealS_dat, sealS_scr, sealS_own, List.getElem?_cons_zero, List.getElem?_cons_succ, sealC_lst]; rfl)) (by (simp only [List.set_cons_zero, List.set_cons_succ, List.map_cons, List.map_nil]; rfl))]))
namespace Sp
theorem ev_drawR {sl : List (Option R)} {os : List (Option Cell)} {i : Nat} {g : M (List D)} {Q : D → Sx → Prop}
    (h : ∃ j, sl[i]? = some (some (.own j)) ∧ Ev (g ⟨sl, os⟩) fun ds S1 => ∃ cs many c, S1.os[j]? = some (some (.lst cs)) ∧ ds = [.int many] ∧ Reel c cs ∧ 1 ≤ c ∧ 0 < many ∧ many ≤ 18446744073709551616 ∧ ∀ v cs', 0 ≤ v → v < many → Reel (c - 1) cs' → Q (.int v) ⟨S1.sl, S1.os.set j (some (.lst cs'))⟩) : Ev (gIO i 1 m__law_draw_k15 g ⟨sl, os⟩) Q := by
  obtain ⟨j, hi, h⟩ := h
  refine ev_IO ⟨j, hi, h.mono ?_⟩
  rintro ds S1 ⟨cs, many, c, hc, rfl, hR, c1, m0, m1, h⟩
  obtain ⟨d, cs', e, v, rfl, v0, v1, hR'⟩ := x_draw (b := c - 1) (hR.mono (by omega)) m0 m1
  exact ⟨cs, hc, rfl, _, cs', e, h v cs' v0 v1 hR'⟩
end Sp
theorem canLay_ints (ns : List Int) : PyData.canLayAll0 (ns.map PyData.int) = true := by
  induction ns with
  | nil => rfl
  | cons n ns ih => simp [PyData.canLayAll0, PyData.canLay0, ih]
theorem ed_countI {ns : List Int} {i : Int} {Q : D → Prop} (h : Q (.int (ns.count i : Nat))) : Ed (dCount (.list (ns.map PyData.int)) (.int i)) Q := by
  refine ⟨_, ?_, h⟩
  simp only [dCount]
  rw [if_pos ⟨canLay_ints ns, (fine_int i).1, by simp [PyData.depth]⟩, List.countP_map, List.count]
  have : (List.countP ((fun y => PyData.eqv y (.int i)) ∘ PyData.int) ns) = List.countP (fun x => x == i) ns := List.countP_congr fun x _ => by simp [PyData.eqv, Function.comp]
  rw [this]
end Lw

set_option maxHeartbeats 4000000
namespace Lw
open PySem Fu
local macro_rules | `(tactic| walk_at "e1") => `(tactic| first
  | with_reducible refine eo_seq ?_ | (with_reducible refine then_nx' ?_; refine ⟨?_, ?_, ?_⟩; rotate_left; · (try dsimp only [List.set, List.length_cons, List.length_nil, List.cons_append, List.nil_append, Nat.zero_add, Nat.reduceAdd]); exact rfl) | with_reducible refine then_rt ?_ | with_reducible refine eo_if ?_ | with_reducible refine eo_ret ?_ | with_reducible refine eo_set ?_ | with_reducible refine eo_asg ?_ | with_reducible refine eo_drop ?_ | with_reducible refine eo_nx ?_ | with_reducible refine eo_par ?_ | with_reducible refine eo_own ?_ | with_reducible refine eo_retN ?_ | with_reducible refine eo_for ?_ | with_reducible refine eo_retO ?_
  | with_reducible refine ev_c ?_ | (with_reducible refine ev_var ?_; refine ⟨_, rfl, ?_⟩) | with_reducible refine ev_bin ?_ | with_reducible refine ev_un ?_ | with_reducible refine ev_nil ?_ | with_reducible refine ev_cons ?_
  | with_reducible refine ev_tup ?_ | with_reducible refine ev_lst ?_ | with_reducible refine ev_call ?_ | with_reducible refine ev_callF ?_ | with_reducible refine ev_isi ?_ | with_reducible refine ev_isi2 ?_ | with_reducible refine ev_andV ?_ | with_reducible refine ev_orV ?_ | with_reducible refine ev_notV ?_
  | with_reducible refine ev_B ?_ | with_reducible refine ev_and ?_ | with_reducible refine ev_or ?_ | with_reducible refine ev_not ?_ | with_reducible refine ev_yes ?_ | with_reducible refine ev_if ?_ | with_reducible refine ev_no ?_ | with_reducible refine ev_so ?_ | with_reducible refine ev_sl ?_ | with_reducible refine ev_items ?_
  | (with_reducible refine ev_ixO ?_; refine ⟨_, _, rfl, rfl, ?_⟩) | (with_reducible refine ev_varO ?_; refine ⟨_, _, rfl, rfl, ?_⟩) | (with_reducible refine ev_lenO ?_; refine ⟨_, _, rfl, rfl, ?_⟩) | (with_reducible refine ev_scrSl ?_; refine ⟨_, rfl, ?_⟩) | (with_reducible refine ev_scrLen ?_; refine ⟨_, rfl, ?_⟩) | (with_reducible refine ev_callScr ?_; refine ⟨_, rfl, ?_⟩) | (with_reducible refine ev_OL ?_; refine ⟨_, _, rfl, rfl, ?_⟩) | with_reducible refine ev_OR ?_ | with_reducible refine ev_rep ?_ | with_reducible refine ev_listRng1 ?_ | with_reducible refine eo_setO ?_
  | with_reducible refine es_name ?_ | with_reducible refine es_tup2 ?_ | with_reducible refine es_tup3 ?_
  | with_reducible refine ed_addI ?_ | with_reducible refine ed_subI ?_ | with_reducible refine ed_cmp ?_ | with_reducible refine ed_eqI ?_ | with_reducible refine ed_neI ?_ | with_reducible refine ed_slT ?_ | with_reducible refine ed_slL ?_ | with_reducible refine ed_lenT ?_ | with_reducible refine ed_lenL ?_ | with_reducible refine ed_lenS ?_ | with_reducible refine ed_inS ?_ | with_reducible refine ed_itT ?_ | with_reducible refine ed_itL ?_ | with_reducible refine ed_tupL ?_ | with_reducible refine ed_tupT ?_ | with_reducible refine ed_listL ?_ | with_reducible refine ed_listT ?_ | with_reducible refine ed_neg ?_ | with_reducible refine ed_max ?_ | with_reducible refine ed_min ?_ | with_reducible refine ed_intB ?_
  | with_reducible refine ev_rng1 ?_ | with_reducible refine ev_rng2 ?_)
local macro_rules | `(tactic| walk_at "sd") => `(tactic| first | rfl | assumption | (simp only [decide_eq_true_eq, decide_eq_false_iff_not, Bool.not_eq_true', Bool.not_eq_false', Bool.and_eq_true, Bool.or_eq_true, List.length_map, List.length_cons, List.length_nil, List.length_append, List.length_range] at *; omega))
local macro_rules | `(tactic| walk_at "e2") => `(tactic| first
  | walk_at "e1" | with_reducible refine ⟨_, rfl, ?_⟩ | with_reducible refine ⟨_, _, rfl, ?_⟩
  | with_reducible refine And.intro (Eq.refl (List.length _)) ?_ | with_reducible refine And.intro (Nat.le_of_ble_eq_true (n := List.length _) rfl) ?_
  | with_reducible refine And.intro (Eq.refl (_ : Sx)) (?_ : Ed _ _)
  | ((with_reducible refine And.intro ?_ (And.intro ?_ (?_ : Ev _ _))); (· rfl); (· rfl))
  | ((with_reducible refine ed_ixT ?_ ?_ ?_); (· decide); (· rfl)) | ((with_reducible refine ed_ixL ?_ ?_ ?_); (· decide); (· rfl)) | ((with_reducible refine ed_at ?_ ?_ ?_); (· decide); (· rfl))
  | ((with_reducible refine ed_modI ?_ ?_); (· first | decide | omega))
  | with_reducible exact gives_nx | ((with_reducible refine gives_rt ?_); (· rfl)) | ((with_reducible refine And.intro ?_ ?_); (· exact rfl); (· with_reducible exact Eq.refl (_ : Sx))))
local macro_rules | `(tactic| walk_at "e") => `(tactic| repeat walk_at "e2")
/-- begin a def's spec -/
local macro_rules | `(tactic| walk_at "i") => `(tactic| simp only [initS, List.map_cons, List.map_nil, List.length_cons, List.length_nil, Nat.reduceAdd, Nat.reduceSub, List.replicate, List.cons_append, List.nil_append])
/-- a known truth decides -/
local macro_rules | `(tactic| walk_at "t") => `(tactic| first | ((with_reducible refine split_t ?_ ?_); (· walk_at "sd")) | ((with_reducible refine split_t' ?_ ?_); (· walk_at "sd")))
local macro_rules | `(tactic| walk_at "f") => `(tactic| first | ((with_reducible refine split_f ?_ ?_); (· walk_at "sd")) | ((with_reducible refine split_f' ?_ ?_); (· walk_at "sd")))
/-- all that is seen in a look -/
local macro_rules | `(tactic| walk_at "v") => `(tactic| (rw [sealAll_mk (by (simp only [List.set_cons_zero, List.set_cons_succ, List.map_cons, List.map_nil, sealS_none, sealS_dat, sealS_scr, sealS_own, List.getElem?_cons_zero, List.getElem?_cons_succ, sealC_lst]; rfl)) (by (simp only [List.set_cons_zero, List.set_cons_succ, List.map_cons, List.map_nil]; rfl))]))
theorem ed_picked {Q P : D → Prop} {xs : List D} {i : Int} (h0 : 0 ≤ i) (h1 : i < xs.length) (hp : ∀ x ∈ xs, P x) (h : ∀ x, x ∈ xs → P x → Q x) : Ed (dIx (.list xs) (.int i)) Q := by
  have l : i.toNat < xs.length := by omega
  exact ed_ixL h0 (List.getElem?_eq_getElem l) (h _ (List.getElem_mem l) (hp _ (List.getElem_mem l)))
namespace Sp
/-- a text of letters -/
def Letters (x : Str) : Prop := 0 < x.length ∧ x.length ≤ 26 ∧ ∀ c ∈ x.cps.toList, Let c
theorem letters_az : Letters "abcdefghijklmnopqrstuvwxyz" := ⟨by decide +kernel, by decide +kernel, by
  rw [letters]
  intro c hc
  obtain ⟨i, hi, rfl⟩ := List.mem_map.mp hc
  rw [List.mem_range] at hi
  exact ⟨by omega, by omega⟩⟩
theorem letters_few {x : Str} {l : List Nat} (e : x.cps.toList = l) (h0 : 0 < l.length) (h1 : l.length ≤ 26) (h : ∀ c ∈ l, Let c) : Letters x := by
  have : x.length = l.length := by rw [← e, Array.length_toList]; rfl
  exact ⟨by omega, by omega, by rw [e]; exact h⟩
theorem x__law_web {c most : Nat} {cs : List D} (m1 : most ≤ 1000) (hR : Reel c cs) (hc : 4 * most + 4 ≤ c) :
    ∃ d cs', m__law_web cs [.int (most : Int)] = some (d, cs') ∧ ∃ (p : Int) (ls : List Ln), d = wb p ls ∧ WbOk p ls ∧ 0 < p ∧ p ≤ 24 ∧ ls.length ≤ most ∧ Reel (c - (4 * most + 4)) cs' := by
  unfold m__law_web; refine mIO_of ?_; walk_at "i"; unfold g__law_web
  walk_at "e"
  refine ev_drawR ⟨_, rfl, ?_⟩
  walk_at "e"
  refine ev_drawR ⟨_, rfl, ?_⟩
  walk_at "e"
  refine ⟨_, _, _, rfl, rfl, hR, by omega, by decide, by decide, fun v1 cs a1 b1 hR => ?_⟩
  refine ed_pick (P := fun d => ∃ k : Int, d = .int k ∧ 0 < k ∧ k ≤ 24) a1 b1 (fun d hd => ?_) ?_
  · simp only [List.mem_cons, List.not_mem_nil, or_false] at hd
    rcases hd with rfl | rfl | rfl | rfl <;> exact ⟨_, rfl, by decide, by decide⟩
  rintro _ ⟨k, rfl, k0, k1⟩
  walk_at "e"
  refine ⟨_, _, _, rfl, rfl, hR, by omega, k0, by omega, fun v2 cs a2 b2 hR => ?_⟩
  walk_at "e"
  refine ev_drawR ⟨_, rfl, ?_⟩
  walk_at "e"
  refine ⟨_, _, _, rfl, rfl, hR, by omega, by decide, by decide, fun v3 cs a3 b3 hR => ?_⟩
  refine ed_pick (P := fun d => ∃ x : Str, d = .str x ∧ Letters x) a3 b3 (fun d hd => ?_) ?_
  · simp only [List.mem_cons, List.not_mem_nil, or_false] at hd
    rcases hd with rfl | rfl | rfl | rfl | rfl | rfl
    · exact ⟨_, rfl, letters_few (l := [97]) rfl (by decide) (by decide) (by decide)⟩
    · exact ⟨_, rfl, letters_few (l := [97, 98]) rfl (by decide) (by decide) (by decide)⟩
    · exact ⟨_, rfl, letters_few (l := [97, 97, 98]) rfl (by decide) (by decide) (by decide)⟩
    · exact ⟨_, rfl, letters_few (l := [97, 98, 99]) rfl (by decide) (by decide) (by decide)⟩
    · exact ⟨_, rfl, letters_few (l := [97, 98, 99, 100, 122]) rfl (by decide) (by decide) (by decide)⟩
    · exact ⟨_, rfl, letters_az⟩
  rintro _ ⟨sg, rfl, hsg⟩
  walk_at "e"
  refine ev_drawR ⟨_, rfl, ?_⟩
  walk_at "e"
  refine ⟨_, _, _, rfl, rfl, hR, by omega, by omega, by omega, fun v4 cs a4 b4 hR => ?_⟩
  walk_at "e"
  refine ⟨by omega, by omega, ?_⟩
  obtain ⟨n, rfl⟩ : ∃ n : Nat, v4 = (n : Int) := ⟨v4.toNat, by omega⟩
  rw [Int.toNat_natCast]
  refine eo_loop (fun i S => ∃ x5 x6 x7 cs, ∃ ls : List Ln, S = ⟨[some (.own 0), some (.dat (.int (most : Int))), some (.dat (.int (1 + v2))), some (.dat (.str sg)), some (.own 1), x5, x6, x7], [some (.lst cs), some (.lst (ls.map ln))]⟩ ∧ (∀ l ∈ ls, LnOk (1 + v2) l) ∧ ls.length = i ∧ Reel (c - 4 - 4 * i) cs) ⟨_, _, _, _, [], rfl, (fun _ h => nomatch h), rfl, hR.mono (by omega)⟩ ?_ ?_
  · rintro i d S hd ⟨x5, x6, x7, cs, ls, rfl, hls, hll, hR⟩
    obtain ⟨hi, rfl⟩ := rng_at hd
    walk_at "e"
    refine ev_drawR ⟨_, rfl, ?_⟩
    walk_at "e"
    refine ⟨_, _, _, rfl, rfl, hR, by omega, by omega, by omega, fun w1 cs c1 d1 hR => ?_⟩
    walk_at "e"
    refine ev_drawR ⟨_, rfl, ?_⟩
    walk_at "e"
    refine ⟨_, _, _, rfl, rfl, hR, by omega, by omega, by omega, fun w2 cs c2 d2 hR => ?_⟩
    walk_at "e"
    refine ev_drawR ⟨_, rfl, ?_⟩
    walk_at "e"
    refine ⟨_, _, _, rfl, rfl, hR, by omega, by decide, by decide, fun w3 cs c3 d3 hR => ?_⟩
    refine ed_pick (P := fun d => ∃ k : Int, d = .int k ∧ 0 ≤ k ∧ k < 3) c3 d3 (fun d hd => ?_) ?_
    · simp only [List.mem_cons, List.not_mem_nil, or_false] at hd
      rcases hd with rfl | rfl | rfl | rfl <;> exact ⟨_, rfl, by decide, by decide⟩
    rintro _ ⟨k3, rfl, k30, k31⟩
    refine ed_pick (P := fun d => ∃ k : Int, d = .int k ∧ 0 ≤ k ∧ k < 1 + v2) k30 k31 (fun d hd => ?_) ?_
    · have := Int.emod_nonneg (w1 + 1) (show (1 + v2) ≠ 0 by omega)
      have := Int.emod_lt_of_pos (w1 + 1) (show 0 < (1 + v2) by omega)
      simp only [List.mem_cons, List.not_mem_nil, or_false] at hd
      rcases hd with rfl | rfl | rfl <;> exact ⟨_, rfl, by omega, by omega⟩
    rintro _ ⟨k4, rfl, k40, k41⟩
    walk_at "e"
    refine ev_app ⟨_, _, rfl, rfl, ?_⟩
    walk_at "e"
    refine ev_drawR ⟨_, rfl, ?_⟩
    walk_at "e"
    refine ⟨_, _, _, rfl, rfl, hR, by omega, by have := hsg.1; omega, by have := hsg.2.1; omega, fun w5 cs c5 d5 hR => ?_⟩
    refine ed_pickS (P := Let) c5 (by simpa using d5) hsg.2.2 fun c' kc => ?_
    walk_at "e"
    refine ⟨by simp; omega, ?_⟩
    walk_at "e"
    refine ⟨_, _, _, cs, ls ++ [(w1, k4, c')], by rw [List.map_append]; rfl, fun l hl => ?_, by simp [hll], hR.mono (by omega)⟩
    rcases List.mem_append.mp hl with h | h
    · exact hls l h
    · rw [List.mem_singleton.mp h]; exact ⟨c1, d1, k40, k41, kc⟩
  · rintro S ⟨x5, x6, x7, cs, ls, rfl, hls, hll, hR⟩
    rw [rng_len] at hll hR
    walk_at "e"
    exact ⟨cs, rfl, 1 + v2, ls, rfl, ⟨by omega, hls, by omega⟩, by omega, by omega, by omega, hR.mono (by omega)⟩
end Sp
end Lw

set_option maxHeartbeats 4000000
namespace Lw
open PySem Fu
local macro_rules | `(tactic| walk_at "e1") => `(tactic| first
  | with_reducible refine eo_seq ?_ | (with_reducible refine then_nx' ?_; refine ⟨?_, ?_, ?_⟩; rotate_left; · (try dsimp only [List.set, List.length_cons, List.length_nil, List.cons_append, List.nil_append, Nat.zero_add, Nat.reduceAdd]); exact rfl) | with_reducible refine then_rt ?_ | with_reducible refine eo_if ?_ | with_reducible refine eo_ret ?_ | with_reducible refine eo_set ?_ | with_reducible refine eo_asg ?_ | with_reducible refine eo_drop ?_ | with_reducible refine eo_nx ?_ | with_reducible refine eo_par ?_ | with_reducible refine eo_own ?_ | with_reducible refine eo_retN ?_ | with_reducible refine eo_for ?_ | with_reducible refine eo_retO ?_
  | with_reducible refine ev_c ?_ | (with_reducible refine ev_var ?_; refine ⟨_, rfl, ?_⟩) | with_reducible refine ev_bin ?_ | with_reducible refine ev_un ?_ | with_reducible refine ev_nil ?_ | with_reducible refine ev_cons ?_
  | with_reducible refine ev_tup ?_ | with_reducible refine ev_lst ?_ | with_reducible refine ev_call ?_ | with_reducible refine ev_callF ?_ | with_reducible refine ev_isi ?_ | with_reducible refine ev_isi2 ?_ | with_reducible refine ev_andV ?_ | with_reducible refine ev_orV ?_ | with_reducible refine ev_notV ?_
  | with_reducible refine ev_B ?_ | with_reducible refine ev_and ?_ | with_reducible refine ev_or ?_ | with_reducible refine ev_not ?_ | with_reducible refine ev_yes ?_ | with_reducible refine ev_if ?_ | with_reducible refine ev_no ?_ | with_reducible refine ev_so ?_ | with_reducible refine ev_sl ?_ | with_reducible refine ev_items ?_
  | (with_reducible refine ev_ixO ?_; refine ⟨_, _, rfl, rfl, ?_⟩) | (with_reducible refine ev_varO ?_; refine ⟨_, _, rfl, rfl, ?_⟩) | (with_reducible refine ev_lenO ?_; refine ⟨_, _, rfl, rfl, ?_⟩) | (with_reducible refine ev_scrSl ?_; refine ⟨_, rfl, ?_⟩) | (with_reducible refine ev_scrLen ?_; refine ⟨_, rfl, ?_⟩) | (with_reducible refine ev_callScr ?_; refine ⟨_, rfl, ?_⟩) | (with_reducible refine ev_OL ?_; refine ⟨_, _, rfl, rfl, ?_⟩) | with_reducible refine ev_OR ?_ | with_reducible refine ev_rep ?_ | with_reducible refine ev_listRng1 ?_ | with_reducible refine eo_setO ?_
  | with_reducible refine es_name ?_ | with_reducible refine es_tup2 ?_ | with_reducible refine es_tup3 ?_
  | with_reducible refine ed_addI ?_ | with_reducible refine ed_subI ?_ | with_reducible refine ed_cmp ?_ | with_reducible refine ed_eqI ?_ | with_reducible refine ed_neI ?_ | with_reducible refine ed_slT ?_ | with_reducible refine ed_slL ?_ | with_reducible refine ed_lenT ?_ | with_reducible refine ed_lenL ?_ | with_reducible refine ed_lenS ?_ | with_reducible refine ed_inS ?_ | with_reducible refine ed_itT ?_ | with_reducible refine ed_itL ?_ | with_reducible refine ed_tupL ?_ | with_reducible refine ed_tupT ?_ | with_reducible refine ed_listL ?_ | with_reducible refine ed_listT ?_ | with_reducible refine ed_neg ?_ | with_reducible refine ed_max ?_ | with_reducible refine ed_min ?_ | with_reducible refine ed_intB ?_
  | with_reducible refine ev_rng1 ?_ | with_reducible refine ev_rng2 ?_)
local macro_rules | `(tactic| walk_at "sd") => `(tactic| first | rfl | assumption | (simp only [decide_eq_true_eq, decide_eq_false_iff_not, Bool.not_eq_true', Bool.not_eq_false', Bool.and_eq_true, Bool.or_eq_true, List.length_map, List.length_cons, List.length_nil, List.length_append, List.length_range] at *; omega))
local macro_rules | `(tactic| walk_at "e2") => `(tactic| first
  | walk_at "e1" | with_reducible refine ⟨_, rfl, ?_⟩ | with_reducible refine ⟨_, _, rfl, ?_⟩
  | with_reducible refine And.intro (Eq.refl (List.length _)) ?_ | with_reducible refine And.intro (Nat.le_of_ble_eq_true (n := List.length _) rfl) ?_
  | with_reducible refine And.intro (Eq.refl (_ : Sx)) (?_ : Ed _ _)
  | ((with_reducible refine And.intro ?_ (And.intro ?_ (?_ : Ev _ _))); (· rfl); (· rfl))
  | ((with_reducible refine ed_ixT ?_ ?_ ?_); (· decide); (· rfl)) | ((with_reducible refine ed_ixL ?_ ?_ ?_); (· decide); (· rfl)) | ((with_reducible refine ed_at ?_ ?_ ?_); (· decide); (· rfl))
  | ((with_reducible refine ed_modI ?_ ?_); (· first | decide | omega))
  | with_reducible exact gives_nx | ((with_reducible refine gives_rt ?_); (· rfl)) | ((with_reducible refine And.intro ?_ ?_); (· exact rfl); (· with_reducible exact Eq.refl (_ : Sx))))
local macro_rules | `(tactic| walk_at "e") => `(tactic| repeat walk_at "e2")
/-- begin a def's spec -/
local macro_rules | `(tactic| walk_at "i") => `(tactic| simp only [initS, List.map_cons, List.map_nil, List.length_cons, List.length_nil, Nat.reduceAdd, Nat.reduceSub, List.replicate, List.cons_append, List.nil_append])
/-- a known truth decides -/
local macro_rules | `(tactic| walk_at "t") => `(tactic| first | ((with_reducible refine split_t ?_ ?_); (· walk_at "sd")) | ((with_reducible refine split_t' ?_ ?_); (· walk_at "sd")))
local macro_rules | `(tactic| walk_at "f") => `(tactic| first | ((with_reducible refine split_f ?_ ?_); (· walk_at "sd")) | ((with_reducible refine split_f' ?_ ?_); (· walk_at "sd")))
/-- all that is seen in a look -/
local macro_rules | `(tactic| walk_at "v") => `(tactic| (rw [sealAll_mk (by (simp only [List.set_cons_zero, List.set_cons_succ, List.map_cons, List.map_nil, sealS_none, sealS_dat, sealS_scr, sealS_own, List.getElem?_cons_zero, List.getElem?_cons_succ, sealC_lst]; rfl)) (by (simp only [List.set_cons_zero, List.set_cons_succ, List.map_cons, List.map_nil]; rfl))]))
theorem ed_notInI {ns : List Int} {i : Int} {Q : D → Prop} (h : Q (.bool (!decide (i ∈ ns)))) : Ed (dNotIn (.int i) (.list (ns.map PyData.int))) Q := by
  refine ⟨_, ?_, h⟩
  dsimp only [dNotIn]
  rw [if_pos ⟨(fine_int i).shaped, (fine_list (n := 0) fun d hd => by obtain ⟨n, _, rfl⟩ := List.mem_map.mp hd; exact fine_int n).shaped⟩]
  congr 3
  rw [Bool.eq_iff_iff, List.any_map, List.any_eq_true, decide_eq_true_eq]
  constructor
  · rintro ⟨x, hx, e⟩
    have : x = i := by simpa [PyData.eqv] using e
    exact this ▸ hx
  · intro hx
    exact ⟨i, hx, by simp [PyData.eqv]⟩
theorem ed_inI {ns : List Int} {i : Int} {Q : D → Prop} (h : Q (.bool (decide (i ∈ ns)))) : Ed (dIn (.int i) (.list (ns.map PyData.int))) Q := by
  refine ⟨_, ?_, h⟩
  dsimp only [dIn]
  rw [if_pos ⟨(fine_int i).shaped, (fine_list (n := 0) fun d hd => by obtain ⟨n, _, rfl⟩ := List.mem_map.mp hd; exact fine_int n).shaped⟩]
  congr 2
  rw [Bool.eq_iff_iff, List.any_map, List.any_eq_true, decide_eq_true_eq]
  constructor
  · rintro ⟨x, hx, e⟩
    have : x = i := by simpa [PyData.eqv] using e
    exact this ▸ hx
  · intro hx
    exact ⟨i, hx, by simp [PyData.eqv]⟩
namespace Sp
end Sp
end Lw

set_option maxHeartbeats 4000000
namespace Lw
open PySem Fu
local macro_rules | `(tactic| walk_at "e1") => `(tactic| first
  | with_reducible refine eo_seq ?_ | (with_reducible refine then_nx' ?_; refine ⟨?_, ?_, ?_⟩; rotate_left; · (try dsimp only [List.set, List.length_cons, List.length_nil, List.cons_append, List.nil_append, Nat.zero_add, Nat.reduceAdd]); exact rfl) | with_reducible refine then_rt ?_ | with_reducible refine eo_if ?_ | with_reducible refine eo_ret ?_ | with_reducible refine eo_set ?_ | with_reducible refine eo_asg ?_ | with_reducible refine eo_drop ?_ | with_reducible refine eo_nx ?_ | with_reducible refine eo_par ?_ | with_reducible refine eo_own ?_ | with_reducible refine eo_retN ?_ | with_reducible refine eo_for ?_ | with_reducible refine eo_retO ?_
  | with_reducible refine ev_c ?_ | (with_reducible refine ev_var ?_; refine ⟨_, rfl, ?_⟩) | with_reducible refine ev_bin ?_ | with_reducible refine ev_un ?_ | with_reducible refine ev_nil ?_ | with_reducible refine ev_cons ?_
  | with_reducible refine ev_tup ?_ | with_reducible refine ev_lst ?_ | with_reducible refine ev_call ?_ | with_reducible refine ev_callF ?_ | with_reducible refine ev_isi ?_ | with_reducible refine ev_isi2 ?_ | with_reducible refine ev_andV ?_ | with_reducible refine ev_orV ?_ | with_reducible refine ev_notV ?_
  | with_reducible refine ev_B ?_ | with_reducible refine ev_and ?_ | with_reducible refine ev_or ?_ | with_reducible refine ev_not ?_ | with_reducible refine ev_yes ?_ | with_reducible refine ev_if ?_ | with_reducible refine ev_no ?_ | with_reducible refine ev_so ?_ | with_reducible refine ev_sl ?_ | with_reducible refine ev_items ?_
  | (with_reducible refine ev_ixO ?_; refine ⟨_, _, rfl, rfl, ?_⟩) | (with_reducible refine ev_varO ?_; refine ⟨_, _, rfl, rfl, ?_⟩) | (with_reducible refine ev_lenO ?_; refine ⟨_, _, rfl, rfl, ?_⟩) | (with_reducible refine ev_scrSl ?_; refine ⟨_, rfl, ?_⟩) | (with_reducible refine ev_scrLen ?_; refine ⟨_, rfl, ?_⟩) | (with_reducible refine ev_callScr ?_; refine ⟨_, rfl, ?_⟩) | (with_reducible refine ev_OL ?_; refine ⟨_, _, rfl, rfl, ?_⟩) | with_reducible refine ev_OR ?_ | with_reducible refine ev_rep ?_ | with_reducible refine ev_listRng1 ?_ | with_reducible refine eo_setO ?_
  | with_reducible refine es_name ?_ | with_reducible refine es_tup2 ?_ | with_reducible refine es_tup3 ?_
  | with_reducible refine ed_addI ?_ | with_reducible refine ed_subI ?_ | with_reducible refine ed_cmp ?_ | with_reducible refine ed_eqI ?_ | with_reducible refine ed_neI ?_ | with_reducible refine ed_slT ?_ | with_reducible refine ed_slL ?_ | with_reducible refine ed_lenT ?_ | with_reducible refine ed_lenL ?_ | with_reducible refine ed_lenS ?_ | with_reducible refine ed_inS ?_ | with_reducible refine ed_itT ?_ | with_reducible refine ed_itL ?_ | with_reducible refine ed_tupL ?_ | with_reducible refine ed_tupT ?_ | with_reducible refine ed_listL ?_ | with_reducible refine ed_listT ?_ | with_reducible refine ed_neg ?_ | with_reducible refine ed_max ?_ | with_reducible refine ed_min ?_ | with_reducible refine ed_intB ?_
  | with_reducible refine ev_rng1 ?_ | with_reducible refine ev_rng2 ?_)
local macro_rules | `(tactic| walk_at "sd") => `(tactic| first | rfl | assumption | (simp only [decide_eq_true_eq, decide_eq_false_iff_not, Bool.not_eq_true', Bool.not_eq_false', Bool.and_eq_true, Bool.or_eq_true, List.length_map, List.length_cons, List.length_nil, List.length_append, List.length_range] at *; omega))
local macro_rules | `(tactic| walk_at "e2") => `(tactic| first
  | walk_at "e1" | with_reducible refine ⟨_, rfl, ?_⟩ | with_reducible refine ⟨_, _, rfl, ?_⟩
  | with_reducible refine And.intro (Eq.refl (List.length _)) ?_ | with_reducible refine And.intro (Nat.le_of_ble_eq_true (n := List.length _) rfl) ?_
  | with_reducible refine And.intro (Eq.refl (_ : Sx)) (?_ : Ed _ _)
  | ((with_reducible refine And.intro ?_ (And.intro ?_ (?_ : Ev _ _))); (· rfl); (· rfl))
  | ((with_reducible refine ed_ixT ?_ ?_ ?_); (· decide); (· rfl)) | ((with_reducible refine ed_ixL ?_ ?_ ?_); (· decide); (· rfl)) | ((with_reducible refine ed_at ?_ ?_ ?_); (· decide); (· rfl))
  | ((with_reducible refine ed_modI ?_ ?_); (· first | decide | omega))
  | with_reducible exact gives_nx | ((with_reducible refine gives_rt ?_); (· rfl)) | ((with_reducible refine And.intro ?_ ?_); (· exact rfl); (· with_reducible exact Eq.refl (_ : Sx))))
local macro_rules | `(tactic| walk_at "e") => `(tactic| repeat walk_at "e2")
/-- begin a def's spec -/
local macro_rules | `(tactic| walk_at "i") => `(tactic| simp only [initS, List.map_cons, List.map_nil, List.length_cons, List.length_nil, Nat.reduceAdd, Nat.reduceSub, List.replicate, List.cons_append, List.nil_append])
/-- a known truth decides -/
local macro_rules | `(tactic| walk_at "t") => `(tactic| first | ((with_reducible refine split_t ?_ ?_); (· walk_at "sd")) | ((with_reducible refine split_t' ?_ ?_); (· walk_at "sd")))
local macro_rules | `(tactic| walk_at "f") => `(tactic| first | ((with_reducible refine split_f ?_ ?_); (· walk_at "sd")) | ((with_reducible refine split_f' ?_ ?_); (· walk_at "sd")))
/-- all that is seen in a look -/
local macro_rules | `(tactic| walk_at "v") => `(tactic| (rw [sealAll_mk (by (simp only [List.set_cons_zero, List.set_cons_succ, List.map_cons, List.map_nil, sealS_none, sealS_dat, sealS_scr, sealS_own, List.getElem?_cons_zero, List.getElem?_cons_succ, sealC_lst]; rfl)) (by (simp only [List.set_cons_zero, List.set_cons_succ, List.map_cons, List.map_nil]; rfl))]))
theorem es_two {g1 g2 : D → Sx → Option Sx} {d e : D} {S : Sx} {W : Sx → Prop} (h : Es (g1 d S) fun S1 => Es (g2 e S1) W) : Es (sTup 2 (sCons g1 (sCons g2 sNil)) (.tuple [d, e]) S) W := by
  obtain ⟨S1, e1, S2, e2, q⟩ := h
  exact ⟨S2, by simp only [sTup, sCons, sNil, List.length_cons, List.length_nil, Nat.reduceAdd, if_true, e1, e2, Option.bind_some], q⟩
theorem es_ixO {i : Nat} {gb : M D} {d : D} {S : Sx} {W : Sx → Prop} (h : ∃ j cs0, S.sl[i]? = some (some (.own j)) ∧ S.os[j]? = some (some (.lst cs0)) ∧ Ev (gb S) fun n S1 => ∃ cs, ∃ k : Nat, S1.os[j]? = some (some (.lst cs)) ∧ n = .int k ∧ k < cs.length ∧ W ⟨S1.sl, S1.os.set j (some (.lst (cs.set k d)))⟩) : Es (sIxO i gb d S) W := by
  obtain ⟨j, cs0, hi, h0, n, S1, e1, cs, k, e2, rfl, hk, q⟩ := h
  have : L2.ixN cs.length (k : Int) = some k := by
    unfold L2.ixN
    rw [if_pos (by omega), if_pos (by omega)]; simp
  exact ⟨_, by simp only [sIxO, ownOf, Fu.cellOf, hi, h0, e1, e2, this, Option.bind_some, setCell], q⟩
namespace Sp
end Sp
end Lw

set_option maxHeartbeats 4000000
namespace Lw
open PySem Fu
local macro_rules | `(tactic| walk_at "e1") => `(tactic| first
  | with_reducible refine eo_seq ?_ | (with_reducible refine then_nx' ?_; refine ⟨?_, ?_, ?_⟩; rotate_left; · (try dsimp only [List.set, List.length_cons, List.length_nil, List.cons_append, List.nil_append, Nat.zero_add, Nat.reduceAdd]); exact rfl) | with_reducible refine then_rt ?_ | with_reducible refine eo_if ?_ | with_reducible refine eo_ret ?_ | with_reducible refine eo_set ?_ | with_reducible refine eo_asg ?_ | with_reducible refine eo_drop ?_ | with_reducible refine eo_nx ?_ | with_reducible refine eo_par ?_ | with_reducible refine eo_own ?_ | with_reducible refine eo_retN ?_ | with_reducible refine eo_for ?_ | with_reducible refine eo_retO ?_
  | with_reducible refine ev_c ?_ | (with_reducible refine ev_var ?_; refine ⟨_, rfl, ?_⟩) | with_reducible refine ev_bin ?_ | with_reducible refine ev_un ?_ | with_reducible refine ev_nil ?_ | with_reducible refine ev_cons ?_
  | with_reducible refine ev_tup ?_ | with_reducible refine ev_lst ?_ | with_reducible refine ev_call ?_ | with_reducible refine ev_callF ?_ | with_reducible refine ev_isi ?_ | with_reducible refine ev_isi2 ?_ | with_reducible refine ev_andV ?_ | with_reducible refine ev_orV ?_ | with_reducible refine ev_notV ?_
  | with_reducible refine ev_B ?_ | with_reducible refine ev_and ?_ | with_reducible refine ev_or ?_ | with_reducible refine ev_not ?_ | with_reducible refine ev_yes ?_ | with_reducible refine ev_if ?_ | with_reducible refine ev_no ?_ | with_reducible refine ev_so ?_ | with_reducible refine ev_sl ?_ | with_reducible refine ev_items ?_
  | (with_reducible refine ev_ixO ?_; refine ⟨_, _, rfl, rfl, ?_⟩) | (with_reducible refine ev_varO ?_; refine ⟨_, _, rfl, rfl, ?_⟩) | (with_reducible refine ev_lenO ?_; refine ⟨_, _, rfl, rfl, ?_⟩) | (with_reducible refine ev_scrSl ?_; refine ⟨_, rfl, ?_⟩) | (with_reducible refine ev_scrLen ?_; refine ⟨_, rfl, ?_⟩) | (with_reducible refine ev_callScr ?_; refine ⟨_, rfl, ?_⟩) | (with_reducible refine ev_OL ?_; refine ⟨_, _, rfl, rfl, ?_⟩) | with_reducible refine ev_OR ?_ | with_reducible refine ev_rep ?_ | with_reducible refine ev_listRng1 ?_ | with_reducible refine eo_setO ?_
  | with_reducible refine es_name ?_ | with_reducible refine es_tup2 ?_ | with_reducible refine es_tup3 ?_
  | with_reducible refine ed_addI ?_ | with_reducible refine ed_subI ?_ | with_reducible refine ed_cmp ?_ | with_reducible refine ed_eqI ?_ | with_reducible refine ed_neI ?_ | with_reducible refine ed_slT ?_ | with_reducible refine ed_slL ?_ | with_reducible refine ed_lenT ?_ | with_reducible refine ed_lenL ?_ | with_reducible refine ed_lenS ?_ | with_reducible refine ed_inS ?_ | with_reducible refine ed_itT ?_ | with_reducible refine ed_itL ?_ | with_reducible refine ed_tupL ?_ | with_reducible refine ed_tupT ?_ | with_reducible refine ed_listL ?_ | with_reducible refine ed_listT ?_ | with_reducible refine ed_neg ?_ | with_reducible refine ed_max ?_ | with_reducible refine ed_min ?_ | with_reducible refine ed_intB ?_
  | with_reducible refine ev_rng1 ?_ | with_reducible refine ev_rng2 ?_)
local macro_rules | `(tactic| walk_at "sd") => `(tactic| first | rfl | assumption | (simp only [decide_eq_true_eq, decide_eq_false_iff_not, Bool.not_eq_true', Bool.not_eq_false', Bool.and_eq_true, Bool.or_eq_true, List.length_map, List.length_cons, List.length_nil, List.length_append, List.length_range] at *; omega))
local macro_rules | `(tactic| walk_at "e2") => `(tactic| first
  | walk_at "e1" | with_reducible refine ⟨_, rfl, ?_⟩ | with_reducible refine ⟨_, _, rfl, ?_⟩
  | with_reducible refine And.intro (Eq.refl (List.length _)) ?_ | with_reducible refine And.intro (Nat.le_of_ble_eq_true (n := List.length _) rfl) ?_
  | with_reducible refine And.intro (Eq.refl (_ : Sx)) (?_ : Ed _ _)
  | ((with_reducible refine And.intro ?_ (And.intro ?_ (?_ : Ev _ _))); (· rfl); (· rfl))
  | ((with_reducible refine ed_ixT ?_ ?_ ?_); (· decide); (· rfl)) | ((with_reducible refine ed_ixL ?_ ?_ ?_); (· decide); (· rfl)) | ((with_reducible refine ed_at ?_ ?_ ?_); (· decide); (· rfl))
  | ((with_reducible refine ed_modI ?_ ?_); (· first | decide | omega))
  | with_reducible exact gives_nx | ((with_reducible refine gives_rt ?_); (· rfl)) | ((with_reducible refine And.intro ?_ ?_); (· exact rfl); (· with_reducible exact Eq.refl (_ : Sx))))
local macro_rules | `(tactic| walk_at "e") => `(tactic| repeat walk_at "e2")
/-- begin a def's spec -/
local macro_rules | `(tactic| walk_at "i") => `(tactic| simp only [initS, List.map_cons, List.map_nil, List.length_cons, List.length_nil, Nat.reduceAdd, Nat.reduceSub, List.replicate, List.cons_append, List.nil_append])
/-- a known truth decides -/
local macro_rules | `(tactic| walk_at "t") => `(tactic| first | ((with_reducible refine split_t ?_ ?_); (· walk_at "sd")) | ((with_reducible refine split_t' ?_ ?_); (· walk_at "sd")))
local macro_rules | `(tactic| walk_at "f") => `(tactic| first | ((with_reducible refine split_f ?_ ?_); (· walk_at "sd")) | ((with_reducible refine split_f' ?_ ?_); (· walk_at "sd")))
/-- all that is seen in a look -/
local macro_rules | `(tactic| walk_at "v") => `(tactic| (rw [sealAll_mk (by (simp only [List.set_cons_zero, List.set_cons_succ, List.map_cons, List.map_nil, sealS_none, sealS_dat, sealS_scr, sealS_own, List.getElem?_cons_zero, List.getElem?_cons_succ, sealC_lst]; rfl)) (by (simp only [List.set_cons_zero, List.set_cons_succ, List.map_cons, List.map_nil]; rfl))]))
namespace Sp
theorem x__law_handed {c : Nat} {cs : List D} {d : D} (hR : Reel c cs) (hc : 1 ≤ c) (hd : d.depth < 8) : ∃ z cs', m__law_handed cs [d] = some (z, cs') ∧ (z = d ∨ z = listsD d) ∧ Reel (c - 1) cs' := by
  unfold m__law_handed; refine mIO_of ?_; walk_at "i"; unfold g__law_handed
  walk_at "e"
  refine ev_drawR ⟨_, rfl, ?_⟩
  walk_at "e"
  refine ⟨_, _, _, rfl, rfl, hR, by omega, by decide, by decide, fun v cs a b hR => ?_⟩
  walk_at "e"
  refine ⟨fun _ => ?_, fun _ => ?_⟩
  · walk_at "e"
    exact ⟨cs, rfl, .inl rfl, hR⟩
  · walk_at "e"
    refine Ed.of (x_lists 8 d hd) ?_
    exact ⟨cs, rfl, .inr rfl, hR⟩
end Sp
end Lw

set_option maxHeartbeats 4000000
namespace Lw
open PySem Fu
local macro_rules | `(tactic| walk_at "e1") => `(tactic| first
  | with_reducible refine eo_seq ?_ | (with_reducible refine then_nx' ?_; refine ⟨?_, ?_, ?_⟩; rotate_left; · (try dsimp only [List.set, List.length_cons, List.length_nil, List.cons_append, List.nil_append, Nat.zero_add, Nat.reduceAdd]); exact rfl) | with_reducible refine then_rt ?_ | with_reducible refine eo_if ?_ | with_reducible refine eo_ret ?_ | with_reducible refine eo_set ?_ | with_reducible refine eo_asg ?_ | with_reducible refine eo_drop ?_ | with_reducible refine eo_nx ?_ | with_reducible refine eo_par ?_ | with_reducible refine eo_own ?_ | with_reducible refine eo_retN ?_ | with_reducible refine eo_for ?_ | with_reducible refine eo_retO ?_
  | with_reducible refine ev_c ?_ | (with_reducible refine ev_var ?_; refine ⟨_, rfl, ?_⟩) | with_reducible refine ev_bin ?_ | with_reducible refine ev_un ?_ | with_reducible refine ev_nil ?_ | with_reducible refine ev_cons ?_
  | with_reducible refine ev_tup ?_ | with_reducible refine ev_lst ?_ | with_reducible refine ev_call ?_ | with_reducible refine ev_callF ?_ | with_reducible refine ev_isi ?_ | with_reducible refine ev_isi2 ?_ | with_reducible refine ev_andV ?_ | with_reducible refine ev_orV ?_ | with_reducible refine ev_notV ?_
  | with_reducible refine ev_B ?_ | with_reducible refine ev_and ?_ | with_reducible refine ev_or ?_ | with_reducible refine ev_not ?_ | with_reducible refine ev_yes ?_ | with_reducible refine ev_if ?_ | with_reducible refine ev_no ?_ | with_reducible refine ev_so ?_ | with_reducible refine ev_sl ?_ | with_reducible refine ev_items ?_
  | (with_reducible refine ev_ixO ?_; refine ⟨_, _, rfl, rfl, ?_⟩) | (with_reducible refine ev_varO ?_; refine ⟨_, _, rfl, rfl, ?_⟩) | (with_reducible refine ev_lenO ?_; refine ⟨_, _, rfl, rfl, ?_⟩) | (with_reducible refine ev_scrSl ?_; refine ⟨_, rfl, ?_⟩) | (with_reducible refine ev_scrLen ?_; refine ⟨_, rfl, ?_⟩) | (with_reducible refine ev_callScr ?_; refine ⟨_, rfl, ?_⟩) | (with_reducible refine ev_OL ?_; refine ⟨_, _, rfl, rfl, ?_⟩) | with_reducible refine ev_OR ?_ | with_reducible refine ev_rep ?_ | with_reducible refine ev_listRng1 ?_ | with_reducible refine eo_setO ?_
  | with_reducible refine es_name ?_ | with_reducible refine es_tup2 ?_ | with_reducible refine es_tup3 ?_
  | with_reducible refine ed_addI ?_ | with_reducible refine ed_subI ?_ | with_reducible refine ed_cmp ?_ | with_reducible refine ed_eqI ?_ | with_reducible refine ed_neI ?_ | with_reducible refine ed_slT ?_ | with_reducible refine ed_slL ?_ | with_reducible refine ed_lenT ?_ | with_reducible refine ed_lenL ?_ | with_reducible refine ed_lenS ?_ | with_reducible refine ed_inS ?_ | with_reducible refine ed_itT ?_ | with_reducible refine ed_itL ?_ | with_reducible refine ed_tupL ?_ | with_reducible refine ed_tupT ?_ | with_reducible refine ed_listL ?_ | with_reducible refine ed_listT ?_ | with_reducible refine ed_neg ?_ | with_reducible refine ed_max ?_ | with_reducible refine ed_min ?_ | with_reducible refine ed_intB ?_
  | with_reducible refine ev_rng1 ?_ | with_reducible refine ev_rng2 ?_)
local macro_rules | `(tactic| walk_at "sd") => `(tactic| first | rfl | assumption | (simp only [decide_eq_true_eq, decide_eq_false_iff_not, Bool.not_eq_true', Bool.not_eq_false', Bool.and_eq_true, Bool.or_eq_true, List.length_map, List.length_cons, List.length_nil, List.length_append, List.length_range] at *; omega))
local macro_rules | `(tactic| walk_at "e2") => `(tactic| first
  | walk_at "e1" | with_reducible refine ⟨_, rfl, ?_⟩ | with_reducible refine ⟨_, _, rfl, ?_⟩
  | with_reducible refine And.intro (Eq.refl (List.length _)) ?_ | with_reducible refine And.intro (Nat.le_of_ble_eq_true (n := List.length _) rfl) ?_
  | with_reducible refine And.intro (Eq.refl (_ : Sx)) (?_ : Ed _ _)
  | ((with_reducible refine And.intro ?_ (And.intro ?_ (?_ : Ev _ _))); (· rfl); (· rfl))
  | ((with_reducible refine ed_ixT ?_ ?_ ?_); (· decide); (· rfl)) | ((with_reducible refine ed_ixL ?_ ?_ ?_); (· decide); (· rfl)) | ((with_reducible refine ed_at ?_ ?_ ?_); (· decide); (· rfl))
  | ((with_reducible refine ed_modI ?_ ?_); (· first | decide | omega))
  | with_reducible exact gives_nx | ((with_reducible refine gives_rt ?_); (· rfl)) | ((with_reducible refine And.intro ?_ ?_); (· exact rfl); (· with_reducible exact Eq.refl (_ : Sx))))
local macro_rules | `(tactic| walk_at "e") => `(tactic| repeat walk_at "e2")
/-- begin a def's spec -/
local macro_rules | `(tactic| walk_at "i") => `(tactic| simp only [initS, List.map_cons, List.map_nil, List.length_cons, List.length_nil, Nat.reduceAdd, Nat.reduceSub, List.replicate, List.cons_append, List.nil_append])
/-- a known truth decides -/
local macro_rules | `(tactic| walk_at "t") => `(tactic| first | ((with_reducible refine split_t ?_ ?_); (· walk_at "sd")) | ((with_reducible refine split_t' ?_ ?_); (· walk_at "sd")))
local macro_rules | `(tactic| walk_at "f") => `(tactic| first | ((with_reducible refine split_f ?_ ?_); (· walk_at "sd")) | ((with_reducible refine split_f' ?_ ?_); (· walk_at "sd")))
/-- all that is seen in a look -/
local macro_rules | `(tactic| walk_at "v") => `(tactic| (rw [sealAll_mk (by (simp only [List.set_cons_zero, List.set_cons_succ, List.map_cons, List.map_nil, sealS_none, sealS_dat, sealS_scr, sealS_own, List.getElem?_cons_zero, List.getElem?_cons_succ, sealC_lst]; rfl)) (by (simp only [List.set_cons_zero, List.set_cons_succ, List.map_cons, List.map_nil]; rfl))]))
namespace Bg
/-! ### the bag -/
structure Bag (b : Nat) (cs : List D) : Prop where
  ex : ∃ (ns : List Int) (pos : Nat) (rest cnt total : Int), cs = [.list (ns.map .int), .int pos, .int rest, .int cnt, .int total] ∧ ns.length ≤ 63 ∧ pos ≤ ns.length ∧ 0 ≤ rest ∧ 0 ≤ cnt ∧ cnt + b ≤ 4294967296 ∧ 0 ≤ total ∧ total < 2305843009213693951
theorem Bag.mono {a b : Nat} {cs : List D} (h : Bag a cs) (l : b ≤ a) : Bag b cs := by
  obtain ⟨f, s, n, t, u, h1, h2, h3, h4, h5, h6, h7⟩ := h
  exact ⟨f, s, n, t, u, h1, h2, h3, h4, h5, by omega, h7⟩
end Bg
end Lw

set_option maxHeartbeats 4000000
namespace Lw
open PySem Fu
local macro_rules | `(tactic| walk_at "e1") => `(tactic| first
  | with_reducible refine eo_seq ?_ | (with_reducible refine then_nx' ?_; refine ⟨?_, ?_, ?_⟩; rotate_left; · (try dsimp only [List.set, List.length_cons, List.length_nil, List.cons_append, List.nil_append, Nat.zero_add, Nat.reduceAdd]); exact rfl) | with_reducible refine then_rt ?_ | with_reducible refine eo_if ?_ | with_reducible refine eo_ret ?_ | with_reducible refine eo_set ?_ | with_reducible refine eo_asg ?_ | with_reducible refine eo_drop ?_ | with_reducible refine eo_nx ?_ | with_reducible refine eo_par ?_ | with_reducible refine eo_own ?_ | with_reducible refine eo_retN ?_ | with_reducible refine eo_for ?_ | with_reducible refine eo_retO ?_
  | with_reducible refine ev_c ?_ | (with_reducible refine ev_var ?_; refine ⟨_, rfl, ?_⟩) | with_reducible refine ev_bin ?_ | with_reducible refine ev_un ?_ | with_reducible refine ev_nil ?_ | with_reducible refine ev_cons ?_
  | with_reducible refine ev_tup ?_ | with_reducible refine ev_lst ?_ | with_reducible refine ev_call ?_ | with_reducible refine ev_callF ?_ | with_reducible refine ev_isi ?_ | with_reducible refine ev_isi2 ?_ | with_reducible refine ev_andV ?_ | with_reducible refine ev_orV ?_ | with_reducible refine ev_notV ?_
  | with_reducible refine ev_B ?_ | with_reducible refine ev_and ?_ | with_reducible refine ev_or ?_ | with_reducible refine ev_not ?_ | with_reducible refine ev_yes ?_ | with_reducible refine ev_if ?_ | with_reducible refine ev_no ?_ | with_reducible refine ev_so ?_ | with_reducible refine ev_sl ?_ | with_reducible refine ev_items ?_
  | (with_reducible refine ev_ixO ?_; refine ⟨_, _, rfl, rfl, ?_⟩) | (with_reducible refine ev_varO ?_; refine ⟨_, _, rfl, rfl, ?_⟩) | (with_reducible refine ev_lenO ?_; refine ⟨_, _, rfl, rfl, ?_⟩) | (with_reducible refine ev_scrSl ?_; refine ⟨_, rfl, ?_⟩) | (with_reducible refine ev_scrLen ?_; refine ⟨_, rfl, ?_⟩) | (with_reducible refine ev_callScr ?_; refine ⟨_, rfl, ?_⟩) | (with_reducible refine ev_OL ?_; refine ⟨_, _, rfl, rfl, ?_⟩) | with_reducible refine ev_OR ?_ | with_reducible refine ev_rep ?_ | with_reducible refine ev_listRng1 ?_ | with_reducible refine eo_setO ?_
  | with_reducible refine es_name ?_ | with_reducible refine es_tup2 ?_ | with_reducible refine es_tup3 ?_
  | with_reducible refine ed_addI ?_ | with_reducible refine ed_subI ?_ | with_reducible refine ed_cmp ?_ | with_reducible refine ed_eqI ?_ | with_reducible refine ed_neI ?_ | with_reducible refine ed_slT ?_ | with_reducible refine ed_slL ?_ | with_reducible refine ed_lenT ?_ | with_reducible refine ed_lenL ?_ | with_reducible refine ed_lenS ?_ | with_reducible refine ed_inS ?_ | with_reducible refine ed_itT ?_ | with_reducible refine ed_itL ?_ | with_reducible refine ed_tupL ?_ | with_reducible refine ed_tupT ?_ | with_reducible refine ed_listL ?_ | with_reducible refine ed_listT ?_ | with_reducible refine ed_neg ?_ | with_reducible refine ed_max ?_ | with_reducible refine ed_min ?_ | with_reducible refine ed_intB ?_
  | with_reducible refine ev_rng1 ?_ | with_reducible refine ev_rng2 ?_)
local macro_rules | `(tactic| walk_at "sd") => `(tactic| first | rfl | assumption | (simp only [decide_eq_true_eq, decide_eq_false_iff_not, Bool.not_eq_true', Bool.not_eq_false', Bool.and_eq_true, Bool.or_eq_true, List.length_map, List.length_cons, List.length_nil, List.length_append, List.length_range] at *; omega))
local macro_rules | `(tactic| walk_at "e2") => `(tactic| first
  | walk_at "e1" | with_reducible refine ⟨_, rfl, ?_⟩ | with_reducible refine ⟨_, _, rfl, ?_⟩
  | with_reducible refine And.intro (Eq.refl (List.length _)) ?_ | with_reducible refine And.intro (Nat.le_of_ble_eq_true (n := List.length _) rfl) ?_
  | with_reducible refine And.intro (Eq.refl (_ : Sx)) (?_ : Ed _ _)
  | ((with_reducible refine And.intro ?_ (And.intro ?_ (?_ : Ev _ _))); (· rfl); (· rfl))
  | ((with_reducible refine ed_ixT ?_ ?_ ?_); (· decide); (· rfl)) | ((with_reducible refine ed_ixL ?_ ?_ ?_); (· decide); (· rfl)) | ((with_reducible refine ed_at ?_ ?_ ?_); (· decide); (· rfl))
  | ((with_reducible refine ed_modI ?_ ?_); (· first | decide | omega))
  | with_reducible exact gives_nx | ((with_reducible refine gives_rt ?_); (· rfl)) | ((with_reducible refine And.intro ?_ ?_); (· exact rfl); (· with_reducible exact Eq.refl (_ : Sx))))
local macro_rules | `(tactic| walk_at "e") => `(tactic| repeat walk_at "e2")
/-- begin a def's spec -/
local macro_rules | `(tactic| walk_at "i") => `(tactic| simp only [initS, List.map_cons, List.map_nil, List.length_cons, List.length_nil, Nat.reduceAdd, Nat.reduceSub, List.replicate, List.cons_append, List.nil_append])
/-- a known truth decides -/
local macro_rules | `(tactic| walk_at "t") => `(tactic| first | ((with_reducible refine split_t ?_ ?_); (· walk_at "sd")) | ((with_reducible refine split_t' ?_ ?_); (· walk_at "sd")))
local macro_rules | `(tactic| walk_at "f") => `(tactic| first | ((with_reducible refine split_f ?_ ?_); (· walk_at "sd")) | ((with_reducible refine split_f' ?_ ?_); (· walk_at "sd")))
/-- all that is seen in a look -/
local macro_rules | `(tactic| walk_at "v") => `(tactic| (rw [sealAll_mk (by (simp only [List.set_cons_zero, List.set_cons_succ, List.map_cons, List.map_nil, sealS_none, sealS_dat, sealS_scr, sealS_own, List.getElem?_cons_zero, List.getElem?_cons_succ, sealC_lst]; rfl)) (by (simp only [List.set_cons_zero, List.set_cons_succ, List.map_cons, List.map_nil]; rfl))]))
/-- a comprehension that writes lists: what stands is said of all that was gathered -/
theorem turns_acc {gg : D → Sx → Option Sx} {ge : M D} {vs : List Nat} {w : List (Option R)} {ds0 : List D} (J : List D → List (Option Cell) → Prop)
    (h : ∀ i d acc os, ds0[i]? = some d → acc.length = i → J acc os → ∃ S2, gg d ⟨w, os⟩ = some S2 ∧ ∃ e S4, ge S2 = some (e, S4) ∧ wipeS S4.sl vs = w ∧ J (acc ++ [e]) S4.os) :
    ∀ (ds : List D) (acc : List D) (sl : List (Option R)) (os : List (Option Cell)), ds = ds0.drop acc.length → wipeS sl vs = w → J acc os →
      ∃ es sl' os', gTurns gg gYes ge vs ds ⟨sl, os⟩ = some (es, ⟨sl', os'⟩) ∧ wipeS sl' vs = w ∧ J (acc ++ es) os' ∧ es.length = ds.length
  | [], acc, sl, os, _, hw, hj => ⟨[], sl, os, rfl, hw, by rw [List.append_nil]; exact hj, rfl⟩
  | d :: ds, acc, sl, os, hd, hw, hj => by
    have hi : ds0[acc.length]? = some d := by
      have : (ds0.drop acc.length)[0]? = some d := by rw [← hd]; rfl
      rwa [List.getElem?_drop, Nat.add_zero] at this
    obtain ⟨S2, e2, e, ⟨sl4, os4⟩, e4, hw4, hj4⟩ := h _ d acc os hi rfl hj
    obtain ⟨es, sl', os', e5, hw5, hj5, hl⟩ := turns_acc J h ds (acc ++ [e]) sl4 os4 (by
      rw [List.length_append, List.length_singleton, ← List.drop_drop, ← hd]; rfl) hw4 hj4
    refine ⟨e :: es, sl', os', ?_, hw5, by rw [List.append_assoc] at hj5; exact hj5, by simp [hl]⟩
    rw [gTurns]
    simp only [hw, e2, Option.bind_some, gYes, if_true, e4, e5]
theorem ev_lcA {S : Sx} {Q : D → Sx → Prop} {gi : M (List D)} {gg : D → Sx → Option Sx} {ge : M D} {vs : List Nat} (J : List D → List (Option Cell) → Prop)
    (h : Ev (gi S) fun ds S1 => J [] S1.os ∧ (∀ i d acc os, ds[i]? = some d → acc.length = i → J acc os → Es (gg d ⟨wipeS S1.sl vs, os⟩) fun S2 => Ev (ge S2) fun e S4 => wipeS S4.sl vs = wipeS S1.sl vs ∧ J (acc ++ [e]) S4.os) ∧
      (∀ acc os, acc.length = ds.length → J acc os → Q (.list acc) ⟨S1.sl, os⟩)) : Ev (gLc gi gg gYes ge vs S) Q := by
  obtain ⟨ds, ⟨sl1, os1⟩, e1, h0, h1, q⟩ := h
  obtain ⟨es, sl', os', e2, hw, hj, hl⟩ := turns_acc (gg := gg) (ge := ge) (vs := vs) (w := wipeS sl1 vs) (ds0 := ds) J (fun i d acc os hd ha hj => by
    obtain ⟨S2, h2, e, S4, h4, h5⟩ := h1 i d acc os hd ha hj
    exact ⟨S2, h2, e, S4, h4, h5⟩) ds [] sl1 os1 rfl rfl h0
  refine ⟨_, _, ?_, q es os' hl (by simpa using hj)⟩
  unfold gLc
  rw [e1]
  simp only [Option.bind_some, e2, backS_same hw]
theorem eo_augL {S : Sx} {i : Nat} {ge : M D} {Z : Out → Prop} (h : ∃ j cs0, S.sl[i]? = some (some (.own j)) ∧ S.os[j]? = some (some (.lst cs0)) ∧ Ev (ge S) fun d S1 => ∃ xs cs, d = .list xs ∧ S1.os[j]? = some (some (.lst cs)) ∧ cs.length + xs.length ≤ 16777216 ∧ Z (.nx ⟨S1.sl.set i (some (.own j)), S1.os.set j (some (.lst (cs ++ xs)))⟩)) : Eo (qAugL i ge S) Z := by
  obtain ⟨j, cs0, hi, hc, d, S1, e1, xs, cs, rfl, e2, l, q⟩ := h
  refine ⟨_, ?_, q⟩
  simp only [qAugL, ownOf, Fu.cellOf, hi, hc, e1, e2, Option.bind_some, line_eq, if_pos l]
namespace Bg
end Bg
end Lw

set_option maxHeartbeats 4000000
namespace Lw
open PySem Fu
local macro_rules | `(tactic| walk_at "e1") => `(tactic| first
  | with_reducible refine eo_seq ?_ | (with_reducible refine then_nx' ?_; refine ⟨?_, ?_, ?_⟩; rotate_left; · (try dsimp only [List.set, List.length_cons, List.length_nil, List.cons_append, List.nil_append, Nat.zero_add, Nat.reduceAdd]); exact rfl) | with_reducible refine then_rt ?_ | with_reducible refine eo_if ?_ | with_reducible refine eo_ret ?_ | with_reducible refine eo_set ?_ | with_reducible refine eo_asg ?_ | with_reducible refine eo_drop ?_ | with_reducible refine eo_nx ?_ | with_reducible refine eo_par ?_ | with_reducible refine eo_own ?_ | with_reducible refine eo_retN ?_ | with_reducible refine eo_for ?_ | with_reducible refine eo_retO ?_
  | with_reducible refine ev_c ?_ | (with_reducible refine ev_var ?_; refine ⟨_, rfl, ?_⟩) | with_reducible refine ev_bin ?_ | with_reducible refine ev_un ?_ | with_reducible refine ev_nil ?_ | with_reducible refine ev_cons ?_
  | with_reducible refine ev_tup ?_ | with_reducible refine ev_lst ?_ | with_reducible refine ev_call ?_ | with_reducible refine ev_callF ?_ | with_reducible refine ev_isi ?_ | with_reducible refine ev_isi2 ?_ | with_reducible refine ev_andV ?_ | with_reducible refine ev_orV ?_ | with_reducible refine ev_notV ?_
  | with_reducible refine ev_B ?_ | with_reducible refine ev_and ?_ | with_reducible refine ev_or ?_ | with_reducible refine ev_not ?_ | with_reducible refine ev_yes ?_ | with_reducible refine ev_if ?_ | with_reducible refine ev_no ?_ | with_reducible refine ev_so ?_ | with_reducible refine ev_sl ?_ | with_reducible refine ev_items ?_
  | (with_reducible refine ev_ixO ?_; refine ⟨_, _, rfl, rfl, ?_⟩) | (with_reducible refine ev_varO ?_; refine ⟨_, _, rfl, rfl, ?_⟩) | (with_reducible refine ev_lenO ?_; refine ⟨_, _, rfl, rfl, ?_⟩) | (with_reducible refine ev_scrSl ?_; refine ⟨_, rfl, ?_⟩) | (with_reducible refine ev_scrLen ?_; refine ⟨_, rfl, ?_⟩) | (with_reducible refine ev_callScr ?_; refine ⟨_, rfl, ?_⟩) | (with_reducible refine ev_OL ?_; refine ⟨_, _, rfl, rfl, ?_⟩) | with_reducible refine ev_OR ?_ | with_reducible refine ev_rep ?_ | with_reducible refine ev_listRng1 ?_ | with_reducible refine eo_setO ?_
  | with_reducible refine es_name ?_ | with_reducible refine es_tup2 ?_ | with_reducible refine es_tup3 ?_
  | with_reducible refine ed_addI ?_ | with_reducible refine ed_subI ?_ | with_reducible refine ed_cmp ?_ | with_reducible refine ed_eqI ?_ | with_reducible refine ed_neI ?_ | with_reducible refine ed_slT ?_ | with_reducible refine ed_slL ?_ | with_reducible refine ed_lenT ?_ | with_reducible refine ed_lenL ?_ | with_reducible refine ed_lenS ?_ | with_reducible refine ed_inS ?_ | with_reducible refine ed_itT ?_ | with_reducible refine ed_itL ?_ | with_reducible refine ed_tupL ?_ | with_reducible refine ed_tupT ?_ | with_reducible refine ed_listL ?_ | with_reducible refine ed_listT ?_ | with_reducible refine ed_neg ?_ | with_reducible refine ed_max ?_ | with_reducible refine ed_min ?_ | with_reducible refine ed_intB ?_
  | with_reducible refine ev_rng1 ?_ | with_reducible refine ev_rng2 ?_)
local macro_rules | `(tactic| walk_at "sd") => `(tactic| first | rfl | assumption | (simp only [decide_eq_true_eq, decide_eq_false_iff_not, Bool.not_eq_true', Bool.not_eq_false', Bool.and_eq_true, Bool.or_eq_true, List.length_map, List.length_cons, List.length_nil, List.length_append, List.length_range] at *; omega))
local macro_rules | `(tactic| walk_at "e2") => `(tactic| first
  | walk_at "e1" | with_reducible refine ⟨_, rfl, ?_⟩ | with_reducible refine ⟨_, _, rfl, ?_⟩
  | with_reducible refine And.intro (Eq.refl (List.length _)) ?_ | with_reducible refine And.intro (Nat.le_of_ble_eq_true (n := List.length _) rfl) ?_
  | with_reducible refine And.intro (Eq.refl (_ : Sx)) (?_ : Ed _ _)
  | ((with_reducible refine And.intro ?_ (And.intro ?_ (?_ : Ev _ _))); (· rfl); (· rfl))
  | ((with_reducible refine ed_ixT ?_ ?_ ?_); (· decide); (· rfl)) | ((with_reducible refine ed_ixL ?_ ?_ ?_); (· decide); (· rfl)) | ((with_reducible refine ed_at ?_ ?_ ?_); (· decide); (· rfl))
  | ((with_reducible refine ed_modI ?_ ?_); (· first | decide | omega))
  | with_reducible exact gives_nx | ((with_reducible refine gives_rt ?_); (· rfl)) | ((with_reducible refine And.intro ?_ ?_); (· exact rfl); (· with_reducible exact Eq.refl (_ : Sx))))
local macro_rules | `(tactic| walk_at "e") => `(tactic| repeat walk_at "e2")
/-- begin a def's spec -/
local macro_rules | `(tactic| walk_at "i") => `(tactic| simp only [initS, List.map_cons, List.map_nil, List.length_cons, List.length_nil, Nat.reduceAdd, Nat.reduceSub, List.replicate, List.cons_append, List.nil_append])
/-- a known truth decides -/
local macro_rules | `(tactic| walk_at "t") => `(tactic| first | ((with_reducible refine split_t ?_ ?_); (· walk_at "sd")) | ((with_reducible refine split_t' ?_ ?_); (· walk_at "sd")))
local macro_rules | `(tactic| walk_at "f") => `(tactic| first | ((with_reducible refine split_f ?_ ?_); (· walk_at "sd")) | ((with_reducible refine split_f' ?_ ?_); (· walk_at "sd")))
/-- all that is seen in a look -/
local macro_rules | `(tactic| walk_at "v") => `(tactic| (rw [sealAll_mk (by (simp only [List.set_cons_zero, List.set_cons_succ, List.map_cons, List.map_nil, sealS_none, sealS_dat, sealS_scr, sealS_own, List.getElem?_cons_zero, List.getElem?_cons_succ, sealC_lst]; rfl)) (by (simp only [List.set_cons_zero, List.set_cons_succ, List.map_cons, List.map_nil]; rfl))]))
namespace Bg
open Sp
/-! ### a walk's lines, plainly -/
def lnAt (sp : List Int) (sg : List Nat) (i : Nat) (s : Int) : Ln := if s = 0 then (sp.getD i 0, sp.getD (i + 1) 0, sg.getD i 0) else (sp.getD (i + 1) 0, sp.getD i 0, sg.getD i 0)
structure Wk (n k : Nat) (sp : List Int) (od sg : List Nat) (qs : List (Option Ln)) (es : List (Int × Int)) : Prop where
  qlen : qs.length = n
  elen : es.length = k
  glen : sg.length = k
  at' : ∀ i, i < k → ∃ m s, od[i]? = some m ∧ (s = 0 ∨ s = 1) ∧ es[i]? = some ((m : Int), s) ∧ qs[m]? = some (some (lnAt sp sg i s))
theorem getD_add {α : Type} {xs : List α} {x d : α} {i : Nat} (h : i < xs.length) : (xs ++ [x]).getD i d = xs.getD i d := by
  rw [List.getD_eq_getElem?_getD, List.getD_eq_getElem?_getD, List.getElem?_append_left h]
theorem Wk.zero (n : Nat) (sp : List Int) (od : List Nat) : Wk n 0 sp od [] (List.replicate n none) [] := ⟨by simp, rfl, rfl, fun i h => absurd h (Nat.not_lt_zero _)⟩
theorem Wk.step {n k m : Nat} {sp : List Int} {od sg : List Nat} {qs : List (Option Ln)} {es : List (Int × Int)} {s : Int} {c : Nat} (h : Wk n k sp od sg qs es) (hnd : od.Nodup) (hm : od[k]? = some m) (hmn : m < n) (hs : s = 0 ∨ s = 1) :
    Wk n (k + 1) sp od (sg ++ [c]) (qs.set m (some (lnAt sp (sg ++ [c]) k s))) (es ++ [((m : Int), s)]) := by
  have hlt : m < qs.length := by rw [h.qlen]; exact hmn
  refine ⟨by simp [h.qlen], by simp [h.elen], by simp [h.glen], fun i hi => ?_⟩
  rcases Nat.lt_succ_iff_lt_or_eq.mp hi with hi | rfl
  · obtain ⟨m2, s2, h1, h2, h3, h4⟩ := h.at' i hi
    refine ⟨m2, s2, h1, h2, by rw [List.getElem?_append_left (by rw [h.elen]; exact hi)]; exact h3, ?_⟩
    have hne : m ≠ m2 := by
      rintro rfl
      obtain ⟨l1, e1⟩ := List.getElem?_eq_some_iff.mp hm
      obtain ⟨l2, e2⟩ := List.getElem?_eq_some_iff.mp h1
      have := (List.getElem_inj hnd).mp (e1.trans e2.symm)
      omega
    rw [List.getElem?_set_ne hne, h4]
    unfold lnAt
    rw [getD_add (by rw [h.glen]; exact hi)]
  · exact ⟨m, s, hm, hs, by rw [List.getElem?_append_right (by rw [h.elen]; exact Nat.le_refl _), h.elen, Nat.sub_self]; rfl, by rw [List.getElem?_set_self hlt]⟩
/-- a walk's web and ride -/
structure Walked (n : Nat) (sp : List Int) (od sg : List Nat) (ls : List Ln) (es : List (Int × Int)) : Prop where
  llen : ls.length = n
  elen : es.length = n
  glen : sg.length = n
  nd : od.Nodup
  at' : ∀ i, i < n → ∃ m s, od[i]? = some m ∧ (s = 0 ∨ s = 1) ∧ es[i]? = some ((m : Int), s) ∧ ls[m]? = some (lnAt sp sg i s)
theorem Wk.done {n : Nat} {sp : List Int} {od sg : List Nat} {qs : List (Option Ln)} {es : List (Int × Int)} (h : Wk n n sp od sg qs es) (hp : od.Perm (List.range n)) : ∃ ls : List Ln, qs = ls.map some ∧ Walked n sp od sg ls es := by
  have hl : od.length = n := by simpa using hp.length_eq
  obtain ⟨ls, rfl⟩ := all_some (qs := qs) fun q hq => by
    obtain ⟨m, hm⟩ := List.mem_iff_getElem?.mp hq
    have hlt := (List.getElem?_eq_some_iff.mp hm).1
    rw [h.qlen] at hlt
    have : m ∈ od := hp.mem_iff.mpr (List.mem_range.mpr hlt)
    obtain ⟨i, hi⟩ := List.mem_iff_getElem?.mp this
    have hin := (List.getElem?_eq_some_iff.mp hi).1
    obtain ⟨m2, s, e1, _, _, e4⟩ := h.at' i (by omega)
    rw [hi] at e1; cases e1
    rw [hm] at e4; cases e4
    exact ⟨_, rfl⟩
  refine ⟨ls, rfl, by have := h.qlen; simpa using this, h.elen, h.glen, hp.nodup_iff.mpr List.nodup_range, fun i hi => ?_⟩
  obtain ⟨m, s, e1, e2, e3, e4⟩ := h.at' i hi
  rw [List.getElem?_map] at e4
  obtain ⟨l, e5, e6⟩ := Option.map_eq_some_iff.mp e4
  cases e6
  exact ⟨m, s, e1, e2, e3, e5⟩
theorem Walked.at {n : Nat} {sp : List Int} {od sg : List Nat} {ls : List Ln} {es : List (Int × Int)} (h : Walked n sp od sg ls es) {i : Nat} (hi : i < n) :
    ∃ e, es[i]? = some e ∧ EndOk ls.length e ∧ plc ls e = sp.getD i 0 ∧ plc ls (far e) = sp.getD (i + 1) 0 ∧ cmpy ls e = sg.getD i 0 := by
  obtain ⟨m, s, _, hs, h1, h2⟩ := h.at' i hi
  have hm := (List.getElem?_eq_some_iff.mp h2).1
  refine ⟨_, h1, ⟨by simp, by simpa using hm, by simp only; omega, by simp only; omega⟩, ?_, ?_, ?_⟩
  · unfold plc
    simp only [Int.toNat_natCast, h2]
    rcases hs with rfl | rfl <;> simp [sideOf, lnAt]
  · unfold plc far
    simp only [Int.toNat_natCast, h2]
    rcases hs with rfl | rfl <;> simp [sideOf, lnAt]
  · unfold cmpy
    simp only [Int.toNat_natCast, h2]
    rcases hs with rfl | rfl <;> simp [lnAt]
end Bg
end Lw

set_option maxHeartbeats 4000000
namespace Lw
open PySem Fu
local macro_rules | `(tactic| walk_at "e1") => `(tactic| first
  | with_reducible refine eo_seq ?_ | (with_reducible refine then_nx' ?_; refine ⟨?_, ?_, ?_⟩; rotate_left; · (try dsimp only [List.set, List.length_cons, List.length_nil, List.cons_append, List.nil_append, Nat.zero_add, Nat.reduceAdd]); exact rfl) | with_reducible refine then_rt ?_ | with_reducible refine eo_if ?_ | with_reducible refine eo_ret ?_ | with_reducible refine eo_set ?_ | with_reducible refine eo_asg ?_ | with_reducible refine eo_drop ?_ | with_reducible refine eo_nx ?_ | with_reducible refine eo_par ?_ | with_reducible refine eo_own ?_ | with_reducible refine eo_retN ?_ | with_reducible refine eo_for ?_ | with_reducible refine eo_retO ?_
  | with_reducible refine ev_c ?_ | (with_reducible refine ev_var ?_; refine ⟨_, rfl, ?_⟩) | with_reducible refine ev_bin ?_ | with_reducible refine ev_un ?_ | with_reducible refine ev_nil ?_ | with_reducible refine ev_cons ?_
  | with_reducible refine ev_tup ?_ | with_reducible refine ev_lst ?_ | with_reducible refine ev_call ?_ | with_reducible refine ev_callF ?_ | with_reducible refine ev_isi ?_ | with_reducible refine ev_isi2 ?_ | with_reducible refine ev_andV ?_ | with_reducible refine ev_orV ?_ | with_reducible refine ev_notV ?_
  | with_reducible refine ev_B ?_ | with_reducible refine ev_and ?_ | with_reducible refine ev_or ?_ | with_reducible refine ev_not ?_ | with_reducible refine ev_yes ?_ | with_reducible refine ev_if ?_ | with_reducible refine ev_no ?_ | with_reducible refine ev_so ?_ | with_reducible refine ev_sl ?_ | with_reducible refine ev_items ?_
  | (with_reducible refine ev_ixO ?_; refine ⟨_, _, rfl, rfl, ?_⟩) | (with_reducible refine ev_varO ?_; refine ⟨_, _, rfl, rfl, ?_⟩) | (with_reducible refine ev_lenO ?_; refine ⟨_, _, rfl, rfl, ?_⟩) | (with_reducible refine ev_scrSl ?_; refine ⟨_, rfl, ?_⟩) | (with_reducible refine ev_scrLen ?_; refine ⟨_, rfl, ?_⟩) | (with_reducible refine ev_callScr ?_; refine ⟨_, rfl, ?_⟩) | (with_reducible refine ev_OL ?_; refine ⟨_, _, rfl, rfl, ?_⟩) | with_reducible refine ev_OR ?_ | with_reducible refine ev_rep ?_ | with_reducible refine ev_listRng1 ?_ | with_reducible refine eo_setO ?_
  | with_reducible refine es_name ?_ | with_reducible refine es_tup2 ?_ | with_reducible refine es_tup3 ?_
  | with_reducible refine ed_addI ?_ | with_reducible refine ed_subI ?_ | with_reducible refine ed_cmp ?_ | with_reducible refine ed_eqI ?_ | with_reducible refine ed_neI ?_ | with_reducible refine ed_slT ?_ | with_reducible refine ed_slL ?_ | with_reducible refine ed_lenT ?_ | with_reducible refine ed_lenL ?_ | with_reducible refine ed_lenS ?_ | with_reducible refine ed_inS ?_ | with_reducible refine ed_itT ?_ | with_reducible refine ed_itL ?_ | with_reducible refine ed_tupL ?_ | with_reducible refine ed_tupT ?_ | with_reducible refine ed_listL ?_ | with_reducible refine ed_listT ?_ | with_reducible refine ed_neg ?_ | with_reducible refine ed_max ?_ | with_reducible refine ed_min ?_ | with_reducible refine ed_intB ?_
  | with_reducible refine ev_rng1 ?_ | with_reducible refine ev_rng2 ?_)
local macro_rules | `(tactic| walk_at "sd") => `(tactic| first | rfl | assumption | (simp only [decide_eq_true_eq, decide_eq_false_iff_not, Bool.not_eq_true', Bool.not_eq_false', Bool.and_eq_true, Bool.or_eq_true, List.length_map, List.length_cons, List.length_nil, List.length_append, List.length_range] at *; omega))
local macro_rules | `(tactic| walk_at "e2") => `(tactic| first
  | walk_at "e1" | with_reducible refine ⟨_, rfl, ?_⟩ | with_reducible refine ⟨_, _, rfl, ?_⟩
  | with_reducible refine And.intro (Eq.refl (List.length _)) ?_ | with_reducible refine And.intro (Nat.le_of_ble_eq_true (n := List.length _) rfl) ?_
  | with_reducible refine And.intro (Eq.refl (_ : Sx)) (?_ : Ed _ _)
  | ((with_reducible refine And.intro ?_ (And.intro ?_ (?_ : Ev _ _))); (· rfl); (· rfl))
  | ((with_reducible refine ed_ixT ?_ ?_ ?_); (· decide); (· rfl)) | ((with_reducible refine ed_ixL ?_ ?_ ?_); (· decide); (· rfl)) | ((with_reducible refine ed_at ?_ ?_ ?_); (· decide); (· rfl))
  | ((with_reducible refine ed_modI ?_ ?_); (· first | decide | omega))
  | with_reducible exact gives_nx | ((with_reducible refine gives_rt ?_); (· rfl)) | ((with_reducible refine And.intro ?_ ?_); (· exact rfl); (· with_reducible exact Eq.refl (_ : Sx))))
local macro_rules | `(tactic| walk_at "e") => `(tactic| repeat walk_at "e2")
/-- begin a def's spec -/
local macro_rules | `(tactic| walk_at "i") => `(tactic| simp only [initS, List.map_cons, List.map_nil, List.length_cons, List.length_nil, Nat.reduceAdd, Nat.reduceSub, List.replicate, List.cons_append, List.nil_append])
/-- a known truth decides -/
local macro_rules | `(tactic| walk_at "t") => `(tactic| first | ((with_reducible refine split_t ?_ ?_); (· walk_at "sd")) | ((with_reducible refine split_t' ?_ ?_); (· walk_at "sd")))
local macro_rules | `(tactic| walk_at "f") => `(tactic| first | ((with_reducible refine split_f ?_ ?_); (· walk_at "sd")) | ((with_reducible refine split_f' ?_ ?_); (· walk_at "sd")))
/-- all that is seen in a look -/
local macro_rules | `(tactic| walk_at "v") => `(tactic| (rw [sealAll_mk (by (simp only [List.set_cons_zero, List.set_cons_succ, List.map_cons, List.map_nil, sealS_none, sealS_dat, sealS_scr, sealS_own, List.getElem?_cons_zero, List.getElem?_cons_succ, sealC_lst]; rfl)) (by (simp only [List.set_cons_zero, List.set_cons_succ, List.map_cons, List.map_nil]; rfl))]))
namespace Bg
open Sp
end Bg
end Lw

set_option maxHeartbeats 4000000
namespace Lw
open PySem Fu
local macro_rules | `(tactic| walk_at "e1") => `(tactic| first
  | with_reducible refine eo_seq ?_ | (with_reducible refine then_nx' ?_; refine ⟨?_, ?_, ?_⟩; rotate_left; · (try dsimp only [List.set, List.length_cons, List.length_nil, List.cons_append, List.nil_append, Nat.zero_add, Nat.reduceAdd]); exact rfl) | with_reducible refine then_rt ?_ | with_reducible refine eo_if ?_ | with_reducible refine eo_ret ?_ | with_reducible refine eo_set ?_ | with_reducible refine eo_asg ?_ | with_reducible refine eo_drop ?_ | with_reducible refine eo_nx ?_ | with_reducible refine eo_par ?_ | with_reducible refine eo_own ?_ | with_reducible refine eo_retN ?_ | with_reducible refine eo_for ?_ | with_reducible refine eo_retO ?_
  | with_reducible refine ev_c ?_ | (with_reducible refine ev_var ?_; refine ⟨_, rfl, ?_⟩) | with_reducible refine ev_bin ?_ | with_reducible refine ev_un ?_ | with_reducible refine ev_nil ?_ | with_reducible refine ev_cons ?_
  | with_reducible refine ev_tup ?_ | with_reducible refine ev_lst ?_ | with_reducible refine ev_call ?_ | with_reducible refine ev_callF ?_ | with_reducible refine ev_isi ?_ | with_reducible refine ev_isi2 ?_ | with_reducible refine ev_andV ?_ | with_reducible refine ev_orV ?_ | with_reducible refine ev_notV ?_
  | with_reducible refine ev_B ?_ | with_reducible refine ev_and ?_ | with_reducible refine ev_or ?_ | with_reducible refine ev_not ?_ | with_reducible refine ev_yes ?_ | with_reducible refine ev_if ?_ | with_reducible refine ev_no ?_ | with_reducible refine ev_so ?_ | with_reducible refine ev_sl ?_ | with_reducible refine ev_items ?_
  | (with_reducible refine ev_ixO ?_; refine ⟨_, _, rfl, rfl, ?_⟩) | (with_reducible refine ev_varO ?_; refine ⟨_, _, rfl, rfl, ?_⟩) | (with_reducible refine ev_lenO ?_; refine ⟨_, _, rfl, rfl, ?_⟩) | (with_reducible refine ev_scrSl ?_; refine ⟨_, rfl, ?_⟩) | (with_reducible refine ev_scrLen ?_; refine ⟨_, rfl, ?_⟩) | (with_reducible refine ev_callScr ?_; refine ⟨_, rfl, ?_⟩) | (with_reducible refine ev_OL ?_; refine ⟨_, _, rfl, rfl, ?_⟩) | with_reducible refine ev_OR ?_ | with_reducible refine ev_rep ?_ | with_reducible refine ev_listRng1 ?_ | with_reducible refine eo_setO ?_
  | with_reducible refine es_name ?_ | with_reducible refine es_tup2 ?_ | with_reducible refine es_tup3 ?_
  | with_reducible refine ed_addI ?_ | with_reducible refine ed_subI ?_ | with_reducible refine ed_cmp ?_ | with_reducible refine ed_eqI ?_ | with_reducible refine ed_neI ?_ | with_reducible refine ed_slT ?_ | with_reducible refine ed_slL ?_ | with_reducible refine ed_lenT ?_ | with_reducible refine ed_lenL ?_ | with_reducible refine ed_lenS ?_ | with_reducible refine ed_inS ?_ | with_reducible refine ed_itT ?_ | with_reducible refine ed_itL ?_ | with_reducible refine ed_tupL ?_ | with_reducible refine ed_tupT ?_ | with_reducible refine ed_listL ?_ | with_reducible refine ed_listT ?_ | with_reducible refine ed_neg ?_ | with_reducible refine ed_max ?_ | with_reducible refine ed_min ?_ | with_reducible refine ed_intB ?_
  | with_reducible refine ev_rng1 ?_ | with_reducible refine ev_rng2 ?_)
local macro_rules | `(tactic| walk_at "sd") => `(tactic| first | rfl | assumption | (simp only [decide_eq_true_eq, decide_eq_false_iff_not, Bool.not_eq_true', Bool.not_eq_false', Bool.and_eq_true, Bool.or_eq_true, List.length_map, List.length_cons, List.length_nil, List.length_append, List.length_range] at *; omega))
local macro_rules | `(tactic| walk_at "e2") => `(tactic| first
  | walk_at "e1" | with_reducible refine ⟨_, rfl, ?_⟩ | with_reducible refine ⟨_, _, rfl, ?_⟩
  | with_reducible refine And.intro (Eq.refl (List.length _)) ?_ | with_reducible refine And.intro (Nat.le_of_ble_eq_true (n := List.length _) rfl) ?_
  | with_reducible refine And.intro (Eq.refl (_ : Sx)) (?_ : Ed _ _)
  | ((with_reducible refine And.intro ?_ (And.intro ?_ (?_ : Ev _ _))); (· rfl); (· rfl))
  | ((with_reducible refine ed_ixT ?_ ?_ ?_); (· decide); (· rfl)) | ((with_reducible refine ed_ixL ?_ ?_ ?_); (· decide); (· rfl)) | ((with_reducible refine ed_at ?_ ?_ ?_); (· decide); (· rfl))
  | ((with_reducible refine ed_modI ?_ ?_); (· first | decide | omega))
  | with_reducible exact gives_nx | ((with_reducible refine gives_rt ?_); (· rfl)) | ((with_reducible refine And.intro ?_ ?_); (· exact rfl); (· with_reducible exact Eq.refl (_ : Sx))))
local macro_rules | `(tactic| walk_at "e") => `(tactic| repeat walk_at "e2")
/-- begin a def's spec -/
local macro_rules | `(tactic| walk_at "i") => `(tactic| simp only [initS, List.map_cons, List.map_nil, List.length_cons, List.length_nil, Nat.reduceAdd, Nat.reduceSub, List.replicate, List.cons_append, List.nil_append])
/-- a known truth decides -/
local macro_rules | `(tactic| walk_at "t") => `(tactic| first | ((with_reducible refine split_t ?_ ?_); (· walk_at "sd")) | ((with_reducible refine split_t' ?_ ?_); (· walk_at "sd")))
local macro_rules | `(tactic| walk_at "f") => `(tactic| first | ((with_reducible refine split_f ?_ ?_); (· walk_at "sd")) | ((with_reducible refine split_f' ?_ ?_); (· walk_at "sd")))
/-- all that is seen in a look -/
local macro_rules | `(tactic| walk_at "v") => `(tactic| (rw [sealAll_mk (by (simp only [List.set_cons_zero, List.set_cons_succ, List.map_cons, List.map_nil, sealS_none, sealS_dat, sealS_scr, sealS_own, List.getElem?_cons_zero, List.getElem?_cons_succ, sealC_lst]; rfl)) (by (simp only [List.set_cons_zero, List.set_cons_succ, List.map_cons, List.map_nil]; rfl))]))
namespace Bg
open Sp
end Bg
end Lw

set_option maxHeartbeats 4000000
namespace Lw
open PySem Fu
local macro_rules | `(tactic| walk_at "e1") => `(tactic| first
  | with_reducible refine eo_seq ?_ | (with_reducible refine then_nx' ?_; refine ⟨?_, ?_, ?_⟩; rotate_left; · (try dsimp only [List.set, List.length_cons, List.length_nil, List.cons_append, List.nil_append, Nat.zero_add, Nat.reduceAdd]); exact rfl) | with_reducible refine then_rt ?_ | with_reducible refine eo_if ?_ | with_reducible refine eo_ret ?_ | with_reducible refine eo_set ?_ | with_reducible refine eo_asg ?_ | with_reducible refine eo_drop ?_ | with_reducible refine eo_nx ?_ | with_reducible refine eo_par ?_ | with_reducible refine eo_own ?_ | with_reducible refine eo_retN ?_ | with_reducible refine eo_for ?_ | with_reducible refine eo_retO ?_
  | with_reducible refine ev_c ?_ | (with_reducible refine ev_var ?_; refine ⟨_, rfl, ?_⟩) | with_reducible refine ev_bin ?_ | with_reducible refine ev_un ?_ | with_reducible refine ev_nil ?_ | with_reducible refine ev_cons ?_
  | with_reducible refine ev_tup ?_ | with_reducible refine ev_lst ?_ | with_reducible refine ev_call ?_ | with_reducible refine ev_callF ?_ | with_reducible refine ev_isi ?_ | with_reducible refine ev_isi2 ?_ | with_reducible refine ev_andV ?_ | with_reducible refine ev_orV ?_ | with_reducible refine ev_notV ?_
  | with_reducible refine ev_B ?_ | with_reducible refine ev_and ?_ | with_reducible refine ev_or ?_ | with_reducible refine ev_not ?_ | with_reducible refine ev_yes ?_ | with_reducible refine ev_if ?_ | with_reducible refine ev_no ?_ | with_reducible refine ev_so ?_ | with_reducible refine ev_sl ?_ | with_reducible refine ev_items ?_
  | (with_reducible refine ev_ixO ?_; refine ⟨_, _, rfl, rfl, ?_⟩) | (with_reducible refine ev_varO ?_; refine ⟨_, _, rfl, rfl, ?_⟩) | (with_reducible refine ev_lenO ?_; refine ⟨_, _, rfl, rfl, ?_⟩) | (with_reducible refine ev_scrSl ?_; refine ⟨_, rfl, ?_⟩) | (with_reducible refine ev_scrLen ?_; refine ⟨_, rfl, ?_⟩) | (with_reducible refine ev_callScr ?_; refine ⟨_, rfl, ?_⟩) | (with_reducible refine ev_OL ?_; refine ⟨_, _, rfl, rfl, ?_⟩) | with_reducible refine ev_OR ?_ | with_reducible refine ev_rep ?_ | with_reducible refine ev_listRng1 ?_ | with_reducible refine eo_setO ?_
  | with_reducible refine es_name ?_ | with_reducible refine es_tup2 ?_ | with_reducible refine es_tup3 ?_
  | with_reducible refine ed_addI ?_ | with_reducible refine ed_subI ?_ | with_reducible refine ed_cmp ?_ | with_reducible refine ed_eqI ?_ | with_reducible refine ed_neI ?_ | with_reducible refine ed_slT ?_ | with_reducible refine ed_slL ?_ | with_reducible refine ed_lenT ?_ | with_reducible refine ed_lenL ?_ | with_reducible refine ed_lenS ?_ | with_reducible refine ed_inS ?_ | with_reducible refine ed_itT ?_ | with_reducible refine ed_itL ?_ | with_reducible refine ed_tupL ?_ | with_reducible refine ed_tupT ?_ | with_reducible refine ed_listL ?_ | with_reducible refine ed_listT ?_ | with_reducible refine ed_neg ?_ | with_reducible refine ed_max ?_ | with_reducible refine ed_min ?_ | with_reducible refine ed_intB ?_
  | with_reducible refine ev_rng1 ?_ | with_reducible refine ev_rng2 ?_)
local macro_rules | `(tactic| walk_at "sd") => `(tactic| first | rfl | assumption | (simp only [decide_eq_true_eq, decide_eq_false_iff_not, Bool.not_eq_true', Bool.not_eq_false', Bool.and_eq_true, Bool.or_eq_true, List.length_map, List.length_cons, List.length_nil, List.length_append, List.length_range] at *; omega))
local macro_rules | `(tactic| walk_at "e2") => `(tactic| first
  | walk_at "e1" | with_reducible refine ⟨_, rfl, ?_⟩ | with_reducible refine ⟨_, _, rfl, ?_⟩
  | with_reducible refine And.intro (Eq.refl (List.length _)) ?_ | with_reducible refine And.intro (Nat.le_of_ble_eq_true (n := List.length _) rfl) ?_
  | with_reducible refine And.intro (Eq.refl (_ : Sx)) (?_ : Ed _ _)
  | ((with_reducible refine And.intro ?_ (And.intro ?_ (?_ : Ev _ _))); (· rfl); (· rfl))
  | ((with_reducible refine ed_ixT ?_ ?_ ?_); (· decide); (· rfl)) | ((with_reducible refine ed_ixL ?_ ?_ ?_); (· decide); (· rfl)) | ((with_reducible refine ed_at ?_ ?_ ?_); (· decide); (· rfl))
  | ((with_reducible refine ed_modI ?_ ?_); (· first | decide | omega))
  | with_reducible exact gives_nx | ((with_reducible refine gives_rt ?_); (· rfl)) | ((with_reducible refine And.intro ?_ ?_); (· exact rfl); (· with_reducible exact Eq.refl (_ : Sx))))
local macro_rules | `(tactic| walk_at "e") => `(tactic| repeat walk_at "e2")
/-- begin a def's spec -/
local macro_rules | `(tactic| walk_at "i") => `(tactic| simp only [initS, List.map_cons, List.map_nil, List.length_cons, List.length_nil, Nat.reduceAdd, Nat.reduceSub, List.replicate, List.cons_append, List.nil_append])
/-- a known truth decides -/
local macro_rules | `(tactic| walk_at "t") => `(tactic| first | ((with_reducible refine split_t ?_ ?_); (· walk_at "sd")) | ((with_reducible refine split_t' ?_ ?_); (· walk_at "sd")))
local macro_rules | `(tactic| walk_at "f") => `(tactic| first | ((with_reducible refine split_f ?_ ?_); (· walk_at "sd")) | ((with_reducible refine split_f' ?_ ?_); (· walk_at "sd")))
/-- all that is seen in a look -/
local macro_rules | `(tactic| walk_at "v") => `(tactic| (rw [sealAll_mk (by (simp only [List.set_cons_zero, List.set_cons_succ, List.map_cons, List.map_nil, sealS_none, sealS_dat, sealS_scr, sealS_own, List.getElem?_cons_zero, List.getElem?_cons_succ, sealC_lst]; rfl)) (by (simp only [List.set_cons_zero, List.set_cons_succ, List.map_cons, List.map_nil]; rfl))]))
/-! ### rounds handed in, places, the other way about: of any data -/
/-! ### turnings -/
def tD (t : List Nat) : D := .tuple (t.map fun i : Nat => PyData.int (i : Int))
def put (t : List Nat) (es : List (Int × Int)) : List (Int × Int) := match t with
  | [i, j] => es.take i ++ rv ((es.take j).drop i) ++ es.drop j
  | [i, j, k, l] => es.take i ++ (es.take l).drop k ++ (es.take k).drop j ++ (es.take j).drop i ++ es.drop l
  | _ => es
/-! ### which turnings may be -/
def mates (ps : List Int) (i : Nat) : List Nat := ((List.range (ps.length - (i + 1))).map fun k => i + 1 + k).filter fun j => decide (ps.getD j 0 = ps.getD i 0)
def pairs (ps : List Int) (n : Nat) : List (List Nat) := (List.range n).flatMap fun i => (mates ps i).map fun j => [i, j]
end Lw

set_option maxHeartbeats 4000000
namespace Lw
open PySem Fu
local macro_rules | `(tactic| walk_at "e1") => `(tactic| first
  | with_reducible refine eo_seq ?_ | (with_reducible refine then_nx' ?_; refine ⟨?_, ?_, ?_⟩; rotate_left; · (try dsimp only [List.set, List.length_cons, List.length_nil, List.cons_append, List.nil_append, Nat.zero_add, Nat.reduceAdd]); exact rfl) | with_reducible refine then_rt ?_ | with_reducible refine eo_if ?_ | with_reducible refine eo_ret ?_ | with_reducible refine eo_set ?_ | with_reducible refine eo_asg ?_ | with_reducible refine eo_drop ?_ | with_reducible refine eo_nx ?_ | with_reducible refine eo_par ?_ | with_reducible refine eo_own ?_ | with_reducible refine eo_retN ?_ | with_reducible refine eo_for ?_ | with_reducible refine eo_retO ?_
  | with_reducible refine ev_c ?_ | (with_reducible refine ev_var ?_; refine ⟨_, rfl, ?_⟩) | with_reducible refine ev_bin ?_ | with_reducible refine ev_un ?_ | with_reducible refine ev_nil ?_ | with_reducible refine ev_cons ?_
  | with_reducible refine ev_tup ?_ | with_reducible refine ev_lst ?_ | with_reducible refine ev_call ?_ | with_reducible refine ev_callF ?_ | with_reducible refine ev_isi ?_ | with_reducible refine ev_isi2 ?_ | with_reducible refine ev_andV ?_ | with_reducible refine ev_orV ?_ | with_reducible refine ev_notV ?_
  | with_reducible refine ev_B ?_ | with_reducible refine ev_and ?_ | with_reducible refine ev_or ?_ | with_reducible refine ev_not ?_ | with_reducible refine ev_yes ?_ | with_reducible refine ev_if ?_ | with_reducible refine ev_no ?_ | with_reducible refine ev_so ?_ | with_reducible refine ev_sl ?_ | with_reducible refine ev_items ?_
  | (with_reducible refine ev_ixO ?_; refine ⟨_, _, rfl, rfl, ?_⟩) | (with_reducible refine ev_varO ?_; refine ⟨_, _, rfl, rfl, ?_⟩) | (with_reducible refine ev_lenO ?_; refine ⟨_, _, rfl, rfl, ?_⟩) | (with_reducible refine ev_scrSl ?_; refine ⟨_, rfl, ?_⟩) | (with_reducible refine ev_scrLen ?_; refine ⟨_, rfl, ?_⟩) | (with_reducible refine ev_callScr ?_; refine ⟨_, rfl, ?_⟩) | (with_reducible refine ev_OL ?_; refine ⟨_, _, rfl, rfl, ?_⟩) | with_reducible refine ev_OR ?_ | with_reducible refine ev_rep ?_ | with_reducible refine ev_listRng1 ?_ | with_reducible refine eo_setO ?_
  | with_reducible refine es_name ?_ | with_reducible refine es_tup2 ?_ | with_reducible refine es_tup3 ?_
  | with_reducible refine ed_addI ?_ | with_reducible refine ed_subI ?_ | with_reducible refine ed_cmp ?_ | with_reducible refine ed_eqI ?_ | with_reducible refine ed_neI ?_ | with_reducible refine ed_slT ?_ | with_reducible refine ed_slL ?_ | with_reducible refine ed_lenT ?_ | with_reducible refine ed_lenL ?_ | with_reducible refine ed_lenS ?_ | with_reducible refine ed_inS ?_ | with_reducible refine ed_itT ?_ | with_reducible refine ed_itL ?_ | with_reducible refine ed_tupL ?_ | with_reducible refine ed_tupT ?_ | with_reducible refine ed_listL ?_ | with_reducible refine ed_listT ?_ | with_reducible refine ed_neg ?_ | with_reducible refine ed_max ?_ | with_reducible refine ed_min ?_ | with_reducible refine ed_intB ?_
  | with_reducible refine ev_rng1 ?_ | with_reducible refine ev_rng2 ?_)
local macro_rules | `(tactic| walk_at "sd") => `(tactic| first | rfl | assumption | (simp only [decide_eq_true_eq, decide_eq_false_iff_not, Bool.not_eq_true', Bool.not_eq_false', Bool.and_eq_true, Bool.or_eq_true, List.length_map, List.length_cons, List.length_nil, List.length_append, List.length_range] at *; omega))
local macro_rules | `(tactic| walk_at "e2") => `(tactic| first
  | walk_at "e1" | with_reducible refine ⟨_, rfl, ?_⟩ | with_reducible refine ⟨_, _, rfl, ?_⟩
  | with_reducible refine And.intro (Eq.refl (List.length _)) ?_ | with_reducible refine And.intro (Nat.le_of_ble_eq_true (n := List.length _) rfl) ?_
  | with_reducible refine And.intro (Eq.refl (_ : Sx)) (?_ : Ed _ _)
  | ((with_reducible refine And.intro ?_ (And.intro ?_ (?_ : Ev _ _))); (· rfl); (· rfl))
  | ((with_reducible refine ed_ixT ?_ ?_ ?_); (· decide); (· rfl)) | ((with_reducible refine ed_ixL ?_ ?_ ?_); (· decide); (· rfl)) | ((with_reducible refine ed_at ?_ ?_ ?_); (· decide); (· rfl))
  | ((with_reducible refine ed_modI ?_ ?_); (· first | decide | omega))
  | with_reducible exact gives_nx | ((with_reducible refine gives_rt ?_); (· rfl)) | ((with_reducible refine And.intro ?_ ?_); (· exact rfl); (· with_reducible exact Eq.refl (_ : Sx))))
local macro_rules | `(tactic| walk_at "e") => `(tactic| repeat walk_at "e2")
/-- begin a def's spec -/
local macro_rules | `(tactic| walk_at "i") => `(tactic| simp only [initS, List.map_cons, List.map_nil, List.length_cons, List.length_nil, Nat.reduceAdd, Nat.reduceSub, List.replicate, List.cons_append, List.nil_append])
/-- a known truth decides -/
local macro_rules | `(tactic| walk_at "t") => `(tactic| first | ((with_reducible refine split_t ?_ ?_); (· walk_at "sd")) | ((with_reducible refine split_t' ?_ ?_); (· walk_at "sd")))
local macro_rules | `(tactic| walk_at "f") => `(tactic| first | ((with_reducible refine split_f ?_ ?_); (· walk_at "sd")) | ((with_reducible refine split_f' ?_ ?_); (· walk_at "sd")))
/-- all that is seen in a look -/
local macro_rules | `(tactic| walk_at "v") => `(tactic| (rw [sealAll_mk (by (simp only [List.set_cons_zero, List.set_cons_succ, List.map_cons, List.map_nil, sealS_none, sealS_dat, sealS_scr, sealS_own, List.getElem?_cons_zero, List.getElem?_cons_succ, sealC_lst]; rfl)) (by (simp only [List.set_cons_zero, List.set_cons_succ, List.map_cons, List.map_nil]; rfl))]))
def fours (ps : List Int) (t : List Nat) : List (List Nat) := match t with
  | [i, k] => ((pairs ps ps.length).filter fun u => match u with
    | [j, l] => decide (i < j) && decide (j ≤ k) && decide (k < l)
    | _ => false).map fun u => match u with
    | [j, l] => [i, j, k, l]
    | _ => []
  | _ => []
/-- the turnings that may be, in their order -/
def leT (a b : List Nat) : Bool := leD (tD a) (tD b)
def mb (ps : List Int) : List (List Nat) := (pairs ps ps.length ++ (pairs ps ps.length).flatMap (fours ps)).mergeSort leT
end Lw

set_option maxHeartbeats 4000000
namespace Lw
open PySem Fu
local macro_rules | `(tactic| walk_at "e1") => `(tactic| first
  | with_reducible refine eo_seq ?_ | (with_reducible refine then_nx' ?_; refine ⟨?_, ?_, ?_⟩; rotate_left; · (try dsimp only [List.set, List.length_cons, List.length_nil, List.cons_append, List.nil_append, Nat.zero_add, Nat.reduceAdd]); exact rfl) | with_reducible refine then_rt ?_ | with_reducible refine eo_if ?_ | with_reducible refine eo_ret ?_ | with_reducible refine eo_set ?_ | with_reducible refine eo_asg ?_ | with_reducible refine eo_drop ?_ | with_reducible refine eo_nx ?_ | with_reducible refine eo_par ?_ | with_reducible refine eo_own ?_ | with_reducible refine eo_retN ?_ | with_reducible refine eo_for ?_ | with_reducible refine eo_retO ?_
  | with_reducible refine ev_c ?_ | (with_reducible refine ev_var ?_; refine ⟨_, rfl, ?_⟩) | with_reducible refine ev_bin ?_ | with_reducible refine ev_un ?_ | with_reducible refine ev_nil ?_ | with_reducible refine ev_cons ?_
  | with_reducible refine ev_tup ?_ | with_reducible refine ev_lst ?_ | with_reducible refine ev_call ?_ | with_reducible refine ev_callF ?_ | with_reducible refine ev_isi ?_ | with_reducible refine ev_isi2 ?_ | with_reducible refine ev_andV ?_ | with_reducible refine ev_orV ?_ | with_reducible refine ev_notV ?_
  | with_reducible refine ev_B ?_ | with_reducible refine ev_and ?_ | with_reducible refine ev_or ?_ | with_reducible refine ev_not ?_ | with_reducible refine ev_yes ?_ | with_reducible refine ev_if ?_ | with_reducible refine ev_no ?_ | with_reducible refine ev_so ?_ | with_reducible refine ev_sl ?_ | with_reducible refine ev_items ?_
  | (with_reducible refine ev_ixO ?_; refine ⟨_, _, rfl, rfl, ?_⟩) | (with_reducible refine ev_varO ?_; refine ⟨_, _, rfl, rfl, ?_⟩) | (with_reducible refine ev_lenO ?_; refine ⟨_, _, rfl, rfl, ?_⟩) | (with_reducible refine ev_scrSl ?_; refine ⟨_, rfl, ?_⟩) | (with_reducible refine ev_scrLen ?_; refine ⟨_, rfl, ?_⟩) | (with_reducible refine ev_callScr ?_; refine ⟨_, rfl, ?_⟩) | (with_reducible refine ev_OL ?_; refine ⟨_, _, rfl, rfl, ?_⟩) | with_reducible refine ev_OR ?_ | with_reducible refine ev_rep ?_ | with_reducible refine ev_listRng1 ?_ | with_reducible refine eo_setO ?_
  | with_reducible refine es_name ?_ | with_reducible refine es_tup2 ?_ | with_reducible refine es_tup3 ?_
  | with_reducible refine ed_addI ?_ | with_reducible refine ed_subI ?_ | with_reducible refine ed_cmp ?_ | with_reducible refine ed_eqI ?_ | with_reducible refine ed_neI ?_ | with_reducible refine ed_slT ?_ | with_reducible refine ed_slL ?_ | with_reducible refine ed_lenT ?_ | with_reducible refine ed_lenL ?_ | with_reducible refine ed_lenS ?_ | with_reducible refine ed_inS ?_ | with_reducible refine ed_itT ?_ | with_reducible refine ed_itL ?_ | with_reducible refine ed_tupL ?_ | with_reducible refine ed_tupT ?_ | with_reducible refine ed_listL ?_ | with_reducible refine ed_listT ?_ | with_reducible refine ed_neg ?_ | with_reducible refine ed_max ?_ | with_reducible refine ed_min ?_ | with_reducible refine ed_intB ?_
  | with_reducible refine ev_rng1 ?_ | with_reducible refine ev_rng2 ?_)
local macro_rules | `(tactic| walk_at "sd") => `(tactic| first | rfl | assumption | (simp only [decide_eq_true_eq, decide_eq_false_iff_not, Bool.not_eq_true', Bool.not_eq_false', Bool.and_eq_true, Bool.or_eq_true, List.length_map, List.length_cons, List.length_nil, List.length_append, List.length_range] at *; omega))
local macro_rules | `(tactic| walk_at "e2") => `(tactic| first
  | walk_at "e1" | with_reducible refine ⟨_, rfl, ?_⟩ | with_reducible refine ⟨_, _, rfl, ?_⟩
  | with_reducible refine And.intro (Eq.refl (List.length _)) ?_ | with_reducible refine And.intro (Nat.le_of_ble_eq_true (n := List.length _) rfl) ?_
  | with_reducible refine And.intro (Eq.refl (_ : Sx)) (?_ : Ed _ _)
  | ((with_reducible refine And.intro ?_ (And.intro ?_ (?_ : Ev _ _))); (· rfl); (· rfl))
  | ((with_reducible refine ed_ixT ?_ ?_ ?_); (· decide); (· rfl)) | ((with_reducible refine ed_ixL ?_ ?_ ?_); (· decide); (· rfl)) | ((with_reducible refine ed_at ?_ ?_ ?_); (· decide); (· rfl))
  | ((with_reducible refine ed_modI ?_ ?_); (· first | decide | omega))
  | with_reducible exact gives_nx | ((with_reducible refine gives_rt ?_); (· rfl)) | ((with_reducible refine And.intro ?_ ?_); (· exact rfl); (· with_reducible exact Eq.refl (_ : Sx))))
local macro_rules | `(tactic| walk_at "e") => `(tactic| repeat walk_at "e2")
/-- begin a def's spec -/
local macro_rules | `(tactic| walk_at "i") => `(tactic| simp only [initS, List.map_cons, List.map_nil, List.length_cons, List.length_nil, Nat.reduceAdd, Nat.reduceSub, List.replicate, List.cons_append, List.nil_append])
/-- a known truth decides -/
local macro_rules | `(tactic| walk_at "t") => `(tactic| first | ((with_reducible refine split_t ?_ ?_); (· walk_at "sd")) | ((with_reducible refine split_t' ?_ ?_); (· walk_at "sd")))
local macro_rules | `(tactic| walk_at "f") => `(tactic| first | ((with_reducible refine split_f ?_ ?_); (· walk_at "sd")) | ((with_reducible refine split_f' ?_ ?_); (· walk_at "sd")))
/-- all that is seen in a look -/
local macro_rules | `(tactic| walk_at "v") => `(tactic| (rw [sealAll_mk (by (simp only [List.set_cons_zero, List.set_cons_succ, List.map_cons, List.map_nil, sealS_none, sealS_dat, sealS_scr, sealS_own, List.getElem?_cons_zero, List.getElem?_cons_succ, sealC_lst]; rfl)) (by (simp only [List.set_cons_zero, List.set_cons_succ, List.map_cons, List.map_nil]; rfl))]))
/-! ### what a turning does to a list -/
end Lw

set_option maxHeartbeats 4000000
namespace Lw
open PySem Fu
local macro_rules | `(tactic| walk_at "e1") => `(tactic| first
  | with_reducible refine eo_seq ?_ | (with_reducible refine then_nx' ?_; refine ⟨?_, ?_, ?_⟩; rotate_left; · (try dsimp only [List.set, List.length_cons, List.length_nil, List.cons_append, List.nil_append, Nat.zero_add, Nat.reduceAdd]); exact rfl) | with_reducible refine then_rt ?_ | with_reducible refine eo_if ?_ | with_reducible refine eo_ret ?_ | with_reducible refine eo_set ?_ | with_reducible refine eo_asg ?_ | with_reducible refine eo_drop ?_ | with_reducible refine eo_nx ?_ | with_reducible refine eo_par ?_ | with_reducible refine eo_own ?_ | with_reducible refine eo_retN ?_ | with_reducible refine eo_for ?_ | with_reducible refine eo_retO ?_
  | with_reducible refine ev_c ?_ | (with_reducible refine ev_var ?_; refine ⟨_, rfl, ?_⟩) | with_reducible refine ev_bin ?_ | with_reducible refine ev_un ?_ | with_reducible refine ev_nil ?_ | with_reducible refine ev_cons ?_
  | with_reducible refine ev_tup ?_ | with_reducible refine ev_lst ?_ | with_reducible refine ev_call ?_ | with_reducible refine ev_callF ?_ | with_reducible refine ev_isi ?_ | with_reducible refine ev_isi2 ?_ | with_reducible refine ev_andV ?_ | with_reducible refine ev_orV ?_ | with_reducible refine ev_notV ?_
  | with_reducible refine ev_B ?_ | with_reducible refine ev_and ?_ | with_reducible refine ev_or ?_ | with_reducible refine ev_not ?_ | with_reducible refine ev_yes ?_ | with_reducible refine ev_if ?_ | with_reducible refine ev_no ?_ | with_reducible refine ev_so ?_ | with_reducible refine ev_sl ?_ | with_reducible refine ev_items ?_
  | (with_reducible refine ev_ixO ?_; refine ⟨_, _, rfl, rfl, ?_⟩) | (with_reducible refine ev_varO ?_; refine ⟨_, _, rfl, rfl, ?_⟩) | (with_reducible refine ev_lenO ?_; refine ⟨_, _, rfl, rfl, ?_⟩) | (with_reducible refine ev_scrSl ?_; refine ⟨_, rfl, ?_⟩) | (with_reducible refine ev_scrLen ?_; refine ⟨_, rfl, ?_⟩) | (with_reducible refine ev_callScr ?_; refine ⟨_, rfl, ?_⟩) | (with_reducible refine ev_OL ?_; refine ⟨_, _, rfl, rfl, ?_⟩) | with_reducible refine ev_OR ?_ | with_reducible refine ev_rep ?_ | with_reducible refine ev_listRng1 ?_ | with_reducible refine eo_setO ?_
  | with_reducible refine es_name ?_ | with_reducible refine es_tup2 ?_ | with_reducible refine es_tup3 ?_
  | with_reducible refine ed_addI ?_ | with_reducible refine ed_subI ?_ | with_reducible refine ed_cmp ?_ | with_reducible refine ed_eqI ?_ | with_reducible refine ed_neI ?_ | with_reducible refine ed_slT ?_ | with_reducible refine ed_slL ?_ | with_reducible refine ed_lenT ?_ | with_reducible refine ed_lenL ?_ | with_reducible refine ed_lenS ?_ | with_reducible refine ed_inS ?_ | with_reducible refine ed_itT ?_ | with_reducible refine ed_itL ?_ | with_reducible refine ed_tupL ?_ | with_reducible refine ed_tupT ?_ | with_reducible refine ed_listL ?_ | with_reducible refine ed_listT ?_ | with_reducible refine ed_neg ?_ | with_reducible refine ed_max ?_ | with_reducible refine ed_min ?_ | with_reducible refine ed_intB ?_
  | with_reducible refine ev_rng1 ?_ | with_reducible refine ev_rng2 ?_)
local macro_rules | `(tactic| walk_at "sd") => `(tactic| first | rfl | assumption | (simp only [decide_eq_true_eq, decide_eq_false_iff_not, Bool.not_eq_true', Bool.not_eq_false', Bool.and_eq_true, Bool.or_eq_true, List.length_map, List.length_cons, List.length_nil, List.length_append, List.length_range] at *; omega))
local macro_rules | `(tactic| walk_at "e2") => `(tactic| first
  | walk_at "e1" | with_reducible refine ⟨_, rfl, ?_⟩ | with_reducible refine ⟨_, _, rfl, ?_⟩
  | with_reducible refine And.intro (Eq.refl (List.length _)) ?_ | with_reducible refine And.intro (Nat.le_of_ble_eq_true (n := List.length _) rfl) ?_
  | with_reducible refine And.intro (Eq.refl (_ : Sx)) (?_ : Ed _ _)
  | ((with_reducible refine And.intro ?_ (And.intro ?_ (?_ : Ev _ _))); (· rfl); (· rfl))
  | ((with_reducible refine ed_ixT ?_ ?_ ?_); (· decide); (· rfl)) | ((with_reducible refine ed_ixL ?_ ?_ ?_); (· decide); (· rfl)) | ((with_reducible refine ed_at ?_ ?_ ?_); (· decide); (· rfl))
  | ((with_reducible refine ed_modI ?_ ?_); (· first | decide | omega))
  | with_reducible exact gives_nx | ((with_reducible refine gives_rt ?_); (· rfl)) | ((with_reducible refine And.intro ?_ ?_); (· exact rfl); (· with_reducible exact Eq.refl (_ : Sx))))
local macro_rules | `(tactic| walk_at "e") => `(tactic| repeat walk_at "e2")
/-- begin a def's spec -/
local macro_rules | `(tactic| walk_at "i") => `(tactic| simp only [initS, List.map_cons, List.map_nil, List.length_cons, List.length_nil, Nat.reduceAdd, Nat.reduceSub, List.replicate, List.cons_append, List.nil_append])
/-- a known truth decides -/
local macro_rules | `(tactic| walk_at "t") => `(tactic| first | ((with_reducible refine split_t ?_ ?_); (· walk_at "sd")) | ((with_reducible refine split_t' ?_ ?_); (· walk_at "sd")))
local macro_rules | `(tactic| walk_at "f") => `(tactic| first | ((with_reducible refine split_f ?_ ?_); (· walk_at "sd")) | ((with_reducible refine split_f' ?_ ?_); (· walk_at "sd")))
/-- all that is seen in a look -/
local macro_rules | `(tactic| walk_at "v") => `(tactic| (rw [sealAll_mk (by (simp only [List.set_cons_zero, List.set_cons_succ, List.map_cons, List.map_nil, sealS_none, sealS_dat, sealS_scr, sealS_own, List.getElem?_cons_zero, List.getElem?_cons_succ, sealC_lst]; rfl)) (by (simp only [List.set_cons_zero, List.set_cons_succ, List.map_cons, List.map_nil]; rfl))]))
end Lw

set_option maxHeartbeats 4000000
namespace Lw
open PySem Fu
local macro_rules | `(tactic| walk_at "e1") => `(tactic| first
  | with_reducible refine eo_seq ?_ | (with_reducible refine then_nx' ?_; refine ⟨?_, ?_, ?_⟩; rotate_left; · (try dsimp only [List.set, List.length_cons, List.length_nil, List.cons_append, List.nil_append, Nat.zero_add, Nat.reduceAdd]); exact rfl) | with_reducible refine then_rt ?_ | with_reducible refine eo_if ?_ | with_reducible refine eo_ret ?_ | with_reducible refine eo_set ?_ | with_reducible refine eo_asg ?_ | with_reducible refine eo_drop ?_ | with_reducible refine eo_nx ?_ | with_reducible refine eo_par ?_ | with_reducible refine eo_own ?_ | with_reducible refine eo_retN ?_ | with_reducible refine eo_for ?_ | with_reducible refine eo_retO ?_
  | with_reducible refine ev_c ?_ | (with_reducible refine ev_var ?_; refine ⟨_, rfl, ?_⟩) | with_reducible refine ev_bin ?_ | with_reducible refine ev_un ?_ | with_reducible refine ev_nil ?_ | with_reducible refine ev_cons ?_
  | with_reducible refine ev_tup ?_ | with_reducible refine ev_lst ?_ | with_reducible refine ev_call ?_ | with_reducible refine ev_callF ?_ | with_reducible refine ev_isi ?_ | with_reducible refine ev_isi2 ?_ | with_reducible refine ev_andV ?_ | with_reducible refine ev_orV ?_ | with_reducible refine ev_notV ?_
  | with_reducible refine ev_B ?_ | with_reducible refine ev_and ?_ | with_reducible refine ev_or ?_ | with_reducible refine ev_not ?_ | with_reducible refine ev_yes ?_ | with_reducible refine ev_if ?_ | with_reducible refine ev_no ?_ | with_reducible refine ev_so ?_ | with_reducible refine ev_sl ?_ | with_reducible refine ev_items ?_
  | (with_reducible refine ev_ixO ?_; refine ⟨_, _, rfl, rfl, ?_⟩) | (with_reducible refine ev_varO ?_; refine ⟨_, _, rfl, rfl, ?_⟩) | (with_reducible refine ev_lenO ?_; refine ⟨_, _, rfl, rfl, ?_⟩) | (with_reducible refine ev_scrSl ?_; refine ⟨_, rfl, ?_⟩) | (with_reducible refine ev_scrLen ?_; refine ⟨_, rfl, ?_⟩) | (with_reducible refine ev_callScr ?_; refine ⟨_, rfl, ?_⟩) | (with_reducible refine ev_OL ?_; refine ⟨_, _, rfl, rfl, ?_⟩) | with_reducible refine ev_OR ?_ | with_reducible refine ev_rep ?_ | with_reducible refine ev_listRng1 ?_ | with_reducible refine eo_setO ?_
  | with_reducible refine es_name ?_ | with_reducible refine es_tup2 ?_ | with_reducible refine es_tup3 ?_
  | with_reducible refine ed_addI ?_ | with_reducible refine ed_subI ?_ | with_reducible refine ed_cmp ?_ | with_reducible refine ed_eqI ?_ | with_reducible refine ed_neI ?_ | with_reducible refine ed_slT ?_ | with_reducible refine ed_slL ?_ | with_reducible refine ed_lenT ?_ | with_reducible refine ed_lenL ?_ | with_reducible refine ed_lenS ?_ | with_reducible refine ed_inS ?_ | with_reducible refine ed_itT ?_ | with_reducible refine ed_itL ?_ | with_reducible refine ed_tupL ?_ | with_reducible refine ed_tupT ?_ | with_reducible refine ed_listL ?_ | with_reducible refine ed_listT ?_ | with_reducible refine ed_neg ?_ | with_reducible refine ed_max ?_ | with_reducible refine ed_min ?_ | with_reducible refine ed_intB ?_
  | with_reducible refine ev_rng1 ?_ | with_reducible refine ev_rng2 ?_)
local macro_rules | `(tactic| walk_at "sd") => `(tactic| first | rfl | assumption | (simp only [decide_eq_true_eq, decide_eq_false_iff_not, Bool.not_eq_true', Bool.not_eq_false', Bool.and_eq_true, Bool.or_eq_true, List.length_map, List.length_cons, List.length_nil, List.length_append, List.length_range] at *; omega))
local macro_rules | `(tactic| walk_at "e2") => `(tactic| first
  | walk_at "e1" | with_reducible refine ⟨_, rfl, ?_⟩ | with_reducible refine ⟨_, _, rfl, ?_⟩
  | with_reducible refine And.intro (Eq.refl (List.length _)) ?_ | with_reducible refine And.intro (Nat.le_of_ble_eq_true (n := List.length _) rfl) ?_
  | with_reducible refine And.intro (Eq.refl (_ : Sx)) (?_ : Ed _ _)
  | ((with_reducible refine And.intro ?_ (And.intro ?_ (?_ : Ev _ _))); (· rfl); (· rfl))
  | ((with_reducible refine ed_ixT ?_ ?_ ?_); (· decide); (· rfl)) | ((with_reducible refine ed_ixL ?_ ?_ ?_); (· decide); (· rfl)) | ((with_reducible refine ed_at ?_ ?_ ?_); (· decide); (· rfl))
  | ((with_reducible refine ed_modI ?_ ?_); (· first | decide | omega))
  | with_reducible exact gives_nx | ((with_reducible refine gives_rt ?_); (· rfl)) | ((with_reducible refine And.intro ?_ ?_); (· exact rfl); (· with_reducible exact Eq.refl (_ : Sx))))
local macro_rules | `(tactic| walk_at "e") => `(tactic| repeat walk_at "e2")
/-- begin a def's spec -/
local macro_rules | `(tactic| walk_at "i") => `(tactic| simp only [initS, List.map_cons, List.map_nil, List.length_cons, List.length_nil, Nat.reduceAdd, Nat.reduceSub, List.replicate, List.cons_append, List.nil_append])
/-- a known truth decides -/
local macro_rules | `(tactic| walk_at "t") => `(tactic| first | ((with_reducible refine split_t ?_ ?_); (· walk_at "sd")) | ((with_reducible refine split_t' ?_ ?_); (· walk_at "sd")))
local macro_rules | `(tactic| walk_at "f") => `(tactic| first | ((with_reducible refine split_f ?_ ?_); (· walk_at "sd")) | ((with_reducible refine split_f' ?_ ?_); (· walk_at "sd")))
/-- all that is seen in a look -/
local macro_rules | `(tactic| walk_at "v") => `(tactic| (rw [sealAll_mk (by (simp only [List.set_cons_zero, List.set_cons_succ, List.map_cons, List.map_nil, sealS_none, sealS_dat, sealS_scr, sealS_own, List.getElem?_cons_zero, List.getElem?_cons_succ, sealC_lst]; rfl)) (by (simp only [List.set_cons_zero, List.set_cons_succ, List.map_cons, List.map_nil]; rfl))]))
theorem toks_int (a : Int) : PySem.W.keyToks (.int a) = [.inl a] := by simp [PySem.W.keyToks]
theorem dataLt_int (a b : Int) : PySem.W.dataLt (.int a) (.int b) = decide (a < b) := by
  unfold PySem.W.dataLt
  rw [toks_int, toks_int]
  by_cases h : a = b
  · subst h
    rw [PyProof.Rows.lex_self]
    simp
    rfl
  · rw [PyProof.Rows.lex_diff (by simpa using h)]
    rfl
theorem leD_int (a b : Int) : leD (.int a) (.int b) = decide (a ≤ b) := by
  have h : leD (.int a) (.int b) = !PySem.W.dataLt (.int b) (.int a) := rfl
  rw [h, dataLt_int, Bool.eq_iff_iff]
  simp
theorem sortOk_ints (ns : List Int) : sortOk (ns.map PyData.int) = true := by
  unfold sortOk
  rw [Bool.and_eq_true, Bool.and_eq_true, Bool.or_eq_true]
  refine ⟨⟨?_, .inr ?_⟩, ?_⟩
  · rw [List.all_eq_true]
    intro d hd
    rw [List.all_eq_true]
    intro e he
    obtain ⟨a, _, rfl⟩ := List.mem_map.mp hd
    obtain ⟨b, _, rfl⟩ := List.mem_map.mp he
    simp [PySem.W.alike]
  · rw [List.all_eq_true]
    intro d hd
    obtain ⟨a, ha, rfl⟩ := List.mem_map.mp hd
    rfl
  · rw [List.all_eq_true]
    intro d hd
    obtain ⟨a, ha, rfl⟩ := List.mem_map.mp hd
    rw [Bool.and_eq_true]
    exact ⟨decide_eq_true (by simp [PyData.depth]), (fine_int a).1⟩
end Lw

set_option maxHeartbeats 4000000
namespace Lw
open PySem Fu
local macro_rules | `(tactic| walk_at "e1") => `(tactic| first
  | with_reducible refine eo_seq ?_ | (with_reducible refine then_nx' ?_; refine ⟨?_, ?_, ?_⟩; rotate_left; · (try dsimp only [List.set, List.length_cons, List.length_nil, List.cons_append, List.nil_append, Nat.zero_add, Nat.reduceAdd]); exact rfl) | with_reducible refine then_rt ?_ | with_reducible refine eo_if ?_ | with_reducible refine eo_ret ?_ | with_reducible refine eo_set ?_ | with_reducible refine eo_asg ?_ | with_reducible refine eo_drop ?_ | with_reducible refine eo_nx ?_ | with_reducible refine eo_par ?_ | with_reducible refine eo_own ?_ | with_reducible refine eo_retN ?_ | with_reducible refine eo_for ?_ | with_reducible refine eo_retO ?_
  | with_reducible refine ev_c ?_ | (with_reducible refine ev_var ?_; refine ⟨_, rfl, ?_⟩) | with_reducible refine ev_bin ?_ | with_reducible refine ev_un ?_ | with_reducible refine ev_nil ?_ | with_reducible refine ev_cons ?_
  | with_reducible refine ev_tup ?_ | with_reducible refine ev_lst ?_ | with_reducible refine ev_call ?_ | with_reducible refine ev_callF ?_ | with_reducible refine ev_isi ?_ | with_reducible refine ev_isi2 ?_ | with_reducible refine ev_andV ?_ | with_reducible refine ev_orV ?_ | with_reducible refine ev_notV ?_
  | with_reducible refine ev_B ?_ | with_reducible refine ev_and ?_ | with_reducible refine ev_or ?_ | with_reducible refine ev_not ?_ | with_reducible refine ev_yes ?_ | with_reducible refine ev_if ?_ | with_reducible refine ev_no ?_ | with_reducible refine ev_so ?_ | with_reducible refine ev_sl ?_ | with_reducible refine ev_items ?_
  | (with_reducible refine ev_ixO ?_; refine ⟨_, _, rfl, rfl, ?_⟩) | (with_reducible refine ev_varO ?_; refine ⟨_, _, rfl, rfl, ?_⟩) | (with_reducible refine ev_lenO ?_; refine ⟨_, _, rfl, rfl, ?_⟩) | (with_reducible refine ev_scrSl ?_; refine ⟨_, rfl, ?_⟩) | (with_reducible refine ev_scrLen ?_; refine ⟨_, rfl, ?_⟩) | (with_reducible refine ev_callScr ?_; refine ⟨_, rfl, ?_⟩) | (with_reducible refine ev_OL ?_; refine ⟨_, _, rfl, rfl, ?_⟩) | with_reducible refine ev_OR ?_ | with_reducible refine ev_rep ?_ | with_reducible refine ev_listRng1 ?_ | with_reducible refine eo_setO ?_
  | with_reducible refine es_name ?_ | with_reducible refine es_tup2 ?_ | with_reducible refine es_tup3 ?_
  | with_reducible refine ed_addI ?_ | with_reducible refine ed_subI ?_ | with_reducible refine ed_cmp ?_ | with_reducible refine ed_eqI ?_ | with_reducible refine ed_neI ?_ | with_reducible refine ed_slT ?_ | with_reducible refine ed_slL ?_ | with_reducible refine ed_lenT ?_ | with_reducible refine ed_lenL ?_ | with_reducible refine ed_lenS ?_ | with_reducible refine ed_inS ?_ | with_reducible refine ed_itT ?_ | with_reducible refine ed_itL ?_ | with_reducible refine ed_tupL ?_ | with_reducible refine ed_tupT ?_ | with_reducible refine ed_listL ?_ | with_reducible refine ed_listT ?_ | with_reducible refine ed_neg ?_ | with_reducible refine ed_max ?_ | with_reducible refine ed_min ?_ | with_reducible refine ed_intB ?_
  | with_reducible refine ev_rng1 ?_ | with_reducible refine ev_rng2 ?_)
local macro_rules | `(tactic| walk_at "sd") => `(tactic| first | rfl | assumption | (simp only [decide_eq_true_eq, decide_eq_false_iff_not, Bool.not_eq_true', Bool.not_eq_false', Bool.and_eq_true, Bool.or_eq_true, List.length_map, List.length_cons, List.length_nil, List.length_append, List.length_range] at *; omega))
local macro_rules | `(tactic| walk_at "e2") => `(tactic| first
  | walk_at "e1" | with_reducible refine ⟨_, rfl, ?_⟩ | with_reducible refine ⟨_, _, rfl, ?_⟩
  | with_reducible refine And.intro (Eq.refl (List.length _)) ?_ | with_reducible refine And.intro (Nat.le_of_ble_eq_true (n := List.length _) rfl) ?_
  | with_reducible refine And.intro (Eq.refl (_ : Sx)) (?_ : Ed _ _)
  | ((with_reducible refine And.intro ?_ (And.intro ?_ (?_ : Ev _ _))); (· rfl); (· rfl))
  | ((with_reducible refine ed_ixT ?_ ?_ ?_); (· decide); (· rfl)) | ((with_reducible refine ed_ixL ?_ ?_ ?_); (· decide); (· rfl)) | ((with_reducible refine ed_at ?_ ?_ ?_); (· decide); (· rfl))
  | ((with_reducible refine ed_modI ?_ ?_); (· first | decide | omega))
  | with_reducible exact gives_nx | ((with_reducible refine gives_rt ?_); (· rfl)) | ((with_reducible refine And.intro ?_ ?_); (· exact rfl); (· with_reducible exact Eq.refl (_ : Sx))))
local macro_rules | `(tactic| walk_at "e") => `(tactic| repeat walk_at "e2")
/-- begin a def's spec -/
local macro_rules | `(tactic| walk_at "i") => `(tactic| simp only [initS, List.map_cons, List.map_nil, List.length_cons, List.length_nil, Nat.reduceAdd, Nat.reduceSub, List.replicate, List.cons_append, List.nil_append])
/-- a known truth decides -/
local macro_rules | `(tactic| walk_at "t") => `(tactic| first | ((with_reducible refine split_t ?_ ?_); (· walk_at "sd")) | ((with_reducible refine split_t' ?_ ?_); (· walk_at "sd")))
local macro_rules | `(tactic| walk_at "f") => `(tactic| first | ((with_reducible refine split_f ?_ ?_); (· walk_at "sd")) | ((with_reducible refine split_f' ?_ ?_); (· walk_at "sd")))
/-- all that is seen in a look -/
local macro_rules | `(tactic| walk_at "v") => `(tactic| (rw [sealAll_mk (by (simp only [List.set_cons_zero, List.set_cons_succ, List.map_cons, List.map_nil, sealS_none, sealS_dat, sealS_scr, sealS_own, List.getElem?_cons_zero, List.getElem?_cons_succ, sealC_lst]; rfl)) (by (simp only [List.set_cons_zero, List.set_cons_succ, List.map_cons, List.map_nil]; rfl))]))
open Pt Gr
def iD (i : Nat) : D := .int (i : Int)
def liD (part : List Nat) : D := .list (part.map iD)
theorem li_ints (part : List Nat) : part.map iD = (part.map fun i : Nat => (i : Int)).map PyData.int := by rw [List.map_map]; rfl
theorem eo_while {gt : M Bool} {body : Sx → Option Out} {Z : Out → Prop} (I : Nat → Sx → Prop) (hs : ∀ m S, I m S → Ev (gt S) fun b S1 => (b = true → Eo (body S1) fun o => ∃ S2 m2, o = .nx S2 ∧ m2 < m ∧ I m2 S2) ∧ (b = false → Z (.nx S1))) : ∀ (n m : Nat) (S : Sx), m < n → I m S → Eo (gWhile gt body n S) Z
  | 0, m, S, h, _ => by omega
  | n + 1, m, S, h, hI => by
    obtain ⟨b, S1, e, h1, h2⟩ := hs m S hI
    cases b with
    | true =>
      obtain ⟨o, e2, S2, m2, rfl, hm, hI2⟩ := h1 rfl
      obtain ⟨o2, e3, q⟩ := eo_while I hs n m2 S2 (by omega) hI2
      exact ⟨o2, by rw [gWhile]; simp only [e, e2, Option.bind_some, if_true]; exact e3, q⟩
    | false => exact ⟨_, by rw [gWhile]; simp only [e, Option.bind_some]; rfl, h2 rfl⟩
theorem sorted_pw {ns ms : List Int} (h : ns.Perm ms) (hp : ms.Pairwise (· < ·)) : (ns.map PyData.int).mergeSort leD = ms.map PyData.int := by
  refine List.Perm.eq_of_pairwise (le := fun a b => leD a b = true) ?_ (List.pairwise_mergeSort ?_ ?_ _) ?_ ((List.mergeSort_perm _ _).trans (h.map _))
  · intro a b ha hb h1 h2
    have ha := (List.mergeSort_perm _ _).mem_iff.mp ha
    obtain ⟨i, _, rfl⟩ := List.mem_map.mp ha
    obtain ⟨j, _, rfl⟩ := List.mem_map.mp hb
    rw [leD_int, decide_eq_true_eq] at h1 h2
    rw [Int.le_antisymm h1 h2]
  · exact fun a b c => (PySem.W.sortLe_total _ _ _).trans a b c
  · exact fun a b => by rw [Bool.or_eq_true]; exact (PySem.W.sortLe_total _ _ _).total a b
  · rw [List.pairwise_map]
    refine hp.imp fun {i j} hij => ?_
    rw [leD_int, decide_eq_true_eq]
    omega
theorem ed_sortedPw {part ys : List Nat} {Q : D → Prop} (h : part.Perm ys) (hp : ys.Pairwise (· < ·)) (q : Q (liD ys)) : Ed (dSorted [.list (part.map iD)]) Q := by
  refine ⟨_, ?_, q⟩
  rw [li_ints]
  simp only [dSorted, sortOk_ints, if_true]
  rw [sorted_pw (h.map _) (by rw [List.pairwise_map]; exact hp.imp fun {i j} hij => by omega)]
  unfold liD
  rw [li_ints]
theorem mem_cast {part : List Nat} {i : Nat} : (i : Int) ∈ part.map (fun i : Nat => (i : Int)) ↔ i ∈ part := by
  rw [List.mem_map]
  constructor
  · rintro ⟨j, hj, e⟩
    have : j = i := by omega
    exact this ▸ hj
  · exact fun h => ⟨i, h, rfl⟩
theorem line_lat {L : D} {ls : List Ln} (hL : Lns L ls) {i : Nat} (hi : i < ls.length) : ∃ xs x, Sq L xs ∧ xs.length = ls.length ∧ xs[((i : Int)).toNat]? = some x ∧ Sq x [.int (lat ls i).1, .int (lat ls i).2.1, ch (lat ls i).2.2] := by
  obtain ⟨xs, x, s, hl, hx, h⟩ := line_at hL (lat_at hi)
  exact ⟨xs, x, s, hl, by rw [Int.toNat_natCast]; exact hx, h⟩
theorem met_len (ls : List Ln) : ∀ part : List Nat, (met ls part).length = 2 * part.length
  | [] => rfl
  | a :: l => by
    have := met_len ls l
    unfold met at this ⊢
    rw [List.flatMap_cons, List.length_append, this]
    simp only [List.length_cons, List.length_nil]
    omega
theorem cut2 (a b c : D) : cutL [a, b, c] none (some 2) = [a, b] := rfl
theorem x_hangs_on {w : D} {p : Int} {ls : List Ln} (hw : Web w p ls) {part : List Nat} (hp : ∀ i ∈ part, i < ls.length) (hz : part.length ≤ 4000) {i : Nat} (hi : i < ls.length) : m_hangs_on [w, .list (part.map iD), .int (i : Int)] = some (.bool (hang ls part i)) := by
  obtain ⟨L, sw, hL⟩ := id hw
  unfold m_hangs_on; refine mF_of ?_; walk_at "i"; unfold g_hangs_on
  walk_at "e"
  refine ev_lc2X (xs := part) (enc := iD) (b := fun _ => true) (es := fun i => [(lat ls i).1, (lat ls i).2.1]) (enc1 := fun _ q => .int q) (b1 := fun _ _ => true) (f := fun _ q => .int q) (by decide) ?_
  walk_at "e"
  refine ⟨rfl, fun j hj => ?_, ?_⟩
  · obtain ⟨xs, x, sx, hxl, hx, hln⟩ := line_lat hL (hp j hj)
    walk_at "e"
    refine ⟨rfl, rfl, fun _ => ?_⟩
    walk_at "e"
    refine ed_ixQ sw (by decide) rfl ?_
    walk_at "e"
    refine ed_ixQ sx (by omega) hx ?_
    walk_at "e"
    refine ed_slQ hln fun z sz => ?_
    walk_at "e"
    refine ed_itQ sz ⟨⟨by rw [cut2]; rfl, rfl⟩, fun e he => ?_⟩
    walk_at "e"
    refine ⟨rfl, rfl, fun _ => ?_⟩
    walk_at "e"
  · have e : (part.filter fun _ => true).flatMap (fun i : Nat => (([(lat ls i).1, (lat ls i).2.1] : List Int).filter fun _ => true).map fun q => PyData.int q) = (met ls part).map PyData.int := by
      simp only [filter_tt]
      unfold met
      rw [List.map_flatMap]
    have hml := met_len ls part
    rw [e]
    refine ⟨by rw [List.length_map]; omega, ?_⟩
    walk_at "e"
    obtain ⟨xs, x, sx, hxl, hx, hln⟩ := line_lat hL hi
    refine ev_lcX (xs := [(lat ls i).1, (lat ls i).2.1]) (enc := .int) (b := fun _ => true) (g := fun q => .bool (decide (q ∈ met ls part))) ?_
    walk_at "e"
    refine ed_ixQ sw (by decide) rfl ?_
    walk_at "e"
    refine ed_ixQ sx (by omega) hx ?_
    walk_at "e"
    refine ed_slQ hln fun z sz => ?_
    walk_at "e"
    refine ed_itQ sz ⟨by rw [cut2]; rfl, fun q hq => ?_, ?_⟩
    · walk_at "e"
      refine ⟨rfl, rfl, fun _ => ?_⟩
      walk_at "e"
      refine ed_inI ?_
      walk_at "e"
    · rw [filter_tt]
      walk_at "e"
      refine any_map (fun q => decide (q ∈ met ls part)) _ ?_
      refine gives_rt ?_
      unfold hang
      simp only [List.any_cons, List.any_nil, Bool.or_false, Bool.decide_or]
theorem wb_bounds {p : Int} {ls : List Ln} (h : WbOk p ls) : ∀ l ∈ ls, 0 ≤ l.1 ∧ l.1 < p ∧ 0 ≤ l.2.1 ∧ l.2.1 < p := fun l hl => ⟨(h.all l hl).a0, (h.all l hl).a1, (h.all l hl).b0, (h.all l hl).b1⟩
theorem look1 {α : Type} {a c : α} {tl : List α} : (a :: (tl ++ [c]))[tl.length + 1]? = some c := by simp
theorem set1 {α : Type} {a c d : α} {tl : List α} : (a :: (tl ++ [c])).set (tl.length + 1) d = a :: (tl ++ [d]) := by simp
theorem setEnd {α : Type} {c d : α} {tl : List α} : (tl ++ [c]).set tl.length d = tl ++ [d] := by simp
theorem fine_iD {part : List Nat} : ∀ x ∈ part.map iD, Fine 0 x := fun x hx => by obtain ⟨i, _, rfl⟩ := List.mem_map.mp hx; exact fine_int _
theorem pw_partAt (p : Int) (ls : List Ln) (u : Int) : (partAt p ls u).Pairwise (· < ·) := List.Pairwise.filter _ List.pairwise_lt_range
theorem part_perm {p : Int} {ls : List Ln} {u : Int} {part : List Nat} (nd : part.Nodup) (h : ∀ i, i ∈ part ↔ i < ls.length ∧ clr p ls i = u) : part.Perm (partAt p ls u) := by
  have h2 : (partAt p ls u).Nodup := List.nodup_range.filter _
  rw [List.perm_iff_count]
  intro a
  have k := (h a).trans mem_partAt.symm
  rw [nd.count, h2.count]
  by_cases z : a ∈ part
  · rw [if_pos z, if_pos (k.mp z)]
  · rw [if_neg z, if_neg fun y => z (k.mpr y)]
theorem nodup_lt {l : List Nat} {n : Nat} (nd : l.Nodup) (h : ∀ i ∈ l, i < n) : l.length ≤ n := by
  induction n generalizing l with
  | zero =>
    cases l with
    | nil => exact Nat.le_refl _
    | cons a l => exact absurd (h a List.mem_cons_self) (by omega)
  | succ n ih =>
    have h2 := ih (l := l.filter fun i => decide (i ≠ n)) (nd.filter _) fun i hi => by
      obtain ⟨h1, h3⟩ := List.mem_filter.mp hi
      have := h i h1
      have := of_decide_eq_true h3
      omega
    have h4 : l.length = (l.filter fun i => decide (i ≠ n)).length + l.count n := by
      clear h2 ih h nd
      induction l with
      | nil => rfl
      | cons a l ih =>
        rw [List.filter_cons, List.count_cons]
        by_cases e : a = n
        · subst e; simp at ih ⊢; omega
        · simp [e] at ih ⊢; omega
    have h5 : l.count n ≤ 1 := List.nodup_iff_count.mp nd n
    omega
theorem x_parts_of {w : D} {p : Int} {ls : List Ln} (hw : Web w p ls) (h : WbOk p ls) (hz : ls.length ≤ 4000) : m_parts_of [w] = some (.list ((partsL p ls).map liD)) := by
  obtain ⟨L, sw, hL⟩ := id hw
  obtain ⟨ys, sy, hyl⟩ := lns_len hL
  have hb := wb_bounds h
  unfold m_parts_of; refine mF_of ?_; walk_at "i"; unfold g_parts_of
  walk_at "e"
  refine ed_ixQ sw (by decide) rfl ?_
  walk_at "e"
  refine ed_lenQ sy ?_
  walk_at "e"
  refine ⟨by omega, by omega, ?_⟩
  walk_at "e"
  rw [hyl, Int.toNat_natCast, show rng 0 ls.length = (List.range ls.length).map iD from rng0 _]
  refine eo_while (fun m S => ∃ us left x3 x4 x5 tl, S = ⟨[some (.dat w), some (.own 0), some (.dat (.list (left.map iD))), x3, x4, x5], some (.lst ((us.map (partAt p ls)).map liD)) :: tl⟩ ∧ Outn p ls us left ∧ m = left.length) (fun m S hI => ?_) 100000 ls.length _ (by omega) ⟨[], List.range ls.length, none, none, none, [], rfl, Outn.start, by simp⟩
  obtain ⟨us, left, x3, x4, x5, tl, rfl, O, rfl⟩ := hI
  walk_at "e"
  refine ed_ne_nil (n := 0) fine_iD ?_
  walk_at "e"
  refine ⟨fun hne => ?_, fun he => ?_⟩
  · obtain ⟨s, L', rfl⟩ : ∃ s L', left = s :: L' := by
      cases left with
      | nil => simp at hne
      | cons s L' => exact ⟨s, L', rfl⟩
    obtain ⟨f1, f2, f3⟩ := O.facts
    have hlen : (s :: L').length ≤ ls.length := by
      rw [O.left_eq]
      have := List.length_filter_le (fun i => decide (clr p ls i ∉ us)) (List.range ls.length)
      rwa [List.length_range] at this
    have hus : us.length < 4001 := by
      have h1 := uss_len p ls
      rw [← O.us_eq, List.length_append] at h1
      omega
    walk_at "e"
    rw [show cutL ((s :: L').map iD) none (some 1) = [s].map iD from by simp [cutL, HT.sIx]]
    refine eo_while (fun m S => ∃ part left more x5, S = ⟨[some (.dat w), some (.own 0), some (.dat (.list (left.map iD))), some (.own (tl.length + 1)), some (.dat (.list (more.map iD))), x5], some (.lst ((us.map (partAt p ls)).map liD)) :: (tl ++ [some (.lst (part.map iD))])⟩ ∧ Inn p ls (s :: L') s part left more ∧ m = left.length) (fun m S hI => ?_) 100000 (s :: L').length _ (by omega) ⟨[], s :: L', [s], x5, rfl, Inn.start List.mem_cons_self, rfl⟩
    obtain ⟨part, left, more, x5, rfl, I, rfl⟩ := hI
    have hpn : ∀ i ∈ part, i < ls.length := fun i hi => f1 i (I.sub i hi).1
    have hpl : part.length ≤ ls.length := nodup_lt I.nd hpn
    walk_at "e"
    refine ed_ne_nil (n := 0) fine_iD ?_
    walk_at "e"
    refine ⟨fun hm => ?_, fun hm => ?_⟩
    · have hm : more ≠ [] := by simpa using hm
      obtain ⟨I2, hlt⟩ := I.step hb f1 f2 List.mem_cons_self hm
      have hpn2 : ∀ i ∈ part ++ more, i < ls.length := fun i hi => f1 i (I2.sub i hi).1
      have hpl2 : (part ++ more).length ≤ ls.length := nodup_lt I2.nd hpn2
      walk_at "e"
      refine eo_augL ⟨_, _, rfl, look1, ?_⟩
      walk_at "e"
      refine ⟨_, _, rfl, look1, by rw [List.length_map, List.length_map]; rw [List.length_append] at hpl2; omega, ?_⟩
      rw [set1, ← List.map_append]
      walk_at "e"
      refine ev_lcX (xs := left) (enc := iD) (b := fun i => decide (i ∉ more)) (g := iD) ?_
      walk_at "e"
      refine ⟨rfl, fun i hi => ?_, ?_⟩
      · walk_at "e"
        rw [li_ints]
        refine ed_notInI ?_
        walk_at "e"
        refine ⟨rfl, by rw [Bool.eq_iff_iff]; simp only [Bool.not_eq_true', decide_eq_false_iff_not, decide_eq_true_eq, mem_cast], fun _ => ?_⟩
        walk_at "e"
      · walk_at "e"
        refine ev_viewN ?_
        rw [sealAll_mk (by simp only [List.map_cons, List.map_nil, sealS_own, look1, sealC_lst, sealS_dat, List.getElem?_cons_zero]; rfl) (by rfl)]
        refine ev_lcX (xs := left.filter fun i => decide (i ∉ more)) (enc := iD) (b := hang ls (part ++ more)) (g := iD) ?_
        walk_at "e"
        refine ⟨rfl, fun i hi => ?_, ?_⟩
        · walk_at "e"
          have hiL : i ∈ s :: L' := by
            have := (List.mem_filter.mp hi).1
            rw [I.left_eq] at this
            exact (List.mem_filter.mp this).1
          refine Ed.of (x_hangs_on hw hpn2 (by omega) (f1 i hiL)) ?_
          walk_at "e"
          refine ⟨rfl, rfl, fun _ => ?_⟩
          walk_at "e"
        · refine ⟨_, rfl, hards_map (fun _ => rfl), ?_⟩
          walk_at "e"
          exact ⟨_, _, rfl, hlt, _, _, _, _, rfl, I2, rfl⟩
    · have hm : more = [] := by simpa using hm
      subst hm
      obtain ⟨d1, d2⟩ := I.done hb f1 f3 List.mem_cons_self
      walk_at "e"
      refine ev_app ⟨_, _, rfl, rfl, ?_⟩
      walk_at "e"
      refine ev_varO ⟨_, _, rfl, look1, ?_⟩
      walk_at "e"
      refine ed_sortedPw (part_perm I.nd d1) (pw_partAt p ls _) ?_
      refine ⟨_, rfl, by rw [List.length_map, List.length_map]; omega, ?_⟩
      walk_at "e"
      refine ⟨_, left.length, rfl, ?_, us ++ [clr p ls s], left, some (.dat (.list (part.map iD))), some (.dat (.list [])), x5, tl ++ [none], ?_, O.step d2, rfl⟩
      · rw [d2, List.filter_cons_of_neg (by simp)]
        have := List.length_filter_le (fun i => decide (clr p ls i ≠ clr p ls s)) L'
        rw [List.length_cons]
        omega
      · simp only [List.map_append, List.map_cons, List.map_nil, set1, List.set_cons_zero, List.set_cons_succ, setEnd]
  · have he : left = [] := by simpa using he
    subst he
    walk_at "e"
    refine gives_rt ?_
    rw [O.done]
    rfl
end Lw

set_option maxHeartbeats 4000000
namespace Lw
open PySem Fu
local macro_rules | `(tactic| walk_at "e1") => `(tactic| first
  | with_reducible refine eo_seq ?_ | (with_reducible refine then_nx' ?_; refine ⟨?_, ?_, ?_⟩; rotate_left; · (try dsimp only [List.set, List.length_cons, List.length_nil, List.cons_append, List.nil_append, Nat.zero_add, Nat.reduceAdd]); exact rfl) | with_reducible refine then_rt ?_ | with_reducible refine eo_if ?_ | with_reducible refine eo_ret ?_ | with_reducible refine eo_set ?_ | with_reducible refine eo_asg ?_ | with_reducible refine eo_drop ?_ | with_reducible refine eo_nx ?_ | with_reducible refine eo_par ?_ | with_reducible refine eo_own ?_ | with_reducible refine eo_retN ?_ | with_reducible refine eo_for ?_ | with_reducible refine eo_retO ?_
  | with_reducible refine ev_c ?_ | (with_reducible refine ev_var ?_; refine ⟨_, rfl, ?_⟩) | with_reducible refine ev_bin ?_ | with_reducible refine ev_un ?_ | with_reducible refine ev_nil ?_ | with_reducible refine ev_cons ?_
  | with_reducible refine ev_tup ?_ | with_reducible refine ev_lst ?_ | with_reducible refine ev_call ?_ | with_reducible refine ev_callF ?_ | with_reducible refine ev_isi ?_ | with_reducible refine ev_isi2 ?_ | with_reducible refine ev_andV ?_ | with_reducible refine ev_orV ?_ | with_reducible refine ev_notV ?_
  | with_reducible refine ev_B ?_ | with_reducible refine ev_and ?_ | with_reducible refine ev_or ?_ | with_reducible refine ev_not ?_ | with_reducible refine ev_yes ?_ | with_reducible refine ev_if ?_ | with_reducible refine ev_no ?_ | with_reducible refine ev_so ?_ | with_reducible refine ev_sl ?_ | with_reducible refine ev_items ?_
  | (with_reducible refine ev_ixO ?_; refine ⟨_, _, rfl, rfl, ?_⟩) | (with_reducible refine ev_varO ?_; refine ⟨_, _, rfl, rfl, ?_⟩) | (with_reducible refine ev_lenO ?_; refine ⟨_, _, rfl, rfl, ?_⟩) | (with_reducible refine ev_scrSl ?_; refine ⟨_, rfl, ?_⟩) | (with_reducible refine ev_scrLen ?_; refine ⟨_, rfl, ?_⟩) | (with_reducible refine ev_callScr ?_; refine ⟨_, rfl, ?_⟩) | (with_reducible refine ev_OL ?_; refine ⟨_, _, rfl, rfl, ?_⟩) | with_reducible refine ev_OR ?_ | with_reducible refine ev_rep ?_ | with_reducible refine ev_listRng1 ?_ | with_reducible refine eo_setO ?_
  | with_reducible refine es_name ?_ | with_reducible refine es_tup2 ?_ | with_reducible refine es_tup3 ?_
  | with_reducible refine ed_addI ?_ | with_reducible refine ed_subI ?_ | with_reducible refine ed_cmp ?_ | with_reducible refine ed_eqI ?_ | with_reducible refine ed_neI ?_ | with_reducible refine ed_slT ?_ | with_reducible refine ed_slL ?_ | with_reducible refine ed_lenT ?_ | with_reducible refine ed_lenL ?_ | with_reducible refine ed_lenS ?_ | with_reducible refine ed_inS ?_ | with_reducible refine ed_itT ?_ | with_reducible refine ed_itL ?_ | with_reducible refine ed_tupL ?_ | with_reducible refine ed_tupT ?_ | with_reducible refine ed_listL ?_ | with_reducible refine ed_listT ?_ | with_reducible refine ed_neg ?_ | with_reducible refine ed_max ?_ | with_reducible refine ed_min ?_ | with_reducible refine ed_intB ?_
  | with_reducible refine ev_rng1 ?_ | with_reducible refine ev_rng2 ?_)
local macro_rules | `(tactic| walk_at "sd") => `(tactic| first | rfl | assumption | (simp only [decide_eq_true_eq, decide_eq_false_iff_not, Bool.not_eq_true', Bool.not_eq_false', Bool.and_eq_true, Bool.or_eq_true, List.length_map, List.length_cons, List.length_nil, List.length_append, List.length_range] at *; omega))
local macro_rules | `(tactic| walk_at "e2") => `(tactic| first
  | walk_at "e1" | with_reducible refine ⟨_, rfl, ?_⟩ | with_reducible refine ⟨_, _, rfl, ?_⟩
  | with_reducible refine And.intro (Eq.refl (List.length _)) ?_ | with_reducible refine And.intro (Nat.le_of_ble_eq_true (n := List.length _) rfl) ?_
  | with_reducible refine And.intro (Eq.refl (_ : Sx)) (?_ : Ed _ _)
  | ((with_reducible refine And.intro ?_ (And.intro ?_ (?_ : Ev _ _))); (· rfl); (· rfl))
  | ((with_reducible refine ed_ixT ?_ ?_ ?_); (· decide); (· rfl)) | ((with_reducible refine ed_ixL ?_ ?_ ?_); (· decide); (· rfl)) | ((with_reducible refine ed_at ?_ ?_ ?_); (· decide); (· rfl))
  | ((with_reducible refine ed_modI ?_ ?_); (· first | decide | omega))
  | with_reducible exact gives_nx | ((with_reducible refine gives_rt ?_); (· rfl)) | ((with_reducible refine And.intro ?_ ?_); (· exact rfl); (· with_reducible exact Eq.refl (_ : Sx))))
local macro_rules | `(tactic| walk_at "e") => `(tactic| repeat walk_at "e2")
/-- begin a def's spec -/
local macro_rules | `(tactic| walk_at "i") => `(tactic| simp only [initS, List.map_cons, List.map_nil, List.length_cons, List.length_nil, Nat.reduceAdd, Nat.reduceSub, List.replicate, List.cons_append, List.nil_append])
/-- a known truth decides -/
local macro_rules | `(tactic| walk_at "t") => `(tactic| first | ((with_reducible refine split_t ?_ ?_); (· walk_at "sd")) | ((with_reducible refine split_t' ?_ ?_); (· walk_at "sd")))
local macro_rules | `(tactic| walk_at "f") => `(tactic| first | ((with_reducible refine split_f ?_ ?_); (· walk_at "sd")) | ((with_reducible refine split_f' ?_ ?_); (· walk_at "sd")))
/-- all that is seen in a look -/
local macro_rules | `(tactic| walk_at "v") => `(tactic| (rw [sealAll_mk (by (simp only [List.set_cons_zero, List.set_cons_succ, List.map_cons, List.map_nil, sealS_none, sealS_dat, sealS_scr, sealS_own, List.getElem?_cons_zero, List.getElem?_cons_succ, sealC_lst]; rfl)) (by (simp only [List.set_cons_zero, List.set_cons_succ, List.map_cons, List.map_nil]; rfl))]))
open Pt Gr
/-! #### the law's own wants -/
theorem x__law_signs {p q : Int} {ls : List Ln} (h : WbOk p ls) : m__law_signs [wb p ls, .int q] = some (.list (((ends ls q).map (cmpy ls)).map ch)) := by
  have hw := web_wb p ls
  obtain ⟨L, sw, hL⟩ := id hw
  unfold m__law_signs; refine mF_of ?_; walk_at "i"; unfold g__law_signs
  walk_at "e"
  refine ev_lcX (xs := allE ls.length) (enc := en) (b := fun e => decide (plc ls e = q)) (g := fun e => ch (cmpy ls e)) ?_
  walk_at "e"
  refine Ed.of (x__law_all_ends hw h.len) ?_
  walk_at "e"
  refine ⟨rfl, fun e he => ?_, ?_⟩
  · have k := allE_mem.mp he
    obtain ⟨l, hl, _⟩ := end_line rfl k
    obtain ⟨xs, x, sx, hxl, hx, hln⟩ := line_at hL hl
    refine es_tup2 (d := .int e.1) (e := .int e.2) ?_
    walk_at "e"
    refine ed_ixQ sw (by decide) rfl ?_
    walk_at "e"
    refine ed_ixQ sx k.1 hx ?_
    walk_at "e"
    have h2 : e.2 = 0 ∨ e.2 = 1 := by have := k.2.2.1; have := k.2.2.2; omega
    have ek : Ed (dIx x (.int e.2)) fun d => d = .int (plc ls e) := by
      unfold plc; rw [hl]
      rcases h2 with h2 | h2 <;> rw [h2] <;> exact ed_ixQ hln (by decide) rfl rfl
    obtain ⟨_, e1, rfl⟩ := ek
    refine ⟨_, e1, ?_⟩
    walk_at "e"
    refine ⟨rfl, rfl, fun _ => ?_⟩
    walk_at "e"
    refine ed_ixQ sw (by decide) rfl ?_
    walk_at "e"
    refine ed_ixQ sx k.1 hx ?_
    walk_at "e"
    refine ed_ixQ hln (by decide) rfl ?_
    unfold cmpy
    rw [hl]
    exact ⟨rfl, rfl⟩
  · walk_at "e"
    refine gives_rt ?_
    unfold ends
    rw [List.map_map]
    rfl
end Lw

set_option maxHeartbeats 4000000
namespace Lw
open PySem Fu
local macro_rules | `(tactic| walk_at "e1") => `(tactic| first
  | with_reducible refine eo_seq ?_ | (with_reducible refine then_nx' ?_; refine ⟨?_, ?_, ?_⟩; rotate_left; · (try dsimp only [List.set, List.length_cons, List.length_nil, List.cons_append, List.nil_append, Nat.zero_add, Nat.reduceAdd]); exact rfl) | with_reducible refine then_rt ?_ | with_reducible refine eo_if ?_ | with_reducible refine eo_ret ?_ | with_reducible refine eo_set ?_ | with_reducible refine eo_asg ?_ | with_reducible refine eo_drop ?_ | with_reducible refine eo_nx ?_ | with_reducible refine eo_par ?_ | with_reducible refine eo_own ?_ | with_reducible refine eo_retN ?_ | with_reducible refine eo_for ?_ | with_reducible refine eo_retO ?_
  | with_reducible refine ev_c ?_ | (with_reducible refine ev_var ?_; refine ⟨_, rfl, ?_⟩) | with_reducible refine ev_bin ?_ | with_reducible refine ev_un ?_ | with_reducible refine ev_nil ?_ | with_reducible refine ev_cons ?_
  | with_reducible refine ev_tup ?_ | with_reducible refine ev_lst ?_ | with_reducible refine ev_call ?_ | with_reducible refine ev_callF ?_ | with_reducible refine ev_isi ?_ | with_reducible refine ev_isi2 ?_ | with_reducible refine ev_andV ?_ | with_reducible refine ev_orV ?_ | with_reducible refine ev_notV ?_
  | with_reducible refine ev_B ?_ | with_reducible refine ev_and ?_ | with_reducible refine ev_or ?_ | with_reducible refine ev_not ?_ | with_reducible refine ev_yes ?_ | with_reducible refine ev_if ?_ | with_reducible refine ev_no ?_ | with_reducible refine ev_so ?_ | with_reducible refine ev_sl ?_ | with_reducible refine ev_items ?_
  | (with_reducible refine ev_ixO ?_; refine ⟨_, _, rfl, rfl, ?_⟩) | (with_reducible refine ev_varO ?_; refine ⟨_, _, rfl, rfl, ?_⟩) | (with_reducible refine ev_lenO ?_; refine ⟨_, _, rfl, rfl, ?_⟩) | (with_reducible refine ev_scrSl ?_; refine ⟨_, rfl, ?_⟩) | (with_reducible refine ev_scrLen ?_; refine ⟨_, rfl, ?_⟩) | (with_reducible refine ev_callScr ?_; refine ⟨_, rfl, ?_⟩) | (with_reducible refine ev_OL ?_; refine ⟨_, _, rfl, rfl, ?_⟩) | with_reducible refine ev_OR ?_ | with_reducible refine ev_rep ?_ | with_reducible refine ev_listRng1 ?_ | with_reducible refine eo_setO ?_
  | with_reducible refine es_name ?_ | with_reducible refine es_tup2 ?_ | with_reducible refine es_tup3 ?_
  | with_reducible refine ed_addI ?_ | with_reducible refine ed_subI ?_ | with_reducible refine ed_cmp ?_ | with_reducible refine ed_eqI ?_ | with_reducible refine ed_neI ?_ | with_reducible refine ed_slT ?_ | with_reducible refine ed_slL ?_ | with_reducible refine ed_lenT ?_ | with_reducible refine ed_lenL ?_ | with_reducible refine ed_lenS ?_ | with_reducible refine ed_inS ?_ | with_reducible refine ed_itT ?_ | with_reducible refine ed_itL ?_ | with_reducible refine ed_tupL ?_ | with_reducible refine ed_tupT ?_ | with_reducible refine ed_listL ?_ | with_reducible refine ed_listT ?_ | with_reducible refine ed_neg ?_ | with_reducible refine ed_max ?_ | with_reducible refine ed_min ?_ | with_reducible refine ed_intB ?_
  | with_reducible refine ev_rng1 ?_ | with_reducible refine ev_rng2 ?_)
local macro_rules | `(tactic| walk_at "sd") => `(tactic| first | rfl | assumption | (simp only [decide_eq_true_eq, decide_eq_false_iff_not, Bool.not_eq_true', Bool.not_eq_false', Bool.and_eq_true, Bool.or_eq_true, List.length_map, List.length_cons, List.length_nil, List.length_append, List.length_range] at *; omega))
local macro_rules | `(tactic| walk_at "e2") => `(tactic| first
  | walk_at "e1" | with_reducible refine ⟨_, rfl, ?_⟩ | with_reducible refine ⟨_, _, rfl, ?_⟩
  | with_reducible refine And.intro (Eq.refl (List.length _)) ?_ | with_reducible refine And.intro (Nat.le_of_ble_eq_true (n := List.length _) rfl) ?_
  | with_reducible refine And.intro (Eq.refl (_ : Sx)) (?_ : Ed _ _)
  | ((with_reducible refine And.intro ?_ (And.intro ?_ (?_ : Ev _ _))); (· rfl); (· rfl))
  | ((with_reducible refine ed_ixT ?_ ?_ ?_); (· decide); (· rfl)) | ((with_reducible refine ed_ixL ?_ ?_ ?_); (· decide); (· rfl)) | ((with_reducible refine ed_at ?_ ?_ ?_); (· decide); (· rfl))
  | ((with_reducible refine ed_modI ?_ ?_); (· first | decide | omega))
  | with_reducible exact gives_nx | ((with_reducible refine gives_rt ?_); (· rfl)) | ((with_reducible refine And.intro ?_ ?_); (· exact rfl); (· with_reducible exact Eq.refl (_ : Sx))))
local macro_rules | `(tactic| walk_at "e") => `(tactic| repeat walk_at "e2")
/-- begin a def's spec -/
local macro_rules | `(tactic| walk_at "i") => `(tactic| simp only [initS, List.map_cons, List.map_nil, List.length_cons, List.length_nil, Nat.reduceAdd, Nat.reduceSub, List.replicate, List.cons_append, List.nil_append])
/-- a known truth decides -/
local macro_rules | `(tactic| walk_at "t") => `(tactic| first | ((with_reducible refine split_t ?_ ?_); (· walk_at "sd")) | ((with_reducible refine split_t' ?_ ?_); (· walk_at "sd")))
local macro_rules | `(tactic| walk_at "f") => `(tactic| first | ((with_reducible refine split_f ?_ ?_); (· walk_at "sd")) | ((with_reducible refine split_f' ?_ ?_); (· walk_at "sd")))
/-- all that is seen in a look -/
local macro_rules | `(tactic| walk_at "v") => `(tactic| (rw [sealAll_mk (by (simp only [List.set_cons_zero, List.set_cons_succ, List.map_cons, List.map_nil, sealS_none, sealS_dat, sealS_scr, sealS_own, List.getElem?_cons_zero, List.getElem?_cons_succ, sealC_lst]; rfl)) (by (simp only [List.set_cons_zero, List.set_cons_succ, List.map_cons, List.map_nil]; rfl))]))
open Pt Gr
/-! #### fewest -/
theorem ed_sortSet {ns : List Int} {Q : D → Prop} (h1 : (sset ns).length < 64) (h2 : ns.length < 4000) (q : Q (.list ((sset ns).map .int))) : Ed (dSortSet [.list (ns.map .int)]) Q :=
  ⟨_, by simp only [dSortSet, allInts_of, Option.bind_some, if_pos (And.intro h1 h2)], q⟩
theorem x_places_of_part {w : D} {p : Int} {ls : List Ln} (hw : Web w p ls) {part : List Nat} (hp : ∀ i ∈ part, i < ls.length) (hz : part.length < 2000) (hs : (sset (met ls part)).length < 64) : m_places_of_part [w, .list (part.map iD)] = some (.list ((sset (met ls part)).map .int)) := by
  obtain ⟨L, sw, hL⟩ := id hw
  unfold m_places_of_part; refine mF_of ?_; walk_at "i"; unfold g_places_of_part
  walk_at "e"
  refine ev_lc2X (xs := part) (enc := iD) (b := fun _ => true) (es := fun i => [(lat ls i).1, (lat ls i).2.1]) (enc1 := fun _ q => .int q) (b1 := fun _ _ => true) (f := fun _ q => .int q) (by decide) ?_
  walk_at "e"
  refine ⟨rfl, fun j hj => ?_, ?_⟩
  · obtain ⟨xs, x, sx, hxl, hx, hln⟩ := line_lat hL (hp j hj)
    walk_at "e"
    refine ⟨rfl, rfl, fun _ => ?_⟩
    walk_at "e"
    refine ed_ixQ sw (by decide) rfl ?_
    walk_at "e"
    refine ed_ixQ sx (by omega) hx ?_
    walk_at "e"
    refine ed_slQ hln fun z sz => ?_
    walk_at "e"
    refine ed_itQ sz ⟨⟨by rw [cut2]; rfl, rfl⟩, fun e he => ?_⟩
    walk_at "e"
    refine ⟨rfl, rfl, fun _ => ?_⟩
    walk_at "e"
  · have e : (part.filter fun _ => true).flatMap (fun i : Nat => (([(lat ls i).1, (lat ls i).2.1] : List Int).filter fun _ => true).map fun q => PyData.int q) = (met ls part).map PyData.int := by
      simp only [filter_tt]
      unfold met
      rw [List.map_flatMap]
    have hml := met_len ls part
    rw [e]
    refine ⟨by rw [List.length_map]; omega, ?_⟩
    walk_at "e"
    refine ed_sortSet hs (by omega) ?_
    walk_at "e"
theorem x_rides_for {n : Int} (h0 : 0 ≤ n) : m_rides_for [.int n] = some (.int (max 1 ((n + 1) / 2))) := by
  unfold m_rides_for; refine mF_of ?_; walk_at "i"; unfold g_rides_for
  walk_at "e"
  refine ed_divI ⟨by omega, by decide⟩ ?_
  walk_at "e"
theorem placesAt_len (p : Int) (ls : List Ln) (u : Int) : (placesAt p ls u).length ≤ p.toNat := by
  have := List.length_filter_le (fun i : Nat => decide (cm p ls i = u)) (List.range p.toNat)
  rwa [List.length_range] at this
theorem partAt_len (p : Int) (ls : List Ln) (u : Int) : (partAt p ls u).length ≤ ls.length := by
  have := List.length_filter_le (fun i : Nat => decide (clr p ls i = u)) (List.range ls.length)
  rwa [List.length_range] at this
/-! #### the law's own parts -/
def mkD (p : Int) (f : Int → Int) : List D := (List.range p.toNat).map fun i : Nat => .int (f i)
theorem mkD_len (p : Int) (f : Int → Int) : (mkD p f).length = p.toNat := by unfold mkD; rw [List.length_map, List.length_range]
theorem mkD_at {p q : Int} {f : Int → Int} (q0 : 0 ≤ q) (q1 : q < p) : (mkD p f)[q.toNat]? = some (.int (f q)) := by
  unfold mkD
  rw [List.getElem?_map, List.getElem?_range (by omega)]
  simp only [Option.map_some]
  rw [show ((q.toNat : Nat) : Int) = q from by omega]
theorem mkD_step {p : Int} {l : Ln} {f : Int → Int} (a0 : 0 ≤ l.1) (b0 : 0 ≤ l.2.1) : ((mkD p f).set l.1.toNat (.int (min (f l.1) (f l.2.1)))).set l.2.1.toNat (.int (min (f l.1) (f l.2.1))) = mkD p (mstep f l) := by
  unfold mkD
  refine List.ext_getElem? fun i => ?_
  rw [List.getElem?_set, List.getElem?_set, List.getElem?_map, List.getElem?_map, List.length_set, List.length_map, List.length_range]
  by_cases hi : i < p.toNat
  · rw [List.getElem?_range hi]
    simp only [Option.map_some]
    unfold mstep
    by_cases e2 : l.2.1.toNat = i
    · rw [if_pos e2, if_pos (by omega), if_pos (.inr (by omega))]
    · rw [if_neg e2]
      by_cases e1 : l.1.toNat = i
      · rw [if_pos e1, if_pos (by omega), if_pos (.inl (by omega))]
      · rw [if_neg e1, if_neg (by omega)]
  · have e : (List.range p.toNat)[i]? = none := List.getElem?_eq_none (by rw [List.length_range]; omega)
    rw [e]
    simp only [Option.map_none]
    split
    · rw [if_neg (by omega)]
    · split
      · rw [if_neg (by omega)]
      · rfl
theorem x__law_parts {p : Int} {ls : List Ln} (h : WbOk p ls) (hl : ls.length < 64) (p1 : p ≤ 1000000) : m__law_parts_k25 [wb p ls] = some (.list ((usedL p ls).map fun u => liD (placesAt p ls u))) := by
  have p0 := h.p0
  have hb := wb_bounds h
  unfold m__law_parts_k25; refine mF_of ?_; walk_at "i"; unfold g__law_parts_k25
  walk_at "e"
  refine ed_at (i := 0) (by decide) rfl ?_
  refine ⟨_, rfl, by omega, by omega, ?_⟩
  walk_at "e"
  refine ed_at (i := 0) (by decide) rfl ?_
  walk_at "e"
  refine ⟨by omega, by omega, ?_⟩
  refine eo_loop (fun t S => ∃ x2 x3 x4 x5 x6, S = ⟨[some (.dat (wb p ls)), some (.own 0), x2, x3, x4, x5, x6, none, none, none, none], [some (.lst (mkD p (mrounds ls t)))]⟩) ⟨none, none, none, none, none, by rw [rng0]; rfl⟩ ?_ ?_
  · rintro t z S hz ⟨x2, x3, x4, x5, x6, rfl⟩
    obtain ⟨ht, rfl⟩ := rng_at hz
    walk_at "e"
    refine ed_at (i := 1) (by decide) rfl ?_
    refine ⟨_, rfl, ?_⟩
    refine eo_loopX (xs := ls) (enc := ln) (fun i S => ∃ x2 x3 x4 x5 x6, S = ⟨[some (.dat (wb p ls)), some (.own 0), x2, x3, x4, x5, x6, none, none, none, none], [some (.lst (mkD p ((ls.take i).foldl mstep (mrounds ls t))))]⟩) ⟨_, _, _, _, _, rfl⟩ ?_ ?_
    · rintro i l S hx ⟨x2, x3, x4, x5, x6, rfl⟩
      obtain ⟨a0, a1, b0, b1⟩ := hb l (List.mem_of_getElem? hx)
      have et : (ls.take (i + 1)).foldl mstep (mrounds ls t) = mstep ((ls.take i).foldl mstep (mrounds ls t)) l := by
        rw [List.take_add_one, hx]
        simp only [Option.toList_some, List.foldl_append, List.foldl_cons, List.foldl_nil]
      rw [et]
      generalize (ls.take i).foldl mstep (mrounds ls t) = f
      refine es_tup3 (d := .int l.1) (e := .int l.2.1) (f := ch l.2.2) ?_
      walk_at "e"
      refine ed_at a0 (mkD_at a0 a1) ?_
      walk_at "e"
      refine ed_at b0 (mkD_at b0 b1) ?_
      walk_at "e"
      refine es_two ?_
      refine es_ixO ⟨_, _, rfl, rfl, ?_⟩
      walk_at "e"
      refine ⟨_, l.1.toNat, rfl, by congr 1; omega, by rw [mkD_len]; omega, ?_⟩
      refine es_ixO ⟨_, _, rfl, rfl, ?_⟩
      walk_at "e"
      refine ⟨_, l.2.1.toNat, rfl, by congr 1; omega, by rw [List.length_set, mkD_len]; omega, ?_⟩
      refine ⟨_, rfl, ?_⟩
      rw [← mkD_step a0 b0]
      exact ⟨_, _, _, _, _, rfl⟩
    · rintro S ⟨x2, x3, x4, x5, x6, rfl⟩
      rw [List.take_length]
      exact ⟨_, rfl, _, _, _, _, _, rfl⟩
  · rintro S ⟨x2, x3, x4, x5, x6, rfl⟩
    rw [rng_len]
    have ec : mkD p (mrounds ls p.toNat) = mkD p (cm p ls) := rfl
    rw [ec]
    walk_at "e"
    refine ev_lcX (xs := ls) (enc := ln) (b := fun _ => true) (g := fun l => .int (cm p ls l.1)) ?_
    walk_at "e"
    refine ed_at (i := 1) (by decide) rfl ?_
    walk_at "e"
    refine ⟨rfl, fun l hx => ?_, ?_⟩
    · obtain ⟨a0, a1, b0, b1⟩ := hb l hx
      walk_at "e"
      refine ⟨rfl, rfl, fun _ => ?_⟩
      walk_at "e"
      refine ed_ixQ (isLn_ln l) (by decide) rfl ?_
      walk_at "e"
      refine ed_at a0 (mkD_at a0 a1) ?_
      walk_at "e"
    · rw [filter_tt]
      walk_at "e"
      rw [show (ls.map fun l => PyData.int (cm p ls l.1)) = (ls.map fun l => cm p ls l.1).map .int from (by rw [List.map_map]; rfl)]
      have hu := used_len p ls
      refine ed_sortSet (by unfold usedL at hu; omega) (by rw [List.length_map]; omega) ?_
      walk_at "e"
      refine ev_lcX (xs := usedL p ls) (enc := .int) (b := fun _ => true) (g := fun u => liD (placesAt p ls u)) ?_
      walk_at "e"
      refine ⟨rfl, fun u hu => ?_, ?_⟩
      · walk_at "e"
        refine ⟨rfl, rfl, fun _ => ?_⟩
        walk_at "e"
        refine ev_lcX (xs := List.range p.toNat) (enc := iD) (b := fun i : Nat => decide (cm p ls i = u)) (g := iD) ?_
        walk_at "e"
        refine ed_at (i := 0) (by decide) rfl ?_
        walk_at "e"
        refine ⟨by omega, by omega, rng0 _, fun i hi => ?_, ?_⟩
        · rw [List.mem_range] at hi
          walk_at "e"
          refine ed_at (by omega) (mkD_at (by omega) (by omega)) ?_
          walk_at "e"
          refine ⟨rfl, rfl, fun _ => ?_⟩
          walk_at "e"
        · walk_at "e"
      · rw [filter_tt]
        walk_at "e"
end Lw

set_option maxHeartbeats 4000000
namespace Lw
open PySem Fu
local macro_rules | `(tactic| walk_at "e1") => `(tactic| first
  | with_reducible refine eo_seq ?_ | (with_reducible refine then_nx' ?_; refine ⟨?_, ?_, ?_⟩; rotate_left; · (try dsimp only [List.set, List.length_cons, List.length_nil, List.cons_append, List.nil_append, Nat.zero_add, Nat.reduceAdd]); exact rfl) | with_reducible refine then_rt ?_ | with_reducible refine eo_if ?_ | with_reducible refine eo_ret ?_ | with_reducible refine eo_set ?_ | with_reducible refine eo_asg ?_ | with_reducible refine eo_drop ?_ | with_reducible refine eo_nx ?_ | with_reducible refine eo_par ?_ | with_reducible refine eo_own ?_ | with_reducible refine eo_retN ?_ | with_reducible refine eo_for ?_ | with_reducible refine eo_retO ?_
  | with_reducible refine ev_c ?_ | (with_reducible refine ev_var ?_; refine ⟨_, rfl, ?_⟩) | with_reducible refine ev_bin ?_ | with_reducible refine ev_un ?_ | with_reducible refine ev_nil ?_ | with_reducible refine ev_cons ?_
  | with_reducible refine ev_tup ?_ | with_reducible refine ev_lst ?_ | with_reducible refine ev_call ?_ | with_reducible refine ev_callF ?_ | with_reducible refine ev_isi ?_ | with_reducible refine ev_isi2 ?_ | with_reducible refine ev_andV ?_ | with_reducible refine ev_orV ?_ | with_reducible refine ev_notV ?_
  | with_reducible refine ev_B ?_ | with_reducible refine ev_and ?_ | with_reducible refine ev_or ?_ | with_reducible refine ev_not ?_ | with_reducible refine ev_yes ?_ | with_reducible refine ev_if ?_ | with_reducible refine ev_no ?_ | with_reducible refine ev_so ?_ | with_reducible refine ev_sl ?_ | with_reducible refine ev_items ?_
  | (with_reducible refine ev_ixO ?_; refine ⟨_, _, rfl, rfl, ?_⟩) | (with_reducible refine ev_varO ?_; refine ⟨_, _, rfl, rfl, ?_⟩) | (with_reducible refine ev_lenO ?_; refine ⟨_, _, rfl, rfl, ?_⟩) | (with_reducible refine ev_scrSl ?_; refine ⟨_, rfl, ?_⟩) | (with_reducible refine ev_scrLen ?_; refine ⟨_, rfl, ?_⟩) | (with_reducible refine ev_callScr ?_; refine ⟨_, rfl, ?_⟩) | (with_reducible refine ev_OL ?_; refine ⟨_, _, rfl, rfl, ?_⟩) | with_reducible refine ev_OR ?_ | with_reducible refine ev_rep ?_ | with_reducible refine ev_listRng1 ?_ | with_reducible refine eo_setO ?_
  | with_reducible refine es_name ?_ | with_reducible refine es_tup2 ?_ | with_reducible refine es_tup3 ?_
  | with_reducible refine ed_addI ?_ | with_reducible refine ed_subI ?_ | with_reducible refine ed_cmp ?_ | with_reducible refine ed_eqI ?_ | with_reducible refine ed_neI ?_ | with_reducible refine ed_slT ?_ | with_reducible refine ed_slL ?_ | with_reducible refine ed_lenT ?_ | with_reducible refine ed_lenL ?_ | with_reducible refine ed_lenS ?_ | with_reducible refine ed_inS ?_ | with_reducible refine ed_itT ?_ | with_reducible refine ed_itL ?_ | with_reducible refine ed_tupL ?_ | with_reducible refine ed_tupT ?_ | with_reducible refine ed_listL ?_ | with_reducible refine ed_listT ?_ | with_reducible refine ed_neg ?_ | with_reducible refine ed_max ?_ | with_reducible refine ed_min ?_ | with_reducible refine ed_intB ?_
  | with_reducible refine ev_rng1 ?_ | with_reducible refine ev_rng2 ?_)
local macro_rules | `(tactic| walk_at "sd") => `(tactic| first | rfl | assumption | (simp only [decide_eq_true_eq, decide_eq_false_iff_not, Bool.not_eq_true', Bool.not_eq_false', Bool.and_eq_true, Bool.or_eq_true, List.length_map, List.length_cons, List.length_nil, List.length_append, List.length_range] at *; omega))
local macro_rules | `(tactic| walk_at "e2") => `(tactic| first
  | walk_at "e1" | with_reducible refine ⟨_, rfl, ?_⟩ | with_reducible refine ⟨_, _, rfl, ?_⟩
  | with_reducible refine And.intro (Eq.refl (List.length _)) ?_ | with_reducible refine And.intro (Nat.le_of_ble_eq_true (n := List.length _) rfl) ?_
  | with_reducible refine And.intro (Eq.refl (_ : Sx)) (?_ : Ed _ _)
  | ((with_reducible refine And.intro ?_ (And.intro ?_ (?_ : Ev _ _))); (· rfl); (· rfl))
  | ((with_reducible refine ed_ixT ?_ ?_ ?_); (· decide); (· rfl)) | ((with_reducible refine ed_ixL ?_ ?_ ?_); (· decide); (· rfl)) | ((with_reducible refine ed_at ?_ ?_ ?_); (· decide); (· rfl))
  | ((with_reducible refine ed_modI ?_ ?_); (· first | decide | omega))
  | with_reducible exact gives_nx | ((with_reducible refine gives_rt ?_); (· rfl)) | ((with_reducible refine And.intro ?_ ?_); (· exact rfl); (· with_reducible exact Eq.refl (_ : Sx))))
local macro_rules | `(tactic| walk_at "e") => `(tactic| repeat walk_at "e2")
/-- begin a def's spec -/
local macro_rules | `(tactic| walk_at "i") => `(tactic| simp only [initS, List.map_cons, List.map_nil, List.length_cons, List.length_nil, Nat.reduceAdd, Nat.reduceSub, List.replicate, List.cons_append, List.nil_append])
/-- a known truth decides -/
local macro_rules | `(tactic| walk_at "t") => `(tactic| first | ((with_reducible refine split_t ?_ ?_); (· walk_at "sd")) | ((with_reducible refine split_t' ?_ ?_); (· walk_at "sd")))
local macro_rules | `(tactic| walk_at "f") => `(tactic| first | ((with_reducible refine split_f ?_ ?_); (· walk_at "sd")) | ((with_reducible refine split_f' ?_ ?_); (· walk_at "sd")))
/-- all that is seen in a look -/
local macro_rules | `(tactic| walk_at "v") => `(tactic| (rw [sealAll_mk (by (simp only [List.set_cons_zero, List.set_cons_succ, List.map_cons, List.map_nil, sealS_none, sealS_dat, sealS_scr, sealS_own, List.getElem?_cons_zero, List.getElem?_cons_succ, sealC_lst]; rfl)) (by (simp only [List.set_cons_zero, List.set_cons_succ, List.map_cons, List.map_nil]; rfl))]))
open Pt Gr
/-! #### how great the fewest may be -/
theorem sum_le_len {α : Type} {f : α → Int} {k : Int} (hk : 0 ≤ k) : ∀ l : List α, (∀ x ∈ l, f x ≤ k) → (l.map f).sum ≤ l.length * k
  | [], _ => by simp
  | x :: l, h => by
    have h1 := h x List.mem_cons_self
    have h2 := sum_le_len hk l fun y hy => h y (List.mem_cons_of_mem _ hy)
    rw [List.map_cons, List.sum_cons, List.length_cons, Int.natCast_add, Int.add_mul]
    omega
theorem ed_reprI {i : Int} {Q : D → Prop} (h : i.natAbs < 10 ^ 12) (q : Q (.str (Str.ofString (toString i)))) : Ed (dRepr [.int i]) Q := by
  have hb : i.natAbs.log2 < 1920 := by
    by_cases z : i.natAbs = 0
    · rw [z]; decide
    · exact Nat.lt_of_lt_of_le ((Nat.log2_lt z).mpr (show i.natAbs < 2 ^ 40 from Nat.lt_trans h (by decide))) (by decide)
  have hs : (Str.ofString (toString i)).length ≤ sizeLine := by
    rw [PyProof.Rows.ofString_length, sizeLine_eq]
    exact Nat.le_trans (int_text_length_le10 (k := 12) (by decide) h) (by decide)
  refine ⟨_, ?_, q⟩
  show (if i.natAbs.log2 < 1920 ∧ (Str.ofString (toString i)).length ≤ sizeLine then _ else none) = _
  rw [if_pos ⟨hb, hs⟩]
end Lw

set_option maxHeartbeats 4000000
namespace Lw
open PySem Fu
local macro_rules | `(tactic| walk_at "e1") => `(tactic| first
  | with_reducible refine eo_seq ?_ | (with_reducible refine then_nx' ?_; refine ⟨?_, ?_, ?_⟩; rotate_left; · (try dsimp only [List.set, List.length_cons, List.length_nil, List.cons_append, List.nil_append, Nat.zero_add, Nat.reduceAdd]); exact rfl) | with_reducible refine then_rt ?_ | with_reducible refine eo_if ?_ | with_reducible refine eo_ret ?_ | with_reducible refine eo_set ?_ | with_reducible refine eo_asg ?_ | with_reducible refine eo_drop ?_ | with_reducible refine eo_nx ?_ | with_reducible refine eo_par ?_ | with_reducible refine eo_own ?_ | with_reducible refine eo_retN ?_ | with_reducible refine eo_for ?_ | with_reducible refine eo_retO ?_
  | with_reducible refine ev_c ?_ | (with_reducible refine ev_var ?_; refine ⟨_, rfl, ?_⟩) | with_reducible refine ev_bin ?_ | with_reducible refine ev_un ?_ | with_reducible refine ev_nil ?_ | with_reducible refine ev_cons ?_
  | with_reducible refine ev_tup ?_ | with_reducible refine ev_lst ?_ | with_reducible refine ev_call ?_ | with_reducible refine ev_callF ?_ | with_reducible refine ev_isi ?_ | with_reducible refine ev_isi2 ?_ | with_reducible refine ev_andV ?_ | with_reducible refine ev_orV ?_ | with_reducible refine ev_notV ?_
  | with_reducible refine ev_B ?_ | with_reducible refine ev_and ?_ | with_reducible refine ev_or ?_ | with_reducible refine ev_not ?_ | with_reducible refine ev_yes ?_ | with_reducible refine ev_if ?_ | with_reducible refine ev_no ?_ | with_reducible refine ev_so ?_ | with_reducible refine ev_sl ?_ | with_reducible refine ev_items ?_
  | (with_reducible refine ev_ixO ?_; refine ⟨_, _, rfl, rfl, ?_⟩) | (with_reducible refine ev_varO ?_; refine ⟨_, _, rfl, rfl, ?_⟩) | (with_reducible refine ev_lenO ?_; refine ⟨_, _, rfl, rfl, ?_⟩) | (with_reducible refine ev_scrSl ?_; refine ⟨_, rfl, ?_⟩) | (with_reducible refine ev_scrLen ?_; refine ⟨_, rfl, ?_⟩) | (with_reducible refine ev_callScr ?_; refine ⟨_, rfl, ?_⟩) | (with_reducible refine ev_OL ?_; refine ⟨_, _, rfl, rfl, ?_⟩) | with_reducible refine ev_OR ?_ | with_reducible refine ev_rep ?_ | with_reducible refine ev_listRng1 ?_ | with_reducible refine eo_setO ?_
  | with_reducible refine es_name ?_ | with_reducible refine es_tup2 ?_ | with_reducible refine es_tup3 ?_
  | with_reducible refine ed_addI ?_ | with_reducible refine ed_subI ?_ | with_reducible refine ed_cmp ?_ | with_reducible refine ed_eqI ?_ | with_reducible refine ed_neI ?_ | with_reducible refine ed_slT ?_ | with_reducible refine ed_slL ?_ | with_reducible refine ed_lenT ?_ | with_reducible refine ed_lenL ?_ | with_reducible refine ed_lenS ?_ | with_reducible refine ed_inS ?_ | with_reducible refine ed_itT ?_ | with_reducible refine ed_itL ?_ | with_reducible refine ed_tupL ?_ | with_reducible refine ed_tupT ?_ | with_reducible refine ed_listL ?_ | with_reducible refine ed_listT ?_ | with_reducible refine ed_neg ?_ | with_reducible refine ed_max ?_ | with_reducible refine ed_min ?_ | with_reducible refine ed_intB ?_
  | with_reducible refine ev_rng1 ?_ | with_reducible refine ev_rng2 ?_)
local macro_rules | `(tactic| walk_at "sd") => `(tactic| first | rfl | assumption | (simp only [decide_eq_true_eq, decide_eq_false_iff_not, Bool.not_eq_true', Bool.not_eq_false', Bool.and_eq_true, Bool.or_eq_true, List.length_map, List.length_cons, List.length_nil, List.length_append, List.length_range] at *; omega))
local macro_rules | `(tactic| walk_at "e2") => `(tactic| first
  | walk_at "e1" | with_reducible refine ⟨_, rfl, ?_⟩ | with_reducible refine ⟨_, _, rfl, ?_⟩
  | with_reducible refine And.intro (Eq.refl (List.length _)) ?_ | with_reducible refine And.intro (Nat.le_of_ble_eq_true (n := List.length _) rfl) ?_
  | with_reducible refine And.intro (Eq.refl (_ : Sx)) (?_ : Ed _ _)
  | ((with_reducible refine And.intro ?_ (And.intro ?_ (?_ : Ev _ _))); (· rfl); (· rfl))
  | ((with_reducible refine ed_ixT ?_ ?_ ?_); (· decide); (· rfl)) | ((with_reducible refine ed_ixL ?_ ?_ ?_); (· decide); (· rfl)) | ((with_reducible refine ed_at ?_ ?_ ?_); (· decide); (· rfl))
  | ((with_reducible refine ed_modI ?_ ?_); (· first | decide | omega))
  | with_reducible exact gives_nx | ((with_reducible refine gives_rt ?_); (· rfl)) | ((with_reducible refine And.intro ?_ ?_); (· exact rfl); (· with_reducible exact Eq.refl (_ : Sx))))
local macro_rules | `(tactic| walk_at "e") => `(tactic| repeat walk_at "e2")
/-- begin a def's spec -/
local macro_rules | `(tactic| walk_at "i") => `(tactic| simp only [initS, List.map_cons, List.map_nil, List.length_cons, List.length_nil, Nat.reduceAdd, Nat.reduceSub, List.replicate, List.cons_append, List.nil_append])
/-- a known truth decides -/
local macro_rules | `(tactic| walk_at "t") => `(tactic| first | ((with_reducible refine split_t ?_ ?_); (· walk_at "sd")) | ((with_reducible refine split_t' ?_ ?_); (· walk_at "sd")))
local macro_rules | `(tactic| walk_at "f") => `(tactic| first | ((with_reducible refine split_f ?_ ?_); (· walk_at "sd")) | ((with_reducible refine split_f' ?_ ?_); (· walk_at "sd")))
/-- all that is seen in a look -/
local macro_rules | `(tactic| walk_at "v") => `(tactic| (rw [sealAll_mk (by (simp only [List.set_cons_zero, List.set_cons_succ, List.map_cons, List.map_nil, sealS_none, sealS_dat, sealS_scr, sealS_own, List.getElem?_cons_zero, List.getElem?_cons_succ, sealC_lst]; rfl)) (by (simp only [List.set_cons_zero, List.set_cons_succ, List.map_cons, List.map_nil]; rfl))]))
theorem ed_ixLx {xs : List D} {i : Int} {Q : D → Prop} (h : ∃ d, 0 ≤ i ∧ xs[i.toNat]? = some d ∧ Q d) : Ed (dIx (.list xs) (.int i)) Q := by
  obtain ⟨d, h0, e, q⟩ := h
  exact ed_ixL h0 e q
theorem ed_ixTx {xs : List D} {i : Int} {Q : D → Prop} (h : ∃ d, 0 ≤ i ∧ xs[i.toNat]? = some d ∧ Q d) : Ed (dIx (.tuple xs) (.int i)) Q := by
  obtain ⟨d, h0, e, q⟩ := h
  exact ed_ixT h0 e q
theorem es_star {i j : Nat} {d : D} {ds : List D} {S : Sx} {W : Sx → Prop} (h : W ⟨(S.sl.set i (some (.dat d))).set j (some (.dat (.list ds))), S.os⟩) : Es (sStar1 (sCons (sName i) (sCons (sName j) sNil)) (.list (d :: ds)) S) W := ⟨_, rfl, h⟩
theorem ed_dneSelf {x : Str} {Q : D → Prop} (q : Q (.bool false)) : Ed (dNe (.str x) (.str x)) Q := ⟨_, dNe_str_self x, q⟩
theorem ed_deqSelf {x : Str} {Q : D → Prop} (q : Q (.bool true)) : Ed (dEq (.str x) (.str x)) Q := ⟨_, dEq_str_self x, q⟩
section
variable {P R : Prop}
theorem an_tt (h : P) : (true = true → P) ∧ (true = false → R) := ⟨fun _ => h, fun z => (nomatch z)⟩
theorem an_ft (h : P) : (false = true → R) ∧ (false = false → P) := ⟨fun z => (nomatch z), fun _ => h⟩
theorem an_tf (h : P) : (true = false → R) ∧ (true = true → P) := ⟨fun z => (nomatch z), fun _ => h⟩
theorem an_ff (h : P) : (false = false → P) ∧ (false = true → R) := ⟨fun _ => h, fun z => (nomatch z)⟩
theorem an_ntt (h : P) : ((!true) = true → R) ∧ ((!true) = false → P) := ⟨fun z => absurd z (by decide), fun _ => h⟩
theorem an_nft (h : P) : ((!false) = true → P) ∧ ((!false) = false → R) := ⟨fun _ => h, fun z => absurd z (by decide)⟩
theorem an_ntf (h : P) : ((!true) = false → P) ∧ ((!true) = true → R) := ⟨fun _ => h, fun z => absurd z (by decide)⟩
theorem an_nff (h : P) : ((!false) = false → R) ∧ ((!false) = true → P) := ⟨fun z => absurd z (by decide), fun _ => h⟩
end
end Lw

set_option maxHeartbeats 4000000
namespace Lw
open PySem Fu
local macro_rules | `(tactic| walk_at "e1") => `(tactic| first
  | with_reducible refine eo_seq ?_ | (with_reducible refine then_nx' ?_; refine ⟨?_, ?_, ?_⟩; rotate_left; · (try dsimp only [List.set, List.length_cons, List.length_nil, List.cons_append, List.nil_append, Nat.zero_add, Nat.reduceAdd]); exact rfl) | with_reducible refine then_rt ?_ | with_reducible refine eo_if ?_ | with_reducible refine eo_ret ?_ | with_reducible refine eo_set ?_ | with_reducible refine eo_asg ?_ | with_reducible refine eo_drop ?_ | with_reducible refine eo_nx ?_ | with_reducible refine eo_par ?_ | with_reducible refine eo_own ?_ | with_reducible refine eo_retN ?_ | with_reducible refine eo_for ?_ | with_reducible refine eo_retO ?_
  | with_reducible refine ev_c ?_ | (with_reducible refine ev_var ?_; refine ⟨_, rfl, ?_⟩) | with_reducible refine ev_bin ?_ | with_reducible refine ev_un ?_ | with_reducible refine ev_nil ?_ | with_reducible refine ev_cons ?_
  | with_reducible refine ev_tup ?_ | with_reducible refine ev_lst ?_ | with_reducible refine ev_call ?_ | with_reducible refine ev_callF ?_ | with_reducible refine ev_isi ?_ | with_reducible refine ev_isi2 ?_ | with_reducible refine ev_andV ?_ | with_reducible refine ev_orV ?_ | with_reducible refine ev_notV ?_
  | with_reducible refine ev_B ?_ | with_reducible refine ev_and ?_ | with_reducible refine ev_or ?_ | with_reducible refine ev_not ?_ | with_reducible refine ev_yes ?_ | with_reducible refine ev_if ?_ | with_reducible refine ev_no ?_ | with_reducible refine ev_so ?_ | with_reducible refine ev_sl ?_ | with_reducible refine ev_items ?_
  | (with_reducible refine ev_ixO ?_; refine ⟨_, _, rfl, rfl, ?_⟩) | (with_reducible refine ev_varO ?_; refine ⟨_, _, rfl, rfl, ?_⟩) | (with_reducible refine ev_lenO ?_; refine ⟨_, _, rfl, rfl, ?_⟩) | (with_reducible refine ev_scrSl ?_; refine ⟨_, rfl, ?_⟩) | (with_reducible refine ev_scrLen ?_; refine ⟨_, rfl, ?_⟩) | (with_reducible refine ev_callScr ?_; refine ⟨_, rfl, ?_⟩) | (with_reducible refine ev_OL ?_; refine ⟨_, _, rfl, rfl, ?_⟩) | with_reducible refine ev_OR ?_ | with_reducible refine ev_rep ?_ | with_reducible refine ev_listRng1 ?_ | with_reducible refine eo_setO ?_
  | with_reducible refine es_name ?_ | with_reducible refine es_tup2 ?_ | with_reducible refine es_tup3 ?_
  | with_reducible refine ed_addI ?_ | with_reducible refine ed_subI ?_ | with_reducible refine ed_cmp ?_ | with_reducible refine ed_eqI ?_ | with_reducible refine ed_neI ?_ | with_reducible refine ed_slT ?_ | with_reducible refine ed_slL ?_ | with_reducible refine ed_lenT ?_ | with_reducible refine ed_lenL ?_ | with_reducible refine ed_lenS ?_ | with_reducible refine ed_inS ?_ | with_reducible refine ed_itT ?_ | with_reducible refine ed_itL ?_ | with_reducible refine ed_tupL ?_ | with_reducible refine ed_tupT ?_ | with_reducible refine ed_listL ?_ | with_reducible refine ed_listT ?_ | with_reducible refine ed_neg ?_ | with_reducible refine ed_max ?_ | with_reducible refine ed_min ?_ | with_reducible refine ed_intB ?_
  | with_reducible refine ev_rng1 ?_ | with_reducible refine ev_rng2 ?_)
local macro_rules | `(tactic| walk_at "sd") => `(tactic| first | rfl | assumption | (simp only [decide_eq_true_eq, decide_eq_false_iff_not, Bool.not_eq_true', Bool.not_eq_false', Bool.and_eq_true, Bool.or_eq_true, List.length_map, List.length_cons, List.length_nil, List.length_append, List.length_range] at *; omega))
local macro_rules | `(tactic| walk_at "e2") => `(tactic| first
  | walk_at "e1" | with_reducible refine ⟨_, rfl, ?_⟩ | with_reducible refine ⟨_, _, rfl, ?_⟩
  | with_reducible refine And.intro (Eq.refl (List.length _)) ?_ | with_reducible refine And.intro (Nat.le_of_ble_eq_true (n := List.length _) rfl) ?_
  | with_reducible refine And.intro (Eq.refl (_ : Sx)) (?_ : Ed _ _)
  | ((with_reducible refine And.intro ?_ (And.intro ?_ (?_ : Ev _ _))); (· rfl); (· rfl))
  | ((with_reducible refine ed_ixTx ?_); refine ⟨_, by decide, rfl, ?_⟩) | ((with_reducible refine ed_ixLx ?_); refine ⟨_, by decide, rfl, ?_⟩) | ((with_reducible refine es_star ?_))
  | with_reducible refine an_tt ?_ | with_reducible refine an_ft ?_ | with_reducible refine an_tf ?_ | with_reducible refine an_ff ?_ | with_reducible refine an_ntt ?_ | with_reducible refine an_nft ?_ | with_reducible refine an_ntf ?_ | with_reducible refine an_nff ?_
  | ((with_reducible refine ed_dneSelf ?_)) | ((with_reducible refine ed_deqSelf ?_))
  | ((with_reducible refine ed_ixT ?_ ?_ ?_); (· decide); (· rfl)) | ((with_reducible refine ed_ixL ?_ ?_ ?_); (· decide); (· rfl)) | ((with_reducible refine ed_at ?_ ?_ ?_); (· decide); (· rfl))
  | ((with_reducible refine ed_modI ?_ ?_); (· first | decide | omega))
  | with_reducible exact gives_nx | ((with_reducible refine gives_rt ?_); (· rfl)) | ((with_reducible refine And.intro ?_ ?_); (· exact rfl); (· with_reducible exact Eq.refl (_ : Sx))))
local macro_rules | `(tactic| walk_at "e") => `(tactic| repeat walk_at "e2")
/-- begin a def's spec -/
local macro_rules | `(tactic| walk_at "i") => `(tactic| simp only [initS, List.map_cons, List.map_nil, List.length_cons, List.length_nil, Nat.reduceAdd, Nat.reduceSub, List.replicate, List.cons_append, List.nil_append])
/-- a known truth decides -/
local macro_rules | `(tactic| walk_at "t") => `(tactic| first | ((with_reducible refine split_t ?_ ?_); (· walk_at "sd")) | ((with_reducible refine split_t' ?_ ?_); (· walk_at "sd")))
local macro_rules | `(tactic| walk_at "f") => `(tactic| first | ((with_reducible refine split_f ?_ ?_); (· walk_at "sd")) | ((with_reducible refine split_f' ?_ ?_); (· walk_at "sd")))
/-- all that is seen in a look -/
local macro_rules | `(tactic| walk_at "v") => `(tactic| (rw [sealAll_mk (by (simp only [List.set_cons_zero, List.set_cons_succ, List.map_cons, List.map_nil, sealS_none, sealS_dat, sealS_scr, sealS_own, List.getElem?_cons_zero, List.getElem?_cons_succ, sealC_lst]; rfl)) (by (simp only [List.set_cons_zero, List.set_cons_succ, List.map_cons, List.map_nil]; rfl))]))
open Pt Gr
open L2 (Key)
/-! #### dicts: the rules -/
theorem ev_dget {S : Sx} {i : Nat} {gk gd : M D} {Q : D → Sx → Prop} (h : ∃ kvs, dictOf S i = some kvs ∧ Ev (gk S) fun d S1 => ∃ k, keyOf d = some k ∧ Ev (gd S1) fun e S2 => ∃ kvs2, dictOf S2 i = some kvs2 ∧ ((∃ z, valR kvs2 k = some (.dat z) ∧ Q z S2) ∨ (valR kvs2 k = none ∧ Q e S2))) : Ev (gDGet i gk gd S) Q := by
  obtain ⟨kvs, h1, d, S1, h2, k, h3, e, S2, h4, kvs2, h5, h6⟩ := h
  rcases h6 with ⟨z, h6, q⟩ | ⟨h6, q⟩
  · exact ⟨z, S2, by simp only [gDGet, h1, h2, h3, h4, h5, h6, Option.bind_some], q⟩
  · exact ⟨e, S2, by simp only [gDGet, h1, h2, h3, h4, h5, h6, Option.bind_some], q⟩
theorem ev_lenD {S : Sx} {i : Nat} {Q : D → Sx → Prop} (h : ∃ kvs, dictOf S i = some kvs ∧ Q (.int kvs.length) S) : Ev (gLenD i S) Q := by
  obtain ⟨kvs, h1, q⟩ := h
  exact ⟨_, S, by simp only [gLenD, h1, Option.bind_some], q⟩
theorem ev_inV {S : Sx} {i : Nat} {ge : M D} {Q : D → Sx → Prop} (h : Ev (ge S) fun d S1 => ∃ n kvs ns, d = .int n ∧ dictOf S1 i = some kvs ∧ intVals kvs = some ns ∧ Q (.bool (ns.contains n)) S1) : Ev (gInV ge i S) Q := by
  obtain ⟨d, S1, h1, n, kvs, ns, rfl, h2, h3, q⟩ := h
  exact ⟨_, S1, by simp only [gInV, h1, intOf, h2, h3, Option.bind_some], q⟩
theorem ev_dictP {S : Sx} {gs : M (List D)} {Q : List (Key × R) → Sx → Prop} (h : Ev (gs S) fun ds S1 => ∃ xs kvs, ds = [.list xs] ∧ dPairs xs = some kvs ∧ Q (mergeR [] kvs) S1) : Ev (gDictP gs S) Q := by
  obtain ⟨d, S1, h1, xs, kvs, rfl, h2, q⟩ := h
  exact ⟨_, S1, by simp only [gDictP, h1, oneL, h2, Option.bind_some], q⟩
theorem eo_setD {S : Sx} {i : Nat} {g : MD} {Z : Out → Prop} (h : Ev (g S) fun kvs S1 => Z (.nx ⟨S1.sl.set i (some (.own S1.os.length)), S1.os ++ [some (.dR kvs)]⟩)) : Eo (qSetD i g S) Z := by
  obtain ⟨kvs, S1, h1, q⟩ := h
  exact ⟨_, by simp only [qSetD, h1, Option.bind_some], q⟩
def putAll {α : Type} (key : α → Key) (f : α → D) (xs : List α) (acc : List (Key × R)) : List (Key × R) := xs.foldl (fun acc x => putR acc (key x) (.dat (f x))) acc
theorem dturns_typed {α : Type} {gg : D → Sx → Option Sx} {gk ge : M D} {vs : List Nat} {enc f : α → D} {key : α → Key} {w : List (Option R)} {os : List (Option Cell)} :
    ∀ (xs : List α) (sl : List (Option R)) (acc : List (Key × R)), wipeS sl vs = w → (∀ x ∈ xs, ∃ sl1 d, gg (enc x) ⟨w, os⟩ = some ⟨sl1, os⟩ ∧ wipeS sl1 vs = w ∧ gk ⟨sl1, os⟩ = some (d, ⟨sl1, os⟩) ∧ keyOf d = some (key x) ∧ ge ⟨sl1, os⟩ = some (f x, ⟨sl1, os⟩)) →
      ∃ sl', wipeS sl' vs = w ∧ gDTurns gg gYes gk ge vs (xs.map enc) acc ⟨sl, os⟩ = some (putAll key f xs acc, ⟨sl', os⟩)
  | [], sl, acc, e, _ => ⟨sl, e, rfl⟩
  | x :: xs, sl, acc, e, h => by
    obtain ⟨sl1, d, h1, h2, h3, h4, h5⟩ := h x List.mem_cons_self
    obtain ⟨sl', e', ih⟩ := dturns_typed xs sl1 (putR acc (key x) (.dat (f x))) h2 fun y hy => h y (List.mem_cons_of_mem _ hy)
    refine ⟨sl', e', ?_⟩
    rw [List.map_cons, gDTurns]
    simp only [e, h1, gYes, h3, h4, h5, Option.bind_some, if_true]
    exact ih
theorem ev_dcX {α : Type} {S : Sx} {Q : List (Key × R) → Sx → Prop} {gi : M (List D)} {gg : D → Sx → Option Sx} {gk ge : M D} {vs : List Nat} {xs : List α} {enc f : α → D} {key : α → Key}
    (h : Ev (gi S) fun ds S1 => ds = xs.map enc ∧ (∀ x ∈ xs, Es (gg (enc x) ⟨wipeS S1.sl vs, S1.os⟩) fun S2 => wipeS S2.sl vs = wipeS S1.sl vs ∧ S2.os = S1.os ∧ Ev (gk S2) fun d S3 => S3 = S2 ∧ keyOf d = some (key x) ∧ Ev (ge S2) fun e S4 => e = f x ∧ S4 = S2) ∧ Q (putAll key f xs []) S1) : Ev (gDc gi gg gYes gk ge vs S) Q := by
  obtain ⟨ds, ⟨sl1, os1⟩, e1, rfl, h1, q⟩ := h
  obtain ⟨sl', e', ht⟩ := dturns_typed (gg := gg) (gk := gk) (ge := ge) (enc := enc) (f := f) (key := key) xs sl1 [] rfl fun d hd => by
    obtain ⟨⟨sl2, os2⟩, e2, e3, e4, c, S3, e5, e6, e7, e8⟩ := h1 d hd
    cases e4
    subst e6
    exact ⟨sl2, c, e2, e3, e5, e7, e8.eq⟩
  refine ⟨_, _, ?_, q⟩
  unfold gDc
  rw [e1]
  simp only [Option.bind_some, ht, backS_same e']
/-! #### keys -/
theorem putR_old {kvs : List (Key × R)} {k : Key} {r : R} (h : k ∈ kvs.map (·.1)) : (putR kvs k r).map (·.1) = kvs.map (·.1) := by
  unfold putR
  have : (kvs.any fun kv => decide (kv.1 = k)) = true := by
    obtain ⟨x, hx, rfl⟩ := List.mem_map.mp h
    exact List.any_eq_true.mpr ⟨x, hx, by simp⟩
  rw [if_pos this, List.map_map]
  refine List.map_congr_left fun x _ => ?_
  show (if x.1 = k then (x.1, r) else x).1 = x.1
  split <;> rfl
theorem putR_new {kvs : List (Key × R)} {k : Key} {r : R} (h : k ∉ kvs.map (·.1)) : putR kvs k r = kvs ++ [(k, r)] := by
  unfold putR
  have : (kvs.any fun kv => decide (kv.1 = k)) = false := by
    rw [← Bool.not_eq_true]
    intro z
    obtain ⟨x, hx, e⟩ := List.any_eq_true.mp z
    exact h (List.mem_map.mpr ⟨x, hx, of_decide_eq_true e⟩)
  rw [this]
  simp
theorem putAll_nd {α : Type} {key : α → Key} {f : α → D} : ∀ {xs : List α} {acc : List (Key × R)}, (xs.map key).Nodup → (∀ x ∈ xs, key x ∉ acc.map (·.1)) → putAll key f xs acc = acc ++ xs.map fun x => (key x, .dat (f x))
  | [], acc, _, _ => by simp [putAll]
  | x :: xs, acc, nd, h => by
    rw [List.map_cons, List.nodup_cons] at nd
    show putAll key f xs (putR acc (key x) (.dat (f x))) = _
    rw [putR_new (h x List.mem_cons_self), putAll_nd nd.2 fun y hy => ?_]
    · simp
    · rw [List.map_append, List.mem_append, not_or]
      refine ⟨h y (List.mem_cons_of_mem _ hy), fun z => nd.1 ?_⟩
      have e : key y = key x := by simpa using z
      rw [← e]
      exact List.mem_map.mpr ⟨y, hy, rfl⟩
theorem putAll_len {α : Type} {key : α → Key} {f : α → D} : ∀ (xs : List α) (acc : List (Key × R)), (putAll key f xs acc).length ≤ acc.length + xs.length ∧ ((putAll key f xs acc).length = acc.length + xs.length → (xs.map key).Nodup ∧ ∀ x ∈ xs, key x ∉ acc.map (·.1))
  | [], acc => ⟨Nat.le_refl _, fun _ => ⟨List.nodup_nil, fun _ h => nomatch h⟩⟩
  | x :: xs, acc => by
    obtain ⟨h1, h2⟩ := putAll_len (key := key) (f := f) xs (putR acc (key x) (.dat (f x)))
    have e : putAll key f (x :: xs) acc = putAll key f xs (putR acc (key x) (.dat (f x))) := rfl
    have hl := length_putR acc (key x) (.dat (f x))
    rw [e, List.length_cons]
    refine ⟨by omega, fun h => ?_⟩
    by_cases hm : key x ∈ acc.map (·.1)
    · have hk2 := congrArg List.length (putR_old (r := .dat (f x)) hm)
      rw [List.length_map, List.length_map] at hk2
      omega
    · have hk : (putR acc (key x) (.dat (f x))).map (·.1) = acc.map (·.1) ++ [key x] := by rw [putR_new hm]; simp
      have hk2 := congrArg List.length hk
      rw [List.length_append, List.length_map, List.length_map, List.length_singleton] at hk2
      obtain ⟨n1, n2⟩ := h2 (by omega)
      refine ⟨?_, fun y hy => ?_⟩
      · rw [List.map_cons, List.nodup_cons]
        refine ⟨fun z => ?_, n1⟩
        obtain ⟨y, hy, ey⟩ := List.mem_map.mp z
        exact n2 y hy (by rw [hk, ey]; simp)
      · rcases List.mem_cons.mp hy with rfl | hy
        · exact hm
        · intro z
          exact n2 y hy (by rw [hk]; exact List.mem_append_left _ z)
/-! #### reasons -/
abbrev Rs := Option Nat
def rsD : Rs → D
  | none => .str "odd"
  | some c => ch c
def RsOk : Rs → Prop
  | none => True
  | some c => Let c
def cmps (ls : List Ln) (q : Int) : List Nat := (ends ls q).map (cmpy ls)
def shn (ls : List Ln) (q : Int) : Rs → Int
  | none => ((cmps ls q).length : Int) % 2
  | some c => max 0 (2 * ((cmps ls q).count c : Int) - (cmps ls q).length)
theorem odd_str : ("odd" : Str) ≠ ⟨#[c]⟩ := by
  intro h
  have := congrArg Str.length h
  revert this
  show ¬ (3 = 1)
  decide
theorem eq_odd {c : Nat} : dEq (ch c) (.str "odd") = some (.bool false) := by
  unfold ch
  rw [dEq_str, decide_eq_false (fun h => odd_str h.symm)]
theorem count_filter (c : Nat) (f : Int × Int → Nat) : ∀ es : List (Int × Int), (es.filter fun e => decide (f e = c)).length = (es.map f).count c
  | [] => rfl
  | e :: es => by
    rw [List.map_cons, List.count_cons]
    by_cases h : f e = c
    · rw [List.filter_cons_of_pos (by simpa using h), List.length_cons, count_filter c f es, if_pos (by simpa using h)]
    · rw [List.filter_cons_of_neg (by simpa using h), count_filter c f es, if_neg (by simpa using h)]; rfl
theorem cmps_let {p : Int} {ls : List Ln} (h : WbOk p ls) {q : Int} : ∀ c ∈ cmps ls q, Let c := by
  intro c hc
  obtain ⟨e, he, rfl⟩ := List.mem_map.mp hc
  obtain ⟨l, hl, _⟩ := end_line rfl (ends_mem.mp he).1
  unfold cmpy
  rw [hl]
  exact (h.all l (List.mem_of_getElem? hl)).c
theorem shn_nn (ls : List Ln) (q : Int) : ∀ r : Rs, 0 ≤ shn ls q r
  | none => by show 0 ≤ ((cmps ls q).length : Int) % 2; omega
  | some c => by show 0 ≤ max 0 (2 * ((cmps ls q).count c : Int) - (cmps ls q).length); omega
theorem x_shown_at {w : D} {p q : Int} {ls : List Ln} (hw : Web w p ls) (h : WbOk p ls) (hl : ls.length ≤ 1000) (q0 : 0 ≤ q) (q1 : q < p) {r : Rs} (hr : RsOk r) : m_shown_at [w, .int q, rsD r] = some (.int (shn ls q r)) := by
  unfold m_shown_at; refine mF_of ?_; walk_at "i"; unfold g_shown_at
  walk_at "e"
  refine Ed.of (x_ends_at hw (by omega) q0 q1) ?_
  walk_at "e"
  have hel : (ends ls q).length ≤ 4000 := Nat.le_trans (List.length_filter_le _ _) (by rw [allE_len]; omega)
  cases r with
  | none =>
    unfold rsD
    walk_at "e"
    refine gives_rt ?_
    show _ = PyData.int (((cmps ls q).length : Int) % 2)
    unfold cmps
    rw [List.length_map, List.length_map]
  | some c =>
    unfold rsD
    walk_at "e"
    refine Ed.of eq_odd ?_
    walk_at "e"
    refine ev_lcX (xs := ends ls q) (enc := en) (b := fun e => decide (cmpy ls e = c)) (g := en) ?_
    walk_at "e"
    refine ⟨rfl, fun e he => ?_, ?_⟩
    · walk_at "e"
      refine Ed.of (x_company_of hw (isEn_en e) (ends_mem.mp he).1) ?_
      walk_at "e"
      have h1 : Let (cmpy ls e) := cmps_let h _ (List.mem_map.mpr ⟨e, he, rfl⟩)
      have hr : Let c := hr
      refine Ed.of (dEq_ch (by have := h1.2; omega) (by have := hr.2; omega)) ?_
      walk_at "e"
      refine ⟨rfl, rfl, fun _ => ?_⟩
      walk_at "e"
    · walk_at "e"
      have hfl : (ends ls q |>.filter fun e => decide (cmpy ls e = c)).length ≤ 4000 := Nat.le_trans (List.length_filter_le _ _) hel
      refine ed_mulI (Sp.mulW (by omega) (by rw [List.length_map]; omega)) ?_
      walk_at "e"
      refine gives_rt ?_
      unfold shn cmps
      rw [List.length_map, List.length_map, List.length_map, count_filter]
end Lw

set_option maxHeartbeats 4000000
namespace Lw
open PySem Fu
local macro_rules | `(tactic| walk_at "e1") => `(tactic| first
  | with_reducible refine eo_seq ?_ | (with_reducible refine then_nx' ?_; refine ⟨?_, ?_, ?_⟩; rotate_left; · (try dsimp only [List.set, List.length_cons, List.length_nil, List.cons_append, List.nil_append, Nat.zero_add, Nat.reduceAdd]); exact rfl) | with_reducible refine then_rt ?_ | with_reducible refine eo_if ?_ | with_reducible refine eo_ret ?_ | with_reducible refine eo_set ?_ | with_reducible refine eo_asg ?_ | with_reducible refine eo_drop ?_ | with_reducible refine eo_nx ?_ | with_reducible refine eo_par ?_ | with_reducible refine eo_own ?_ | with_reducible refine eo_retN ?_ | with_reducible refine eo_for ?_ | with_reducible refine eo_retO ?_
  | with_reducible refine ev_c ?_ | (with_reducible refine ev_var ?_; refine ⟨_, rfl, ?_⟩) | with_reducible refine ev_bin ?_ | with_reducible refine ev_un ?_ | with_reducible refine ev_nil ?_ | with_reducible refine ev_cons ?_
  | with_reducible refine ev_tup ?_ | with_reducible refine ev_lst ?_ | with_reducible refine ev_call ?_ | with_reducible refine ev_callF ?_ | with_reducible refine ev_isi ?_ | with_reducible refine ev_isi2 ?_ | with_reducible refine ev_andV ?_ | with_reducible refine ev_orV ?_ | with_reducible refine ev_notV ?_
  | with_reducible refine ev_B ?_ | with_reducible refine ev_and ?_ | with_reducible refine ev_or ?_ | with_reducible refine ev_not ?_ | with_reducible refine ev_yes ?_ | with_reducible refine ev_if ?_ | with_reducible refine ev_no ?_ | with_reducible refine ev_so ?_ | with_reducible refine ev_sl ?_ | with_reducible refine ev_items ?_
  | (with_reducible refine ev_ixO ?_; refine ⟨_, _, rfl, rfl, ?_⟩) | (with_reducible refine ev_varO ?_; refine ⟨_, _, rfl, rfl, ?_⟩) | (with_reducible refine ev_lenO ?_; refine ⟨_, _, rfl, rfl, ?_⟩) | (with_reducible refine ev_scrSl ?_; refine ⟨_, rfl, ?_⟩) | (with_reducible refine ev_scrLen ?_; refine ⟨_, rfl, ?_⟩) | (with_reducible refine ev_callScr ?_; refine ⟨_, rfl, ?_⟩) | (with_reducible refine ev_OL ?_; refine ⟨_, _, rfl, rfl, ?_⟩) | with_reducible refine ev_OR ?_ | with_reducible refine ev_rep ?_ | with_reducible refine ev_listRng1 ?_ | with_reducible refine eo_setO ?_
  | with_reducible refine es_name ?_ | with_reducible refine es_tup2 ?_ | with_reducible refine es_tup3 ?_
  | with_reducible refine ed_addI ?_ | with_reducible refine ed_subI ?_ | with_reducible refine ed_cmp ?_ | with_reducible refine ed_eqI ?_ | with_reducible refine ed_neI ?_ | with_reducible refine ed_slT ?_ | with_reducible refine ed_slL ?_ | with_reducible refine ed_lenT ?_ | with_reducible refine ed_lenL ?_ | with_reducible refine ed_lenS ?_ | with_reducible refine ed_inS ?_ | with_reducible refine ed_itT ?_ | with_reducible refine ed_itL ?_ | with_reducible refine ed_tupL ?_ | with_reducible refine ed_tupT ?_ | with_reducible refine ed_listL ?_ | with_reducible refine ed_listT ?_ | with_reducible refine ed_neg ?_ | with_reducible refine ed_max ?_ | with_reducible refine ed_min ?_ | with_reducible refine ed_intB ?_
  | with_reducible refine ev_rng1 ?_ | with_reducible refine ev_rng2 ?_)
local macro_rules | `(tactic| walk_at "sd") => `(tactic| first | rfl | assumption | (simp only [decide_eq_true_eq, decide_eq_false_iff_not, Bool.not_eq_true', Bool.not_eq_false', Bool.and_eq_true, Bool.or_eq_true, List.length_map, List.length_cons, List.length_nil, List.length_append, List.length_range] at *; omega))
local macro_rules | `(tactic| walk_at "e2") => `(tactic| first
  | walk_at "e1" | with_reducible refine ⟨_, rfl, ?_⟩ | with_reducible refine ⟨_, _, rfl, ?_⟩
  | with_reducible refine And.intro (Eq.refl (List.length _)) ?_ | with_reducible refine And.intro (Nat.le_of_ble_eq_true (n := List.length _) rfl) ?_
  | with_reducible refine And.intro (Eq.refl (_ : Sx)) (?_ : Ed _ _)
  | ((with_reducible refine And.intro ?_ (And.intro ?_ (?_ : Ev _ _))); (· rfl); (· rfl))
  | ((with_reducible refine ed_ixTx ?_); refine ⟨_, by decide, rfl, ?_⟩) | ((with_reducible refine ed_ixLx ?_); refine ⟨_, by decide, rfl, ?_⟩) | ((with_reducible refine es_star ?_))
  | with_reducible refine an_tt ?_ | with_reducible refine an_ft ?_ | with_reducible refine an_tf ?_ | with_reducible refine an_ff ?_ | with_reducible refine an_ntt ?_ | with_reducible refine an_nft ?_ | with_reducible refine an_ntf ?_ | with_reducible refine an_nff ?_
  | ((with_reducible refine ed_dneSelf ?_)) | ((with_reducible refine ed_deqSelf ?_))
  | ((with_reducible refine ed_ixT ?_ ?_ ?_); (· decide); (· rfl)) | ((with_reducible refine ed_ixL ?_ ?_ ?_); (· decide); (· rfl)) | ((with_reducible refine ed_at ?_ ?_ ?_); (· decide); (· rfl))
  | ((with_reducible refine ed_modI ?_ ?_); (· first | decide | omega))
  | with_reducible exact gives_nx | ((with_reducible refine gives_rt ?_); (· rfl)) | ((with_reducible refine And.intro ?_ ?_); (· exact rfl); (· with_reducible exact Eq.refl (_ : Sx))))
local macro_rules | `(tactic| walk_at "e") => `(tactic| repeat walk_at "e2")
/-- begin a def's spec -/
local macro_rules | `(tactic| walk_at "i") => `(tactic| simp only [initS, List.map_cons, List.map_nil, List.length_cons, List.length_nil, Nat.reduceAdd, Nat.reduceSub, List.replicate, List.cons_append, List.nil_append])
/-- a known truth decides -/
local macro_rules | `(tactic| walk_at "t") => `(tactic| first | ((with_reducible refine split_t ?_ ?_); (· walk_at "sd")) | ((with_reducible refine split_t' ?_ ?_); (· walk_at "sd")))
local macro_rules | `(tactic| walk_at "f") => `(tactic| first | ((with_reducible refine split_f ?_ ?_); (· walk_at "sd")) | ((with_reducible refine split_f' ?_ ?_); (· walk_at "sd")))
/-- all that is seen in a look -/
local macro_rules | `(tactic| walk_at "v") => `(tactic| (rw [sealAll_mk (by (simp only [List.set_cons_zero, List.set_cons_succ, List.map_cons, List.map_nil, sealS_none, sealS_dat, sealS_scr, sealS_own, List.getElem?_cons_zero, List.getElem?_cons_succ, sealC_lst]; rfl)) (by (simp only [List.set_cons_zero, List.set_cons_succ, List.map_cons, List.map_nil]; rfl))]))
open Pt Gr
open L2 (Key)
/-! #### reasons judged -/
def goodR (p : Int) (ls : List Ln) (x : Int × Rs) : Bool := decide (0 ≤ x.1 ∧ x.1 < p ∧ 0 < shn ls x.1 x.2)
def oddD : D → Bool
  | .str x => decide (x = "odd")
  | _ => false
def okB (b : D) : Bool := companyD b || oddD b
theorem rowD_sq {d a b : D} (s : Sq d [a, b]) : rowD 2 d = true := by
  unfold rowD; rw [s.of]; rfl
theorem x_is_reason_no {w d : D} (h : rowD 2 d = false) : m_is_reason [w, d] = some (.bool false) := by
  unfold m_is_reason; refine mF_of ?_; walk_at "i"; unfold g_is_reason
  walk_at "e"
  refine Ed.of (x_is_row d 2) ?_
  rw [h]
  walk_at "e"
theorem x_is_reason_whole {w d a b : D} (s : Sq d [a, b]) (h : wholeD a = false) : m_is_reason [w, d] = some (.bool false) := by
  unfold m_is_reason; refine mF_of ?_; walk_at "i"; unfold g_is_reason
  walk_at "e"
  refine Ed.of (x_is_row d 2) ?_
  rw [rowD_sq s]
  walk_at "e"
  refine ed_ixQ s (by decide) rfl ?_
  walk_at "e"
  refine Ed.of (x_is_whole a) ?_
  rw [h]
  walk_at "e"
theorem wholeD_int (q : Int) : wholeD (.int q) = decide (0 ≤ q) := rfl
theorem x_is_reason_big {w d b : D} {p q : Int} {ls : List Ln} (hw : Web w p ls) (s : Sq d [.int q, b]) (q0 : 0 ≤ q) (h : p ≤ q) : m_is_reason [w, d] = some (.bool false) := by
  obtain ⟨L, sw, _⟩ := id hw
  unfold m_is_reason; refine mF_of ?_; walk_at "i"; unfold g_is_reason
  walk_at "e"
  refine Ed.of (x_is_row d 2) ?_
  rw [rowD_sq s]
  walk_at "e"
  refine ed_ixQ s (by decide) rfl ?_
  walk_at "e"
  refine Ed.of (x_is_whole (.int q)) ?_
  rw [wholeD_int, decide_eq_true q0]
  walk_at "e"
  refine ed_ixQ s (by decide) rfl ?_
  walk_at "e"
  refine ed_ixQ sw (by decide) rfl ?_
  walk_at "e"
  rw [decide_eq_true (show q ≥ p from h)]
  walk_at "e"
theorem x_is_reason_in {w d b : D} {p q : Int} {ls : List Ln} (hw : Web w p ls) (s : Sq d [.int q, b]) (q0 : 0 ≤ q) (h : q < p) (z : Bool)
    (h1 : okB b = false → z = false) (h2 : okB b = true → ∃ k : Int, m_shown_at [w, .int q, b] = some (.int k) ∧ z = decide (k > 0)) : m_is_reason [w, d] = some (.bool z) := by
  obtain ⟨L, sw, _⟩ := id hw
  unfold m_is_reason; refine mF_of ?_; walk_at "i"; unfold g_is_reason
  walk_at "e"
  refine Ed.of (x_is_row d 2) ?_
  rw [rowD_sq s]
  walk_at "e"
  refine ed_ixQ s (by decide) rfl ?_
  walk_at "e"
  refine Ed.of (x_is_whole (.int q)) ?_
  rw [wholeD_int, decide_eq_true q0]
  walk_at "e"
  refine ed_ixQ s (by decide) rfl ?_
  walk_at "e"
  refine ed_ixQ sw (by decide) rfl ?_
  walk_at "e"
  rw [decide_eq_false (show ¬ q ≥ p by omega)]
  walk_at "e"
  refine ed_ixQ s (by decide) rfl ?_
  walk_at "e"
  refine Ed.of (x_is_company b) ?_
  cases hc : companyD b with
  | true =>
    walk_at "e"
    refine ed_ixQ s (by decide) rfl ?_
    walk_at "e"
    refine ed_ixQ s (by decide) rfl ?_
    walk_at "e"
    obtain ⟨k, e1, rfl⟩ := h2 (by unfold okB; rw [hc]; rfl)
    refine Ed.of e1 ?_
    walk_at "e"
  | false =>
    walk_at "e"
    refine ed_ixQ s (by decide) rfl ?_
    refine ⟨_, rfl, fun hs => ?_, fun hs => ?_⟩
    · obtain ⟨x, rfl⟩ : ∃ x, b = .str x := by cases b <;> simp [isT, dTy] at hs; exact ⟨_, rfl⟩
      walk_at "e"
      refine ed_ixQ s (by decide) rfl ?_
      walk_at "e"
      refine Ed.of (dEq_str x _) ?_
      walk_at "e"
      by_cases hx : x = "odd"
      · rw [decide_eq_true hx]
        walk_at "e"
        refine ed_ixQ s (by decide) rfl ?_
        walk_at "e"
        refine ed_ixQ s (by decide) rfl ?_
        walk_at "e"
        obtain ⟨k, e1, rfl⟩ := h2 (by unfold okB; rw [hc]; exact decide_eq_true hx)
        refine Ed.of e1 ?_
        walk_at "e"
      · rw [decide_eq_false hx]
        walk_at "e"
        rw [h1 (by unfold okB; rw [hc]; exact decide_eq_false hx)]
        walk_at "e"
    · rw [h1 (by
        unfold okB; rw [hc]
        cases b <;> simp [isT, dTy] at hs <;> rfl)]
      walk_at "e"
theorem okB_rs {r : Rs} (hr : RsOk r) : okB (rsD r) = true := by
  cases r with
  | none => rfl
  | some c => unfold okB rsD; rw [companyD_ch hr]; rfl
theorem x_is_reason {w d : D} {p q : Int} {ls : List Ln} (hw : Web w p ls) (h : WbOk p ls) (hl : ls.length ≤ 1000) {r : Rs} (hr : RsOk r) (s : Sq d [.int q, rsD r]) : m_is_reason [w, d] = some (.bool (goodR p ls (q, r))) := by
  unfold goodR
  by_cases q0 : 0 ≤ q
  · by_cases q1 : q < p
    · refine x_is_reason_in hw s q0 q1 _ (fun z => ?_) fun _ => ⟨_, x_shown_at hw h hl q0 q1 hr, ?_⟩
      · rw [okB_rs hr] at z; cases z
      · simp only [decide_eq_decide]
        exact ⟨fun z => z.2.2, fun z => ⟨q0, q1, z⟩⟩
    · rw [decide_eq_false (fun z => q1 z.2.1)]
      exact x_is_reason_big hw s q0 (by omega)
  · rw [decide_eq_false (fun z => q0 z.1)]
    exact x_is_reason_whole s (decide_eq_false q0)
/-! #### what a paper shows -/
def gotAt (ls : List Ln) (pr : List (Int × Rs)) (q : Int) : Int := match pr.find? fun x => decide (x.1 = q) with
  | some x => shn ls x.1 x.2
  | none => 0
def gotSum (p : Int) (ls : List Ln) (pr : List (Int × Rs)) (u : Int) : Int := ((placesAt p ls u).map fun i : Nat => gotAt ls pr i).sum
def numW (p : Int) (ls : List Ln) (pr : List (Int × Rs)) : Int := ((uss p ls).map fun u => max 1 ((gotSum p ls pr u + 1) / 2)).sum
theorem gotAt_nn (ls : List Ln) (pr : List (Int × Rs)) (q : Int) : 0 ≤ gotAt ls pr q := by
  unfold gotAt
  split
  · exact shn_nn _ _ _
  · exact Int.le_refl 0
theorem sum_nn {α : Type} {f : α → Int} : ∀ {l : List α}, (∀ x ∈ l, 0 ≤ f x) → 0 ≤ (l.map f).sum
  | [], _ => Int.le_refl 0
  | x :: l, h => by
    rw [List.map_cons, List.sum_cons]
    have := h x List.mem_cons_self
    have := sum_nn fun y hy => h y (List.mem_cons_of_mem _ hy)
    omega
theorem gotSum_nn (p : Int) (ls : List Ln) (pr : List (Int × Rs)) (u : Int) : 0 ≤ gotSum p ls pr u := sum_nn fun _ _ => gotAt_nn _ _ _
theorem val_pairs (ls : List Ln) (q : Int) : ∀ pr : List (Int × Rs), valR (pr.map fun x => ((.inl x.1 : Key), (R.dat (.int (shn ls x.1 x.2))))) (.inl q) = (pr.find? fun x => decide (x.1 = q)).map fun x => R.dat (.int (shn ls x.1 x.2))
  | [] => rfl
  | x :: pr => by
    have ih := val_pairs ls q pr
    unfold valR at ih ⊢
    rw [List.map_cons, List.find?_cons, List.find?_cons]
    by_cases h : x.1 = q
    · rw [decide_eq_true (show (Sum.inl x.1 : Key) = .inl q by rw [h]), decide_eq_true h]
      rfl
    · rw [decide_eq_false (show ¬ (Sum.inl x.1 : Key) = .inl q by intro z; exact h (Sum.inl.inj z)), decide_eq_false h]
      exact ih
theorem get_pairs {ls : List Ln} {q : Int} {pr : List (Int × Rs)} {Q : D → Prop} (h : Q (.int (gotAt ls pr q))) : (∃ z, valR (pr.map fun x => ((.inl x.1 : Key), (R.dat (.int (shn ls x.1 x.2))))) (.inl q) = some (.dat z) ∧ Q z) ∨ (valR (pr.map fun x => ((.inl x.1 : Key), (R.dat (.int (shn ls x.1 x.2))))) (.inl q) = none ∧ Q (.int 0)) := by
  rw [val_pairs]
  unfold gotAt at h
  split at h
  · rename_i x e
    rw [e]
    exact .inl ⟨_, rfl, h⟩
  · rename_i e
    rw [e]
    exact .inr ⟨rfl, h⟩
theorem x_shown_none {w n : D} (h : seqOf n = none) : m_shown_by [w, n] = some .none := by
  unfold m_shown_by; refine mF_of ?_; walk_at "i"; unfold g_shown_by
  walk_at "e"
  rw [show (isT "list" n || isT "tuple" n) = false by rw [isi_seq, h]; rfl]
  walk_at "e"
theorem x_shown_bad {α : Type} {w n : D} {xs : List α} {enc : α → D} (s : Sq n (xs.map enc)) (f : α → Bool) (hf : ∀ x ∈ xs, m_is_reason [w, enc x] = some (.bool (f x))) (hb : xs.all f = false) : m_shown_by [w, n] = some .none := by
  unfold m_shown_by; refine mF_of ?_; walk_at "i"; unfold g_shown_by
  walk_at "e"
  rw [s.isi]
  walk_at "e"
  refine ev_lcX (xs := xs) (enc := enc) (b := fun _ => true) (g := fun d => .bool (f d)) ?_
  walk_at "e"
  refine ed_itQ s ?_
  refine ⟨rfl, fun d hd => ?_, ?_⟩
  · walk_at "e"
    refine ⟨rfl, rfl, fun _ => ?_⟩
    walk_at "e"
    refine Ed.of (hf d hd) ?_
    walk_at "e"
  · rw [filter_tt]
    walk_at "e"
    refine all_mapX f xs ?_
    rw [hb]
    walk_at "e"
theorem es_seqQ {i j : Nat} {x d e : D} {S : Sx} {W : Sx → Prop} (s : Sq x [d, e]) (h : W ⟨(S.sl.set i (some (.dat d))).set j (some (.dat e)), S.os⟩) : Es (sSeq 2 (sCons (sName i) (sCons (sName j) sNil)) x S) W := by
  rcases s with rfl | rfl <;> exact ⟨_, rfl, h⟩
theorem goodR_of {p : Int} {ls : List Ln} {x : Int × Rs} (h : goodR p ls x = true) : 0 ≤ x.1 ∧ x.1 < p ∧ 0 < shn ls x.1 x.2 := of_decide_eq_true h
theorem x_shown_by {w n : D} {p : Int} {ls : List Ln} (hw : Web w p ls) (h : WbOk p ls) (hl : ls.length ≤ 400) (p1 : p < 64) {pr : List (Int × Rs)} {enc : Int × Rs → D} (s : Sq n (pr.map enc)) (he : ∀ x ∈ pr, Sq (enc x) [.int x.1, rsD x.2]) (hr : ∀ x ∈ pr, RsOk x.2) :
    m_shown_by [w, n] = some (if ∀ x ∈ pr, goodR p ls x = true then if (pr.map (·.1)).Nodup then .int (numW p ls pr) else .none else .none) := by
  have p0 := h.p0
  have hb := wb_bounds h
  by_cases hg : ∀ x ∈ pr, goodR p ls x = true
  · rw [if_pos hg]
    unfold m_shown_by; refine mF_of ?_; walk_at "i"; unfold g_shown_by
    walk_at "e"
    rw [s.isi]
    walk_at "e"
    refine ev_lcX (xs := pr) (enc := enc) (b := fun _ => true) (g := fun x => .bool (goodR p ls x)) ?_
    walk_at "e"
    refine ed_itQ s ?_
    refine ⟨rfl, fun x hx => ?_, ?_⟩
    · walk_at "e"
      refine ⟨rfl, rfl, fun _ => ?_⟩
      walk_at "e"
      refine Ed.of (x_is_reason hw h (by omega) (hr x hx) (he x hx)) ?_
      walk_at "e"
    · rw [filter_tt]
      walk_at "e"
      refine all_mapX (goodR p ls) pr ?_
      rw [List.all_eq_true.mpr hg]
      walk_at "e"
      refine eo_setD ?_
      refine ev_dcX (xs := pr) (enc := enc) (key := fun x => .inl x.1) (f := fun x => .int (shn ls x.1 x.2)) ?_
      walk_at "e"
      refine ed_itQ s ?_
      refine ⟨rfl, fun x hx => ?_, ?_⟩
      · obtain ⟨g1, g2, g3⟩ := goodR_of (hg x hx)
        refine es_seqQ (he x hx) ?_
        walk_at "e"
        refine Ed.of (x_shown_at hw h (by omega) g1 g2 (hr x hx)) ?_
        walk_at "e"
      · walk_at "e"
        refine ev_lenD ⟨_, rfl, ?_⟩
        walk_at "e"
        refine ed_lenQ s ?_
        walk_at "e"
        rw [List.length_map]
        obtain ⟨k1, k2⟩ := putAll_len (key := fun x : Int × Rs => (Sum.inl x.1 : Key)) (f := fun x => .int (shn ls x.1 x.2)) pr []
        rw [List.length_nil, Nat.zero_add] at k1 k2
        by_cases nd : (pr.map (·.1)).Nodup
        · have nd2 : (pr.map fun x : Int × Rs => (Sum.inl x.1 : Key)).Nodup := by
            have e : (pr.map fun x : Int × Rs => (Sum.inl x.1 : Key)) = (pr.map (·.1)).map Sum.inl := by rw [List.map_map]; rfl
            rw [e]
            refine List.Pairwise.map _ (fun a b hab z => hab (Sum.inl.inj z)) nd
          rw [if_pos nd, putAll_nd nd2 (fun _ _ => by simp), List.nil_append, List.length_map, decide_eq_true rfl]
          walk_at "e"
          refine ev_lcX (xs := uss p ls) (enc := fun u => liD (partAt p ls u)) (b := fun _ => true) (g := fun u => .int (max 1 ((gotSum p ls pr u + 1) / 2))) ?_
          walk_at "e"
          refine Ed.of (x_parts_of hw h (by omega)) ?_
          walk_at "e"
          refine ⟨by unfold partsL; rw [List.map_map]; rfl, fun u hu => ?_, ?_⟩
          · walk_at "e"
            refine ⟨rfl, rfl, fun _ => ?_⟩
            walk_at "e"
            refine ev_lcX (xs := placesAt p ls u) (enc := iD) (b := fun _ => true) (g := fun i : Nat => .int (gotAt ls pr i)) ?_
            walk_at "e"
            have hs := sset_places hb hu
            refine Ed.of (x_places_of_part hw (fun i hi => (mem_partAt.mp hi).1) (by have := partAt_len p ls u; omega) (by rw [hs, List.length_map]; have := placesAt_len p ls u; omega)) ?_
            rw [hs]
            walk_at "e"
            refine ⟨by rw [List.map_map]; rfl, fun i hi => ?_, ?_⟩
            · walk_at "e"
              refine ⟨rfl, rfl, fun _ => ?_⟩
              refine ev_dget ⟨_, rfl, ?_⟩
              walk_at "e"
              exact get_pairs (Q := fun z => z = .int (gotAt ls pr i) ∧ _ = _) ⟨rfl, rfl⟩
            · rw [filter_tt]
              walk_at "e"
              rw [show ((placesAt p ls u).map fun i : Nat => PyData.int (gotAt ls pr i)) = ((placesAt p ls u).map fun i : Nat => gotAt ls pr i).map .int from (by rw [List.map_map]; rfl)]
              refine ed_sumI ?_
              walk_at "e"
              refine Ed.of (x_rides_for (gotSum_nn p ls pr u)) ?_
              walk_at "e"
          · rw [filter_tt]
            walk_at "e"
            rw [show ((uss p ls).map fun u => PyData.int (max 1 ((gotSum p ls pr u + 1) / 2))) = ((uss p ls).map fun u => max 1 ((gotSum p ls pr u + 1) / 2)).map .int from (by rw [List.map_map]; rfl)]
            refine ed_sumI ?_
            walk_at "e"
        · have nl : ¬ (putAll (fun x : Int × Rs => (Sum.inl x.1 : Key)) (fun x => .int (shn ls x.1 x.2)) pr []).length = pr.length := fun z => nd (by
            have nd2 := (k2 z).1
            have e : (pr.map fun x : Int × Rs => (Sum.inl x.1 : Key)) = (pr.map (·.1)).map Sum.inl := by rw [List.map_map]; rfl
            rw [e] at nd2
            exact List.Pairwise.of_map _ (fun a b hab z => hab (congrArg Sum.inl z)) nd2)
          rw [if_neg nd, decide_eq_false (by omega)]
          walk_at "e"
  · rw [if_neg hg]
    refine x_shown_bad s (goodR p ls) (fun x hx => x_is_reason hw h (by omega) (hr x hx) (he x hx)) ?_
    rw [← Bool.not_eq_true]
    exact fun z => hg (List.all_eq_true.mp z)
end Lw

set_option maxHeartbeats 4000000
namespace Lw
open PySem Fu
local macro_rules | `(tactic| walk_at "e1") => `(tactic| first
  | with_reducible refine eo_seq ?_ | (with_reducible refine then_nx' ?_; refine ⟨?_, ?_, ?_⟩; rotate_left; · (try dsimp only [List.set, List.length_cons, List.length_nil, List.cons_append, List.nil_append, Nat.zero_add, Nat.reduceAdd]); exact rfl) | with_reducible refine then_rt ?_ | with_reducible refine eo_if ?_ | with_reducible refine eo_ret ?_ | with_reducible refine eo_set ?_ | with_reducible refine eo_asg ?_ | with_reducible refine eo_drop ?_ | with_reducible refine eo_nx ?_ | with_reducible refine eo_par ?_ | with_reducible refine eo_own ?_ | with_reducible refine eo_retN ?_ | with_reducible refine eo_for ?_ | with_reducible refine eo_retO ?_
  | with_reducible refine ev_c ?_ | (with_reducible refine ev_var ?_; refine ⟨_, rfl, ?_⟩) | with_reducible refine ev_bin ?_ | with_reducible refine ev_un ?_ | with_reducible refine ev_nil ?_ | with_reducible refine ev_cons ?_
  | with_reducible refine ev_tup ?_ | with_reducible refine ev_lst ?_ | with_reducible refine ev_call ?_ | with_reducible refine ev_callF ?_ | with_reducible refine ev_isi ?_ | with_reducible refine ev_isi2 ?_ | with_reducible refine ev_andV ?_ | with_reducible refine ev_orV ?_ | with_reducible refine ev_notV ?_
  | with_reducible refine ev_B ?_ | with_reducible refine ev_and ?_ | with_reducible refine ev_or ?_ | with_reducible refine ev_not ?_ | with_reducible refine ev_yes ?_ | with_reducible refine ev_if ?_ | with_reducible refine ev_no ?_ | with_reducible refine ev_so ?_ | with_reducible refine ev_sl ?_ | with_reducible refine ev_items ?_
  | (with_reducible refine ev_ixO ?_; refine ⟨_, _, rfl, rfl, ?_⟩) | (with_reducible refine ev_varO ?_; refine ⟨_, _, rfl, rfl, ?_⟩) | (with_reducible refine ev_lenO ?_; refine ⟨_, _, rfl, rfl, ?_⟩) | (with_reducible refine ev_scrSl ?_; refine ⟨_, rfl, ?_⟩) | (with_reducible refine ev_scrLen ?_; refine ⟨_, rfl, ?_⟩) | (with_reducible refine ev_callScr ?_; refine ⟨_, rfl, ?_⟩) | (with_reducible refine ev_OL ?_; refine ⟨_, _, rfl, rfl, ?_⟩) | with_reducible refine ev_OR ?_ | with_reducible refine ev_rep ?_ | with_reducible refine ev_listRng1 ?_ | with_reducible refine eo_setO ?_
  | with_reducible refine es_name ?_ | with_reducible refine es_tup2 ?_ | with_reducible refine es_tup3 ?_
  | with_reducible refine ed_addI ?_ | with_reducible refine ed_subI ?_ | with_reducible refine ed_cmp ?_ | with_reducible refine ed_eqI ?_ | with_reducible refine ed_neI ?_ | with_reducible refine ed_slT ?_ | with_reducible refine ed_slL ?_ | with_reducible refine ed_lenT ?_ | with_reducible refine ed_lenL ?_ | with_reducible refine ed_lenS ?_ | with_reducible refine ed_inS ?_ | with_reducible refine ed_itT ?_ | with_reducible refine ed_itL ?_ | with_reducible refine ed_tupL ?_ | with_reducible refine ed_tupT ?_ | with_reducible refine ed_listL ?_ | with_reducible refine ed_listT ?_ | with_reducible refine ed_neg ?_ | with_reducible refine ed_max ?_ | with_reducible refine ed_min ?_ | with_reducible refine ed_intB ?_
  | with_reducible refine ev_rng1 ?_ | with_reducible refine ev_rng2 ?_)
local macro_rules | `(tactic| walk_at "sd") => `(tactic| first | rfl | assumption | (simp only [decide_eq_true_eq, decide_eq_false_iff_not, Bool.not_eq_true', Bool.not_eq_false', Bool.and_eq_true, Bool.or_eq_true, List.length_map, List.length_cons, List.length_nil, List.length_append, List.length_range] at *; omega))
local macro_rules | `(tactic| walk_at "e2") => `(tactic| first
  | walk_at "e1" | with_reducible refine ⟨_, rfl, ?_⟩ | with_reducible refine ⟨_, _, rfl, ?_⟩
  | with_reducible refine And.intro (Eq.refl (List.length _)) ?_ | with_reducible refine And.intro (Nat.le_of_ble_eq_true (n := List.length _) rfl) ?_
  | with_reducible refine And.intro (Eq.refl (_ : Sx)) (?_ : Ed _ _)
  | ((with_reducible refine And.intro ?_ (And.intro ?_ (?_ : Ev _ _))); (· rfl); (· rfl))
  | ((with_reducible refine ed_ixTx ?_); refine ⟨_, by decide, rfl, ?_⟩) | ((with_reducible refine ed_ixLx ?_); refine ⟨_, by decide, rfl, ?_⟩) | ((with_reducible refine es_star ?_))
  | with_reducible refine an_tt ?_ | with_reducible refine an_ft ?_ | with_reducible refine an_tf ?_ | with_reducible refine an_ff ?_ | with_reducible refine an_ntt ?_ | with_reducible refine an_nft ?_ | with_reducible refine an_ntf ?_ | with_reducible refine an_nff ?_
  | ((with_reducible refine ed_dneSelf ?_)) | ((with_reducible refine ed_deqSelf ?_))
  | ((with_reducible refine ed_ixT ?_ ?_ ?_); (· decide); (· rfl)) | ((with_reducible refine ed_ixL ?_ ?_ ?_); (· decide); (· rfl)) | ((with_reducible refine ed_at ?_ ?_ ?_); (· decide); (· rfl))
  | ((with_reducible refine ed_modI ?_ ?_); (· first | decide | omega))
  | with_reducible exact gives_nx | ((with_reducible refine gives_rt ?_); (· rfl)) | ((with_reducible refine And.intro ?_ ?_); (· exact rfl); (· with_reducible exact Eq.refl (_ : Sx))))
local macro_rules | `(tactic| walk_at "e") => `(tactic| repeat walk_at "e2")
/-- begin a def's spec -/
local macro_rules | `(tactic| walk_at "i") => `(tactic| simp only [initS, List.map_cons, List.map_nil, List.length_cons, List.length_nil, Nat.reduceAdd, Nat.reduceSub, List.replicate, List.cons_append, List.nil_append])
/-- a known truth decides -/
local macro_rules | `(tactic| walk_at "t") => `(tactic| first | ((with_reducible refine split_t ?_ ?_); (· walk_at "sd")) | ((with_reducible refine split_t' ?_ ?_); (· walk_at "sd")))
local macro_rules | `(tactic| walk_at "f") => `(tactic| first | ((with_reducible refine split_f ?_ ?_); (· walk_at "sd")) | ((with_reducible refine split_f' ?_ ?_); (· walk_at "sd")))
/-- all that is seen in a look -/
local macro_rules | `(tactic| walk_at "v") => `(tactic| (rw [sealAll_mk (by (simp only [List.set_cons_zero, List.set_cons_succ, List.map_cons, List.map_nil, sealS_none, sealS_dat, sealS_scr, sealS_own, List.getElem?_cons_zero, List.getElem?_cons_succ, sealC_lst]; rfl)) (by (simp only [List.set_cons_zero, List.set_cons_succ, List.map_cons, List.map_nil]; rfl))]))
open Lw.Sp Pt Gr
open L2 (Key)
/-! #### the law's own number -/
def prT (x : Int × Rs) : D := .tuple [.int x.1, rsD x.2]
theorem x__law_shown {p q : Int} {ls : List Ln} (h : WbOk p ls) (hl : ls.length ≤ 1000) {r : Rs} (hr : RsOk r) : m__law_shown [wb p ls, .int q, rsD r] = some (.int (shn ls q r)) := by
  have hel : (cmps ls q).length ≤ 4000 := by unfold cmps; rw [List.length_map]; exact Nat.le_trans (List.length_filter_le _ _) (by rw [allE_len]; omega)
  have hcl : ∀ c ∈ cmps ls q, c < 0x110000 := fun c hc => (cmps_let h c hc).ok
  unfold m__law_shown; refine mF_of ?_; walk_at "i"; unfold g__law_shown
  walk_at "e"
  refine Ed.of (x__law_signs h) ?_
  rw [show (ends ls q).map (cmpy ls) = cmps ls q from rfl]
  walk_at "e"
  cases r with
  | none =>
    unfold rsD
    walk_at "e"
    refine gives_rt ?_
    show _ = PyData.int (((cmps ls q).length : Int) % 2)
    rw [List.length_map]
  | some c =>
    unfold rsD
    walk_at "e"
    refine Ed.of eq_odd ?_
    walk_at "e"
    have hr : Let c := hr
    refine ed_countC hr.ok hcl ?_
    have hcc : (cmps ls q).count c ≤ 4000 := Nat.le_trans List.count_le_length hel
    refine ed_mulI (Sp.mulW (by omega) (by omega)) ?_
    walk_at "e"
    refine gives_rt ?_
    rw [List.length_map]
    rfl
def inP (p : Int) (x : Int × Rs) : Prop := 0 ≤ x.1 ∧ x.1 < p
theorem nodup_count {ns : List Int} : (ns.filter fun q => decide (ns.count q > 1)) = [] ↔ ns.Nodup := by
  rw [List.filter_eq_nil_iff, List.nodup_iff_count]
  constructor
  · intro h q
    by_cases hq : q ∈ ns
    · have := h q hq
      simp only [decide_eq_true_eq] at this
      omega
    · rw [List.count_eq_zero_of_not_mem hq]; omega
  · intro h q _
    have := h q
    simp only [decide_eq_true_eq]
    omega
theorem pairs_of (f : Int × Rs → Int) : ∀ pr : List (Int × Rs), dPairs (pr.map fun x => .tuple [.int x.1, .int (f x)]) = some (pr.map fun x => (.inl x.1, .int (f x)))
  | [] => rfl
  | x :: pr => by
    rw [List.map_cons, dPairs, pairs_of f pr]
    rfl
theorem merge_all (f : Int × Rs → Int) : ∀ (pr : List (Int × Rs)) (acc : List (Key × R)), mergeR acc (pr.map fun x => (.inl x.1, .int (f x))) = putAll (fun x => .inl x.1) (fun x => .int (f x)) pr acc
  | [], acc => rfl
  | x :: pr, acc => by
    rw [List.map_cons]
    exact merge_all f pr _
theorem vals_of (f : Int × Rs → Int) : ∀ pr : List (Int × Rs), intVals (pr.map fun x => ((.inl x.1 : Key), R.dat (.int (f x)))) = some (pr.map f)
  | [] => rfl
  | x :: pr => by
    rw [List.map_cons, intVals, vals_of f pr]
    rfl
theorem keys_nd {pr : List (Int × Rs)} (nd : (pr.map (·.1)).Nodup) : (pr.map fun x : Int × Rs => (Sum.inl x.1 : Key)).Nodup := by
  have e : (pr.map fun x : Int × Rs => (Sum.inl x.1 : Key)) = (pr.map (·.1)).map Sum.inl := by rw [List.map_map]; rfl
  rw [e]
  exact List.Pairwise.map _ (fun a b hab z => hab (Sum.inl.inj z)) nd
theorem num_law (p : Int) (ls : List Ln) (pr : List (Int × Rs)) : ((usedL p ls).map fun u => max 1 ((gotSum p ls pr u + 1) / 2)).sum = numW p ls pr := by
  unfold numW
  exact (perm_sum ((used_perm p ls).map _)).symm
theorem ev_chainI {S : Sx} {p1 p2 : Int → Int → Bool} {ga gb gc : M D} {Q : D → Sx → Prop} {a b c : Int} (h1 : ga S = some (.int a, S)) (h2 : gb S = some (.int b, S)) (h3 : gc S = some (.int c, S)) (q : Q (.bool (p1 a b && p2 b c)) S) : Ev (gChain (dCmp p1) (dCmp p2) ga gb gc S) Q := by
  refine ⟨_, S, ?_, q⟩
  simp only [gChain, h1, h2, h3, Option.bind_some, dCmp]
  cases p1 a b with
  | true => simp
  | false => simp
theorem x__law_number {p : Int} {ls : List Ln} (h : WbOk p ls) (hl : ls.length < 64) (p1 : p ≤ 1000000) {pr : List (Int × Rs)} (hr : ∀ x ∈ pr, RsOk x.2) (hz : pr.length ≤ 4000) :
    m__law_number [wb p ls, .list (pr.map prT)] = some (if ∀ x ∈ pr, goodR p ls x = true then if (pr.map (·.1)).Nodup then .int (numW p ls pr) else .none else .none) := by
  have p0 := h.p0
  have hb := wb_bounds h
  unfold m__law_number; refine mF_of ?_; walk_at "i"; unfold g__law_number
  walk_at "e"
  refine ev_lcX (xs := pr) (enc := prT) (b := fun _ => true) (g := fun x => .int x.1) ?_
  walk_at "e"
  refine ⟨rfl, fun x hx => ?_, ?_⟩
  · refine es_tup2 (d := .int x.1) (e := rsD x.2) ?_
    walk_at "e"
    refine ⟨rfl, rfl, fun _ => ?_⟩
    walk_at "e"
  · rw [filter_tt]
    walk_at "e"
    rw [show (pr.map fun x => PyData.int x.1) = (pr.map (·.1)).map .int by rw [List.map_map]; rfl]
    refine ev_lcX (xs := pr.map (·.1)) (enc := .int) (b := fun q => !(decide (0 ≤ q) && decide (q < p)) || decide ((pr.map (·.1)).count q > 1)) (g := .int) ?_
    walk_at "e"
    refine ⟨rfl, fun q hq => ?_, ?_⟩
    · walk_at "e"
      refine ev_chainI rfl rfl rfl ?_
      refine ⟨_, rfl, fun hin => ?_, fun hin => ?_⟩
      · walk_at "e"
        refine ed_countI ?_
        walk_at "e"
        refine ⟨rfl, by
          rw [hin, Bool.false_or, decide_eq_decide]
          omega, fun _ => ?_⟩
        walk_at "e"
      · refine ⟨rfl, by rw [show (decide (0 ≤ q) && decide (q < p)) = false by cases hx : (decide (0 ≤ q) && decide (q < p)) with | false => rfl | true => (rw [hx] at hin; cases hin)]; rfl, fun _ => ?_⟩
        walk_at "e"
    · walk_at "e"
      refine ed_ne_nil (n := 0) (fun d hd => by obtain ⟨i, _, rfl⟩ := List.mem_map.mp hd; exact fine_int _) ?_
      walk_at "e"
      have hnil : ((pr.map (·.1)).filter fun q => !(decide (0 ≤ q) && decide (q < p)) || decide ((pr.map (·.1)).count q > 1)) = [] ↔ (∀ x ∈ pr, inP p x) ∧ (pr.map (·.1)).Nodup := by
        rw [← nodup_count, List.filter_eq_nil_iff, List.filter_eq_nil_iff]
        simp only [Bool.or_eq_true, Bool.not_eq_true', Bool.and_eq_false_iff, decide_eq_false_iff_not, decide_eq_true_eq, not_or]
        constructor
        · intro z
          refine ⟨fun x hx => ?_, fun q hq => (z q hq).2⟩
          have := (z x.1 (List.mem_map.mpr ⟨x, hx, rfl⟩)).1
          unfold inP
          omega
        · rintro ⟨z1, z2⟩ q hq
          refine ⟨?_, z2 q hq⟩
          obtain ⟨x, hx, rfl⟩ := List.mem_map.mp hq
          have := z1 x hx
          unfold inP at this
          omega
      refine ⟨fun hne => ?_, fun he => ?_⟩
      · walk_at "e"
        refine gives_rt ?_
        have hno : ¬ ((∀ x ∈ pr, inP p x) ∧ (pr.map (·.1)).Nodup) := fun z => by
          have := hnil.mpr z
          rw [this] at hne
          simp at hne
        by_cases hg : ∀ x ∈ pr, goodR p ls x = true
        · rw [if_pos hg, if_neg]
          exact fun nd => hno ⟨fun x hx => ⟨(goodR_of (hg x hx)).1, (goodR_of (hg x hx)).2.1⟩, nd⟩
        · rw [if_neg hg]
      · have he : ((pr.map (·.1)).filter fun q => !(decide (0 ≤ q) && decide (q < p)) || decide ((pr.map (·.1)).count q > 1)) = [] := by simpa using he
        obtain ⟨hin, nd⟩ := hnil.mp he
        walk_at "e"
        refine eo_setD ?_
        refine ev_dictP ?_
        walk_at "e"
        refine ev_lcX (xs := pr) (enc := prT) (b := fun _ => true) (g := fun x => .tuple [.int x.1, .int (shn ls x.1 x.2)]) ?_
        walk_at "e"
        refine ⟨rfl, fun x hx => ?_, ?_⟩
        · refine es_tup2 (d := .int x.1) (e := rsD x.2) ?_
          walk_at "e"
          refine ⟨rfl, rfl, fun _ => ?_⟩
          walk_at "e"
          refine Ed.of (x__law_shown h (by omega) (hr x hx)) ?_
          walk_at "e"
        · rw [filter_tt]
          walk_at "e"
          refine ⟨_, _, rfl, pairs_of (fun x => shn ls x.1 x.2) pr, ?_⟩
          rw [merge_all (fun x => shn ls x.1 x.2) pr [], putAll_nd (keys_nd nd) (fun _ _ => by simp), List.nil_append]
          walk_at "e"
          refine ev_inV ?_
          walk_at "e"
          refine ⟨_, _, _, rfl, rfl, vals_of (fun x => shn ls x.1 x.2) pr, ?_⟩
          refine ⟨_, rfl, fun h0 => ?_, fun h0 => ?_⟩
          · walk_at "e"
            refine gives_rt ?_
            rw [if_neg]
            intro hg
            have h0 : (0 : Int) ∈ pr.map fun x => shn ls x.1 x.2 := by simpa using h0
            obtain ⟨x, hx, e⟩ := List.mem_map.mp h0
            have := (goodR_of (hg x hx)).2.2
            omega
          · have hg : ∀ x ∈ pr, goodR p ls x = true := fun x hx => by
              refine decide_eq_true ⟨(hin x hx).1, (hin x hx).2, ?_⟩
              have h0 : ¬ (0 : Int) ∈ pr.map fun x => shn ls x.1 x.2 := by
                intro z
                rw [List.contains_iff_mem.mpr z] at h0
                cases h0
              have := shn_nn ls x.1 x.2
              have hne : shn ls x.1 x.2 ≠ 0 := fun e => h0 (List.mem_map.mpr ⟨x, hx, e⟩)
              omega
            rw [if_pos hg, if_pos nd]
            walk_at "e"
            refine ev_lcX (xs := usedL p ls) (enc := fun u => liD (placesAt p ls u)) (b := fun _ => true) (g := fun u => .int (max 1 ((gotSum p ls pr u + 1) / 2))) ?_
            walk_at "e"
            refine Ed.of (x__law_parts h hl p1) ?_
            walk_at "e"
            refine ⟨rfl, fun u hu => ?_, ?_⟩
            · walk_at "e"
              refine ⟨rfl, rfl, fun _ => ?_⟩
              walk_at "e"
              refine ev_lcX (xs := placesAt p ls u) (enc := iD) (b := fun _ => true) (g := fun i : Nat => .int (gotAt ls pr i)) ?_
              walk_at "e"
              unfold liD
              walk_at "e"
              refine ⟨rfl, fun i hi => ?_, ?_⟩
              · walk_at "e"
                refine ⟨rfl, rfl, fun _ => ?_⟩
                refine ev_dget ⟨_, rfl, ?_⟩
                walk_at "e"
                exact get_pairs (Q := fun z => z = .int (gotAt ls pr i) ∧ _ = _) ⟨rfl, rfl⟩
              · rw [filter_tt]
                walk_at "e"
                rw [show ((placesAt p ls u).map fun i : Nat => PyData.int (gotAt ls pr i)) = ((placesAt p ls u).map fun i : Nat => gotAt ls pr i).map .int from (by rw [List.map_map]; rfl)]
                refine ed_sumI ?_
                walk_at "e"
                have := gotSum_nn p ls pr u
                refine ed_divI ⟨by unfold gotSum at this; omega, by decide⟩ ?_
                walk_at "e"
            · rw [filter_tt]
              walk_at "e"
              rw [show ((usedL p ls).map fun u => PyData.int (max 1 ((gotSum p ls pr u + 1) / 2))) = ((usedL p ls).map fun u => max 1 ((gotSum p ls pr u + 1) / 2)).map .int from (by rw [List.map_map]; rfl)]
              refine ed_sumI ?_
              rw [num_law]
              walk_at "e"
end Lw

set_option maxHeartbeats 4000000
namespace Lw
open PySem Fu
local macro_rules | `(tactic| walk_at "e1") => `(tactic| first
  | with_reducible refine eo_seq ?_ | (with_reducible refine then_nx' ?_; refine ⟨?_, ?_, ?_⟩; rotate_left; · (try dsimp only [List.set, List.length_cons, List.length_nil, List.cons_append, List.nil_append, Nat.zero_add, Nat.reduceAdd]); exact rfl) | with_reducible refine then_rt ?_ | with_reducible refine eo_if ?_ | with_reducible refine eo_ret ?_ | with_reducible refine eo_set ?_ | with_reducible refine eo_asg ?_ | with_reducible refine eo_drop ?_ | with_reducible refine eo_nx ?_ | with_reducible refine eo_par ?_ | with_reducible refine eo_own ?_ | with_reducible refine eo_retN ?_ | with_reducible refine eo_for ?_ | with_reducible refine eo_retO ?_
  | with_reducible refine ev_c ?_ | (with_reducible refine ev_var ?_; refine ⟨_, rfl, ?_⟩) | with_reducible refine ev_bin ?_ | with_reducible refine ev_un ?_ | with_reducible refine ev_nil ?_ | with_reducible refine ev_cons ?_
  | with_reducible refine ev_tup ?_ | with_reducible refine ev_lst ?_ | with_reducible refine ev_call ?_ | with_reducible refine ev_callF ?_ | with_reducible refine ev_isi ?_ | with_reducible refine ev_isi2 ?_ | with_reducible refine ev_andV ?_ | with_reducible refine ev_orV ?_ | with_reducible refine ev_notV ?_
  | with_reducible refine ev_B ?_ | with_reducible refine ev_and ?_ | with_reducible refine ev_or ?_ | with_reducible refine ev_not ?_ | with_reducible refine ev_yes ?_ | with_reducible refine ev_if ?_ | with_reducible refine ev_no ?_ | with_reducible refine ev_so ?_ | with_reducible refine ev_sl ?_ | with_reducible refine ev_items ?_
  | (with_reducible refine ev_ixO ?_; refine ⟨_, _, rfl, rfl, ?_⟩) | (with_reducible refine ev_varO ?_; refine ⟨_, _, rfl, rfl, ?_⟩) | (with_reducible refine ev_lenO ?_; refine ⟨_, _, rfl, rfl, ?_⟩) | (with_reducible refine ev_scrSl ?_; refine ⟨_, rfl, ?_⟩) | (with_reducible refine ev_scrLen ?_; refine ⟨_, rfl, ?_⟩) | (with_reducible refine ev_callScr ?_; refine ⟨_, rfl, ?_⟩) | (with_reducible refine ev_OL ?_; refine ⟨_, _, rfl, rfl, ?_⟩) | with_reducible refine ev_OR ?_ | with_reducible refine ev_rep ?_ | with_reducible refine ev_listRng1 ?_ | with_reducible refine eo_setO ?_
  | with_reducible refine es_name ?_ | with_reducible refine es_tup2 ?_ | with_reducible refine es_tup3 ?_
  | with_reducible refine ed_addI ?_ | with_reducible refine ed_subI ?_ | with_reducible refine ed_cmp ?_ | with_reducible refine ed_eqI ?_ | with_reducible refine ed_neI ?_ | with_reducible refine ed_slT ?_ | with_reducible refine ed_slL ?_ | with_reducible refine ed_lenT ?_ | with_reducible refine ed_lenL ?_ | with_reducible refine ed_lenS ?_ | with_reducible refine ed_inS ?_ | with_reducible refine ed_itT ?_ | with_reducible refine ed_itL ?_ | with_reducible refine ed_tupL ?_ | with_reducible refine ed_tupT ?_ | with_reducible refine ed_listL ?_ | with_reducible refine ed_listT ?_ | with_reducible refine ed_neg ?_ | with_reducible refine ed_max ?_ | with_reducible refine ed_min ?_ | with_reducible refine ed_intB ?_
  | with_reducible refine ev_rng1 ?_ | with_reducible refine ev_rng2 ?_)
local macro_rules | `(tactic| walk_at "sd") => `(tactic| first | rfl | assumption | (simp only [decide_eq_true_eq, decide_eq_false_iff_not, Bool.not_eq_true', Bool.not_eq_false', Bool.and_eq_true, Bool.or_eq_true, List.length_map, List.length_cons, List.length_nil, List.length_append, List.length_range] at *; omega))
local macro_rules | `(tactic| walk_at "e2") => `(tactic| first
  | walk_at "e1" | with_reducible refine ⟨_, rfl, ?_⟩ | with_reducible refine ⟨_, _, rfl, ?_⟩
  | with_reducible refine And.intro (Eq.refl (List.length _)) ?_ | with_reducible refine And.intro (Nat.le_of_ble_eq_true (n := List.length _) rfl) ?_
  | with_reducible refine And.intro (Eq.refl (_ : Sx)) (?_ : Ed _ _)
  | ((with_reducible refine And.intro ?_ (And.intro ?_ (?_ : Ev _ _))); (· rfl); (· rfl))
  | ((with_reducible refine ed_ixTx ?_); refine ⟨_, by decide, rfl, ?_⟩) | ((with_reducible refine ed_ixLx ?_); refine ⟨_, by decide, rfl, ?_⟩) | ((with_reducible refine es_star ?_))
  | with_reducible refine an_tt ?_ | with_reducible refine an_ft ?_ | with_reducible refine an_tf ?_ | with_reducible refine an_ff ?_ | with_reducible refine an_ntt ?_ | with_reducible refine an_nft ?_ | with_reducible refine an_ntf ?_ | with_reducible refine an_nff ?_
  | ((with_reducible refine ed_dneSelf ?_)) | ((with_reducible refine ed_deqSelf ?_))
  | ((with_reducible refine ed_ixT ?_ ?_ ?_); (· decide); (· rfl)) | ((with_reducible refine ed_ixL ?_ ?_ ?_); (· decide); (· rfl)) | ((with_reducible refine ed_at ?_ ?_ ?_); (· decide); (· rfl))
  | ((with_reducible refine ed_modI ?_ ?_); (· first | decide | omega))
  | with_reducible exact gives_nx | ((with_reducible refine gives_rt ?_); (· rfl)) | ((with_reducible refine And.intro ?_ ?_); (· exact rfl); (· with_reducible exact Eq.refl (_ : Sx))))
local macro_rules | `(tactic| walk_at "e") => `(tactic| repeat walk_at "e2")
/-- begin a def's spec -/
local macro_rules | `(tactic| walk_at "i") => `(tactic| simp only [initS, List.map_cons, List.map_nil, List.length_cons, List.length_nil, Nat.reduceAdd, Nat.reduceSub, List.replicate, List.cons_append, List.nil_append])
/-- a known truth decides -/
local macro_rules | `(tactic| walk_at "t") => `(tactic| first | ((with_reducible refine split_t ?_ ?_); (· walk_at "sd")) | ((with_reducible refine split_t' ?_ ?_); (· walk_at "sd")))
local macro_rules | `(tactic| walk_at "f") => `(tactic| first | ((with_reducible refine split_f ?_ ?_); (· walk_at "sd")) | ((with_reducible refine split_f' ?_ ?_); (· walk_at "sd")))
/-- all that is seen in a look -/
local macro_rules | `(tactic| walk_at "v") => `(tactic| (rw [sealAll_mk (by (simp only [List.set_cons_zero, List.set_cons_succ, List.map_cons, List.map_nil, sealS_none, sealS_dat, sealS_scr, sealS_own, List.getElem?_cons_zero, List.getElem?_cons_succ, sealC_lst]; rfl)) (by (simp only [List.set_cons_zero, List.set_cons_succ, List.map_cons, List.map_nil]; rfl))]))
open Lw.Sp Pt Gr
/-! #### papers drawn -/
def Pr (p : Int) (d : D) : Prop := ∃ x : Int × Rs, d = prT x ∧ RsOk x.2 ∧ -1 ≤ x.1 ∧ x.1 ≤ p
def rs6 : List Rs := [some 97, some 98, some 99, some 100, some 122, none]
theorem rs6_ok : ∀ r ∈ rs6, RsOk r := by
  intro r hr
  simp only [rs6, List.mem_cons, List.not_mem_nil, or_false] at hr
  rcases hr with rfl | rfl | rfl | rfl | rfl | rfl
  · exact ⟨by decide, by decide⟩
  · exact ⟨by decide, by decide⟩
  · exact ⟨by decide, by decide⟩
  · exact ⟨by decide, by decide⟩
  · exact ⟨by decide, by decide⟩
  · trivial
theorem rs6_map : rs6.map rsD = [.str "a", .str "b", .str "c", .str "d", .str "z", .str "odd"] := rfl
theorem fine_rs {r : Rs} (h : RsOk r) : Fine 0 (rsD r) := by
  cases r with
  | none => exact ⟨by decide +kernel, by decide +kernel⟩
  | some c => exact fine_ch (Let.ok h)
theorem prs_of {p : Int} : ∀ {ds : List D}, (∀ d ∈ ds, Pr p d) → ∃ pr : List (Int × Rs), ds = pr.map prT ∧ ∀ x ∈ pr, RsOk x.2 ∧ -1 ≤ x.1 ∧ x.1 ≤ p
  | [], _ => ⟨[], rfl, (fun _ h => nomatch h)⟩
  | d :: ds, h => by
    obtain ⟨x, rfl, hx⟩ := h d List.mem_cons_self
    obtain ⟨pr, rfl, hp⟩ := prs_of fun y hy => h y (List.mem_cons_of_mem _ hy)
    refine ⟨x :: pr, rfl, fun y hy => ?_⟩
    rcases List.mem_cons.mp hy with rfl | hy
    · exact hx
    · exact hp y hy
theorem x__law_paper {c : Nat} {cs : List D} {p : Int} {ls : List Ln} (h : WbOk p ls) (hl : ls.length ≤ 1000) (p1 : p ≤ 24) (hR : Reel c cs) (hc : 200 ≤ c) :
    ∃ (pr : List (Int × Rs)) (cs' : List D), m__law_paper cs [wb p ls] = some (.list (pr.map prT), cs') ∧ (∀ x ∈ pr, RsOk x.2 ∧ -1 ≤ x.1 ∧ x.1 ≤ p) ∧ pr.length ≤ 25 ∧ Reel (c - 200) cs' := by
  have p0 := h.p0
  suffices hs : ∃ d cs', m__law_paper cs [wb p ls] = some (d, cs') ∧ ∃ ds, d = .list ds ∧ (∀ d ∈ ds, Pr p d) ∧ ds.length ≤ 25 ∧ Reel (c - 200) cs' by
    obtain ⟨d, cs', e, ds, rfl, h1, h2, h3⟩ := hs
    obtain ⟨pr, rfl, hp⟩ := prs_of h1
    exact ⟨pr, cs', e, hp, by rwa [List.length_map] at h2, h3⟩
  unfold m__law_paper; refine mIO_of ?_; walk_at "i"; unfold g__law_paper
  walk_at "e"
  refine ed_at (i := 0) (by decide) rfl ?_
  walk_at "e"
  refine ⟨by omega, by omega, ?_⟩
  refine eo_loop (fun i S => ∃ x3 x4 x5 x6 cs ds, S = ⟨[some (.own 0), some (.dat (wb p ls)), some (.own 1), x3, x4, x5, x6], [some (.lst cs), some (.lst ds)]⟩ ∧ (∀ d ∈ ds, Pr p d) ∧ ds.length ≤ i ∧ Reel (c - 2 * i) cs) ⟨_, _, _, _, _, _, rfl, (fun _ h => nomatch h), Nat.le_refl _, hR⟩ ?_ ?_
  · rintro i z S hz ⟨x3, x4, x5, x6, cs, ds, rfl, hds, hdl, hR⟩
    obtain ⟨hi, rfl⟩ := rng_at hz
    walk_at "e"
    refine ev_lcX (xs := rs6) (enc := rsD) (b := fun r => decide (shn ls (0 + (i : Int)) r > 0)) (g := rsD) ?_
    walk_at "e"
    refine ⟨rs6_map.symm, fun r hr => ?_, ?_⟩
    · walk_at "e"
      refine Ed.of (x__law_shown h hl (rs6_ok r hr)) ?_
      walk_at "e"
      refine ⟨rfl, rfl, fun _ => ?_⟩
      walk_at "e"
    · have hgo : ∀ r ∈ rs6.filter fun r => decide (shn ls (0 + (i : Int)) r > 0), RsOk r := fun r hr => rs6_ok r (List.mem_filter.mp hr).1
      have hgl : (rs6.filter fun r => decide (shn ls (0 + (i : Int)) r > 0)).length ≤ 6 := List.length_filter_le _ _
      generalize (rs6.filter fun r => decide (shn ls (0 + (i : Int)) r > 0)) = good at hgo hgl
      walk_at "e"
      refine ed_ne_nil (n := 0) (fun d hd => by obtain ⟨r, hr, rfl⟩ := List.mem_map.mp hd; exact fine_rs (hgo r hr)) ?_
      refine ⟨_, rfl, fun hne => ?_, fun he => ?_⟩
      · walk_at "e"
        have hg0 : 0 < good.length := by
          cases good with
          | nil => simp at hne
          | cons a l => exact Nat.succ_pos _
        refine ev_drawR ⟨_, rfl, ?_⟩
        walk_at "e"
        refine ⟨_, _, _, rfl, rfl, hR, by omega, by decide, by decide, fun v cs a b hR => ?_⟩
        walk_at "e"
        refine ⟨fun hv => ?_, fun hv => ?_⟩
        · walk_at "e"
          refine ev_app ⟨_, _, rfl, rfl, ?_⟩
          walk_at "e"
          refine ev_drawR ⟨_, rfl, ?_⟩
          walk_at "e"
          refine ⟨_, _, _, rfl, rfl, hR, by omega, by rw [List.length_map]; omega, by rw [List.length_map]; omega, fun v2 cs a2 b2 hR => ?_⟩
          rw [List.length_map] at b2
          have hv2 : v2.toNat < good.length := by omega
          refine ed_ixL a2 (d := rsD good[v2.toNat]) (by rw [List.getElem?_map, List.getElem?_eq_getElem hv2]; rfl) ?_
          walk_at "e"
          refine ⟨by omega, _, rfl, _, _, _, _, _, _, rfl, fun d hd => ?_, by rw [List.length_append, List.length_singleton]; omega, hR.mono (by omega)⟩
          rcases List.mem_append.mp hd with hd | hd
          · exact hds d hd
          · rw [List.mem_singleton.mp hd]
            exact ⟨(0 + (i : Int), good[v2.toNat]), rfl, hgo _ (List.getElem_mem hv2), by show -1 ≤ 0 + (i : Int); omega, by show 0 + (i : Int) ≤ p; omega⟩
        · walk_at "e"
          exact ⟨_, _, _, _, _, _, rfl, hds, by omega, hR.mono (by omega)⟩
      · walk_at "e"
        exact ⟨_, _, _, _, _, _, rfl, hds, by omega, hR.mono (by omega)⟩
  · rintro S ⟨x3, x4, x5, x6, cs, ds, rfl, hds, hdl, hR⟩
    rw [rng_len] at hdl hR
    have tail : ∀ (x3 x4 x5 x6 : Option R) (cs ds : List D), (∀ d ∈ ds, Pr p d) → ds.length ≤ 25 → Reel (c - 60) cs → Ev (gLc (gRng1 (gCons (gLenO 2) gNil)) (sName 6) gYes (gPopAt 2 (gIO 0 1 m__law_draw_k15 (gCons (gLenO 2) gNil))) [6] ⟨[some (.own 0), some (.dat (wb p ls)), some (.own 1), x3, x4, x5, x6], [some (.lst cs), some (.lst ds)]⟩) fun d S => ∃ ds' cs' rest, d = .list ds' ∧ (∀ d ∈ ds', Pr p d) ∧ ds'.length ≤ 25 ∧ S.sl = [some (.own 0), some (.dat (wb p ls)), some (.own 1), x3, x4, x5, x6] ∧ S.os = some (.lst cs') :: rest ∧ Reel (c - 200) cs' := by
      intro x3 x4 x5 x6 cs ds hds hdl hR
      refine ev_lcA (fun acc os => ∃ cs left, os = [some (.lst cs), some (.lst left)] ∧ (∀ d ∈ left, Pr p d) ∧ (∀ d ∈ acc, Pr p d) ∧ acc.length + left.length = ds.length ∧ Reel (c - 60 - acc.length) cs) ?_
      walk_at "e"
      refine ⟨by omega, by omega, ⟨cs, ds, rfl, hds, (fun _ h => nomatch h), by simp, by simpa using hR⟩, ?_, ?_⟩
      · rintro i d acc os hd ha ⟨cs, left, rfl, hL1, hA, hlen, hR⟩
        obtain ⟨hi, rfl⟩ := rng_at hd
        walk_at "e"
        refine ev_popAt ⟨_, _, rfl, rfl, ?_⟩
        walk_at "e"
        refine ev_drawR ⟨_, rfl, ?_⟩
        walk_at "e"
        refine ⟨_, _, _, rfl, rfl, hR, by omega, by omega, by omega, fun v cs a b hR => ?_⟩
        have hv : v.toNat < left.length := by omega
        refine ⟨_, _, rfl, rfl, a, left[v.toNat], List.getElem?_eq_getElem hv, ?_⟩
        walk_at "e"
        refine ⟨rfl, _, _, rfl, fun d hd => hL1 d (List.mem_of_mem_eraseIdx hd), fun d hd => ?_, ?_, by rw [List.length_append, List.length_singleton]; exact hR.mono (by omega)⟩
        · rcases List.mem_append.mp hd with hd | hd
          · exact hA d hd
          · rw [List.mem_singleton.mp hd]; exact hL1 _ (List.getElem_mem hv)
        · rw [List.length_append, List.length_singleton, List.length_eraseIdx, if_pos hv]
          omega
      · rintro acc os hl2 ⟨cs, left, rfl, hL1, hA, hlen, hR⟩
        rw [rng_len] at hl2
        exact ⟨acc, cs, _, rfl, hA, by omega, rfl, rfl, hR.mono (by omega)⟩
    walk_at "e"
    refine ev_drawR ⟨_, rfl, ?_⟩
    walk_at "e"
    refine ⟨_, _, _, rfl, rfl, hR, by omega, by decide, by decide, fun v cs a b hR => ?_⟩
    walk_at "e"
    refine ⟨fun hv => ?_, fun hv => ?_⟩
    · walk_at "e"
      refine ev_app ⟨_, _, rfl, rfl, ?_⟩
      walk_at "e"
      refine ev_drawR ⟨_, rfl, ?_⟩
      walk_at "e"
      refine ed_at (i := 0) (by decide) rfl ?_
      walk_at "e"
      refine ⟨_, _, _, rfl, rfl, hR, by omega, by omega, by omega, fun v2 cs a2 b2 hR => ?_⟩
      walk_at "e"
      refine ev_drawR ⟨_, rfl, ?_⟩
      walk_at "e"
      refine ⟨_, _, _, rfl, rfl, hR, by omega, by decide, by decide, fun v3 cs a3 b3 hR => ?_⟩
      refine ed_pick (P := fun d => ∃ r, d = rsD r ∧ RsOk r) a3 b3 (fun d hd => ?_) ?_
      · simp only [List.mem_cons, List.not_mem_nil, or_false] at hd
        rcases hd with rfl | rfl | rfl | rfl | rfl
        · exact ⟨some 97, rfl, by decide, by decide⟩
        · exact ⟨some 98, rfl, by decide, by decide⟩
        · exact ⟨some 122, rfl, by decide, by decide⟩
        · exact ⟨none, rfl, trivial⟩
        · exact ⟨some 113, rfl, by decide, by decide⟩
      rintro _ ⟨r, rfl, hr⟩
      walk_at "e"
      refine ⟨by omega, ?_⟩
      walk_at "e"
      refine (tail _ _ _ _ cs _ (fun d hd => ?_) (by rw [List.length_append, List.length_singleton]; omega) (hR.mono (by omega))).mono ?_
      · rcases List.mem_append.mp hd with hd | hd
        · exact hds d hd
        · rw [List.mem_singleton.mp hd]
          exact ⟨(v2 - 1, r), rfl, hr, by show -1 ≤ v2 - 1; omega, by show v2 - 1 ≤ p; omega⟩
      · rintro d S ⟨ds', cs', rest, rfl, h1, h2, h3, h4, h5⟩
        exact ⟨cs', by unfold Fu.cellOf; rw [h4]; rfl, _, rfl, h1, h2, h5⟩
    · walk_at "e"
      refine (tail _ _ _ _ cs _ hds (by omega) (hR.mono (by omega))).mono ?_
      rintro d S ⟨ds', cs', rest, rfl, h1, h2, h3, h4, h5⟩
      exact ⟨cs', by unfold Fu.cellOf; rw [h4]; rfl, _, rfl, h1, h2, h5⟩
/-! #### how great a number can be -/
theorem cmps_len (ls : List Ln) (q : Int) : (cmps ls q).length ≤ 2 * ls.length := by
  unfold cmps
  rw [List.length_map]
  exact Nat.le_trans (List.length_filter_le _ _) (by rw [allE_len]; omega)
theorem shn_le (ls : List Ln) (q : Int) (r : Rs) : shn ls q r ≤ 2 * ls.length := by
  have hl := cmps_len ls q
  cases r with
  | none =>
    show ((cmps ls q).length : Int) % 2 ≤ _
    omega
  | some c =>
    have hc : (cmps ls q).count c ≤ (cmps ls q).length := List.count_le_length
    show max 0 (2 * ((cmps ls q).count c : Int) - (cmps ls q).length) ≤ _
    omega
theorem gotAt_le (ls : List Ln) (pr : List (Int × Rs)) (q : Int) : gotAt ls pr q ≤ 2 * ls.length := by
  unfold gotAt
  split
  · exact shn_le _ _ _
  · omega
theorem numW_small {p : Int} {ls : List Ln} (hl : ls.length ≤ 100) (p1 : p < 64) (pr : List (Int × Rs)) : (numW p ls pr).natAbs < 10 ^ 12 := by
  have h1 : ∀ u, gotSum p ls pr u ≤ 64 * 200 := fun u => by
    have h := sum_le_len (f := fun i : Nat => gotAt ls pr i) (k := 200) (by decide) (placesAt p ls u) fun i _ => by have := gotAt_le ls pr i; omega
    have := placesAt_len p ls u
    unfold gotSum
    refine Int.le_trans h ?_
    omega
  have h2 := sum_le_len (f := fun u => max 1 ((gotSum p ls pr u + 1) / 2)) (k := 64 * 200) (by decide) (uss p ls) fun u _ => by have := h1 u; omega
  have h3 : 0 ≤ numW p ls pr := sum_nn fun u _ => by omega
  have h4 := uss_len p ls
  have h5 : numW p ls pr ≤ 100 * (64 * 200) := by
    unfold numW
    refine Int.le_trans h2 ?_
    omega
  omega
theorem num_nil (p : Int) (ls : List Ln) : numW p ls [] = (usedL p ls).length := by
  have e : ∀ u, max 1 ((gotSum p ls [] u + 1) / 2) = 1 := fun u => by
    have : gotSum p ls [] u = 0 := by
      unfold gotSum
      rw [show ((placesAt p ls u).map fun i : Nat => gotAt ls [] i) = (placesAt p ls u).map fun _ => (0 : Int) from rfl]
      induction placesAt p ls u with
      | nil => rfl
      | cons a l ih => rw [List.map_cons, List.sum_cons, ih]; rfl
    rw [this]; rfl
  rw [(used_perm p ls).length_eq.symm]
  unfold numW
  simp only [e]
  induction uss p ls with
  | nil => rfl
  | cons a l ih => rw [List.map_cons, List.sum_cons, ih, List.length_cons]; omega
/-! #### things that are no papers -/
theorem bad_elem {w n : D} {ds : List D} (s : Sq n ds) (hf : ∀ d ∈ ds, ∃ b, m_is_reason [w, d] = some (.bool b)) (hb : ∃ d ∈ ds, m_is_reason [w, d] = some (.bool false)) : m_shown_by [w, n] = some .none := by
  refine x_shown_bad (xs := ds) (enc := id) (by rwa [List.map_id]) (fun d => match m_is_reason [w, d] with | some (.bool b) => b | _ => false) (fun d hd => ?_) ?_
  · obtain ⟨b, e⟩ := hf d hd
    show m_is_reason [w, d] = _
    rw [e]
  · obtain ⟨d, hd, e⟩ := hb
    rw [← Bool.not_eq_true]
    intro z
    have := List.all_eq_true.mp z d hd
    rw [e] at this
    cases this
def prL (x : Int × Rs) : D := .list [.int x.1, rsD x.2]
theorem lists_paper (pr : List (Int × Rs)) : listsD (.list (pr.map prT)) = .list (pr.map prL) := by
  rw [lists_sq (sq_l _), List.map_map]
  congr 1
  refine List.map_congr_left fun x _ => ?_
  show listsD (.tuple [.int x.1, rsD x.2]) = _
  have e : listsD (rsD x.2) = rsD x.2 := by cases x.2 <;> rfl
  rw [lists_sq (sq_t _)]
  show PyData.list [listsD (.int x.1), listsD (rsD x.2)] = _
  rw [e]
  rfl
theorem shw_rs {r : Rs} (h : RsOk r) : Shw 0 40 (rsD r) := by
  cases r with
  | none => exact ⟨by decide +kernel, by decide +kernel, by decide +kernel, by decide +kernel, by decide +kernel⟩
  | some c => exact shw_ch (Let.ok h)
theorem shw_pr {d : D} {x : Int × Rs} (s : Sq d [.int x.1, rsD x.2]) (h1 : x.1.natAbs < 10 ^ 12) (h2 : RsOk x.2) : Shw 1 82 d := by
  refine (shw_sq (n := 0) (m := 40) s fun y hy => ?_ : Shw (0 + 1) ([PyData.int x.1, rsD x.2].length * (40 + 1)) d)
  simp only [List.mem_cons, List.not_mem_nil, or_false] at hy
  rcases hy with rfl | rfl
  · exact shw_int h1
  · exact shw_rs h2
theorem shw_paper {enc : Int × Rs → D} {pr : List (Int × Rs)} (he : ∀ x ∈ pr, Sq (enc x) [.int x.1, rsD x.2]) (h : ∀ x ∈ pr, x.1.natAbs < 10 ^ 12 ∧ RsOk x.2) : Shw 2 (pr.length * 83) (.list (pr.map enc)) := by
  have := shw_list (ds := pr.map enc) (n := 1) (m := 82) fun d hd => by
    obtain ⟨x, hx, rfl⟩ := List.mem_map.mp hd
    exact shw_pr (he x hx) (h x hx).1 (h x hx).2
  rwa [List.length_map] at this
end Lw

set_option maxHeartbeats 16000000
namespace Lw.k28
open PySem PySem.Spec PyProof.Rows L2 RZ Fu Lw
variable [TabsC]
def topS (i : Nat) : Stmt := PySem.Challenge.pw_changeride_k28_papers_judged.main.body.getD i (.Pass ⟨0, 0, 0, 0⟩)
abbrev s__law_spring : Stmt := topS 24
theorem sc__law_spring : FnScope ["script", "figures", "stir", "cell"] ["script"] (defScope s__law_spring) := ⟨rfl, rfl, rfl, by decide +kernel, rfl, by decide +kernel, by decide +kernel⟩
abbrev s__law_draw : Stmt := topS 25
theorem sc__law_draw : FnScope ["spring", "many", "found", "stir"] ["spring", "many"] (defScope s__law_draw) := ⟨rfl, rfl, rfl, by decide +kernel, rfl, by decide +kernel, by decide +kernel⟩
abbrev s__law_web : Stmt := topS 28
theorem sc__law_web : FnScope ["spring", "most", "places", "signs", "found", "k", "first", "last"] ["spring", "most"] (defScope s__law_web) := ⟨rfl, rfl, rfl, by decide +kernel, rfl, by decide +kernel, by decide +kernel⟩
abbrev s__law_all_ends : Stmt := topS 26
theorem sc__law_all_ends : FnScope ["web", "k"] ["web"] (defScope s__law_all_ends) := ⟨rfl, rfl, rfl, by decide +kernel, rfl, by decide +kernel, by decide +kernel⟩
abbrev s__law_signs : Stmt := topS 27
theorem sc__law_signs : FnScope ["web", "place", "line", "side"] ["web", "place"] (defScope s__law_signs) := ⟨rfl, rfl, rfl, by decide +kernel, rfl, by decide +kernel, by decide +kernel⟩
abbrev s__law_shown : Stmt := topS 34
theorem sc__law_shown : FnScope ["web", "place", "reason", "signs"] ["web", "place", "reason"] (defScope s__law_shown) := ⟨rfl, rfl, rfl, by decide +kernel, rfl, by decide +kernel, by decide +kernel⟩
abbrev s__law_paper : Stmt := topS 36
theorem sc__law_paper : FnScope ["spring", "web", "found", "place", "good", "reason", "k"] ["spring", "web"] (defScope s__law_paper) := ⟨rfl, rfl, rfl, by decide +kernel, rfl, by decide +kernel, by decide +kernel⟩
abbrev s__law_lists : Stmt := topS 32
theorem sc__law_lists : FnScope ["thing", "inner"] ["thing"] (defScope s__law_lists) := ⟨rfl, rfl, rfl, by decide +kernel, rfl, by decide +kernel, by decide +kernel⟩
abbrev s__law_handed : Stmt := topS 33
theorem sc__law_handed : FnScope ["spring", "thing"] ["spring", "thing"] (defScope s__law_handed) := ⟨rfl, rfl, rfl, by decide +kernel, rfl, by decide +kernel, by decide +kernel⟩
abbrev s_is_whole : Stmt := topS 6
theorem sc_is_whole : FnScope ["thing"] ["thing"] (defScope s_is_whole) := ⟨rfl, rfl, rfl, by decide +kernel, rfl, by decide +kernel, by decide +kernel⟩
abbrev s_need_place : Stmt := topS 9
theorem sc_need_place : FnScope ["web", "place"] ["web", "place"] (defScope s_need_place) := ⟨rfl, rfl, rfl, by decide +kernel, rfl, by decide +kernel, by decide +kernel⟩
abbrev s_all_ends : Stmt := topS 12
theorem sc_all_ends : FnScope ["web", "line", "side"] ["web"] (defScope s_all_ends) := ⟨rfl, rfl, rfl, by decide +kernel, rfl, by decide +kernel, by decide +kernel⟩
abbrev s_place_of : Stmt := topS 10
theorem sc_place_of : FnScope ["web", "end"] ["web", "end"] (defScope s_place_of) := ⟨rfl, rfl, rfl, by decide +kernel, rfl, by decide +kernel, by decide +kernel⟩
abbrev s_ends_at : Stmt := topS 13
theorem sc_ends_at : FnScope ["web", "place", "end"] ["web", "place"] (defScope s_ends_at) := ⟨rfl, rfl, rfl, by decide +kernel, rfl, by decide +kernel, by decide +kernel⟩
abbrev s_company_of : Stmt := topS 11
theorem sc_company_of : FnScope ["web", "end"] ["web", "end"] (defScope s_company_of) := ⟨rfl, rfl, rfl, by decide +kernel, rfl, by decide +kernel, by decide +kernel⟩
abbrev s_shown_at : Stmt := topS 20
theorem sc_shown_at : FnScope ["web", "place", "reason", "ends", "end"] ["web", "place", "reason"] (defScope s_shown_at) := ⟨rfl, rfl, rfl, by decide +kernel, rfl, by decide +kernel, by decide +kernel⟩
abbrev s_rides_for : Stmt := topS 19
theorem sc_rides_for : FnScope ["many"] ["many"] (defScope s_rides_for) := ⟨rfl, rfl, rfl, by decide +kernel, rfl, by decide +kernel, by decide +kernel⟩
abbrev s_hangs_on : Stmt := topS 14
theorem sc_hangs_on : FnScope ["web", "part", "line", "met", "one", "place"] ["web", "part", "line"] (defScope s_hangs_on) := ⟨rfl, rfl, rfl, by decide +kernel, rfl, by decide +kernel, by decide +kernel⟩
abbrev s_parts_of : Stmt := topS 15
theorem sc_parts_of : FnScope ["web", "found", "left", "part", "more", "line"] ["web"] (defScope s_parts_of) := ⟨rfl, rfl, rfl, by decide +kernel, rfl, by decide +kernel, by decide +kernel⟩
abbrev s_is_row : Stmt := topS 7
theorem sc_is_row : FnScope ["thing", "size"] ["thing", "size"] (defScope s_is_row) := ⟨rfl, rfl, rfl, by decide +kernel, rfl, by decide +kernel, by decide +kernel⟩
abbrev s_is_company : Stmt := topS 8
theorem sc_is_company : FnScope ["thing"] ["thing"] (defScope s_is_company) := ⟨rfl, rfl, rfl, by decide +kernel, rfl, by decide +kernel, by decide +kernel⟩
abbrev s_is_reason : Stmt := topS 21
theorem sc_is_reason : FnScope ["web", "thing"] ["web", "thing"] (defScope s_is_reason) := ⟨rfl, rfl, rfl, by decide +kernel, rfl, by decide +kernel, by decide +kernel⟩
abbrev s_places_of_part : Stmt := topS 18
theorem sc_places_of_part : FnScope ["web", "part", "line", "place"] ["web", "part"] (defScope s_places_of_part) := ⟨rfl, rfl, rfl, by decide +kernel, rfl, by decide +kernel, by decide +kernel⟩
abbrev s_shown_by : Stmt := topS 22
theorem sc_shown_by : FnScope ["web", "paper", "shown", "thing", "place", "reason", "part"] ["web", "paper"] (defScope s_shown_by) := ⟨rfl, rfl, rfl, by decide +kernel, rfl, by decide +kernel, by decide +kernel⟩
abbrev s__law_parts : Stmt := topS 30
theorem sc__law_parts : FnScope ["web", "marks", "turn", "first", "last", "sign", "low", "used", "line", "mark", "place"] ["web"] (defScope s__law_parts) := ⟨rfl, rfl, rfl, by decide +kernel, rfl, by decide +kernel, by decide +kernel⟩
abbrev s__law_number : Stmt := topS 35
theorem sc__law_number : FnScope ["web", "paper", "spots", "some", "place", "reason", "part"] ["web", "paper"] (defScope s__law_number) := ⟨rfl, rfl, rfl, by decide +kernel, rfl, by decide +kernel, by decide +kernel⟩
abbrev s_law : Stmt := topS 37
theorem sc_law : FnScope ["script", "spring", "turn", "web", "again", "paper", "handed", "stays", "net", "odd", "at", "thing"] ["script"] (defScope s_law) := ⟨rfl, rfl, rfl, by decide +kernel, rfl, by decide +kernel, by decide +kernel⟩
def g_law : Sx → Option Out :=
  (qSeq (qOwn 1 (gCallScr 0 m__law_spring)) (qSeq (qFor (gRng1 (gCons (gBin dAdd (gC (.int 2)) (gCall dMin2 (gCons (gScrLen 0) (gCons (gC (.int 6)) gNil)))) gNil)) (sName 2) (qSeq (qSet 3 (gIO 1 1 m__law_web (gCons (gC (.int 40)) gNil))) (qSeq (qFor (gRng1 (gCons (gC (.int 4)) gNil)) (sName 4) (qSeq (qSet 5 (gIO 1 1 m__law_paper (gCons (gVar 3) gNil))) (qSeq (qSet 6 (gIO 1 1 m__law_handed (gCons (gVar 5) gNil))) (qSeq (qSet 7 (gCall dRepr (gCons (gVar 6) gNil))) (qSeq (qSet 8 (gIO 1 1 m__law_handed (gCons (gVar 3) gNil))) (qSeq (qIf (gOr (gB (gBin dNe (gCall dRepr (gCons (gCallF 2 m_shown_by (gCons (gVar 8) (gCons (gVar 6) gNil))) gNil)) (gCall dRepr (gCons (gCallF 2 m__law_number (gCons (gVar 3) (gCons (gVar 5) gNil))) gNil)))) (gB (gBin dNe (gCall dRepr (gCons (gVar 6) gNil)) (gVar 7)))) (qRet (gC (.bool false))) qNx) (qSeq (qSet 9 (gLst (gCons (gC .none) (gCons (gC (.int 0)) (gCons (gC (.str "0:a")) (gCons (gTup (gCons (gC (.int 0)) gNil)) (gCons (gTup (gCons (gC (.int 0)) (gCons (gC (.str "a")) (gCons (gC (.int 0)) gNil)))) (gCons (gTup (gCons (gC (.str "0")) (gCons (gC (.str "a")) gNil))) (gCons (gTup (gCons (gC (.bool true)) (gCons (gC (.str "a")) gNil))) (gCons (gTup (gCons (gC (.int 0)) (gCons (gC .none) gNil))) (gCons (gTup (gCons (gC (.int 0)) (gCons (gC (.str "A")) gNil))) (gCons (gTup (gCons (gC (.int 0)) (gCons (gC (.str "ab")) gNil))) (gCons (gTup (gCons (gC (.int 0)) (gCons (gC (.str "")) gNil))) gNil))))))))))))) (qSeq (qSet 9 (gBin dAdd (gVar 9) (gLst (gCons (gTup (gCons (gUn dNeg (gC (.int 1))) (gCons (gC (.str "odd")) gNil))) (gCons (gTup (gCons (gBin dIx (gVar 3) (gC (.int 0))) (gCons (gC (.str "odd")) gNil))) (gCons (gTup (gCons (gC (.int 0)) (gCons (gLst (gCons (gC (.str "odd")) gNil)) gNil))) (gCons (gTup (gCons (gC (.int 0)) (gCons (gC (.int 1)) gNil))) (gCons (gLst gNil) (gCons gDict0 (gCons (gTup (gCons (gC .none) (gCons (gC (.str "odd")) gNil))) gNil)))))))))) (qSeq (qSet 9 (gBin dIx (gVar 9) (gIO 1 1 m__law_draw_k15 (gCons (gC (.int 18)) gNil)))) (qSeq (qSet 10 (gIO 1 1 m__law_draw_k15 (gCons (gBin dAdd (gCall dLen (gCons (gVar 5) gNil)) (gC (.int 1))) gNil))) (qFor (gItems (gLst (gCons (gBin dAdd (gBin dAdd (gSl (gVar 5) gNo (gSo (gVar 10))) (gLst (gCons (gVar 9) gNil))) (gSl (gVar 5) (gSo (gVar 10)) gNo)) (gCons (gC .none) (gCons (gC (.int 5)) (gCons (gC (.bool true)) (gCons (gC (.str "odd")) (gCons gDict0 (gCons (gDictK (gC (.int 0)) (gC (.str "odd"))) gNil))))))))) (sName 11) (qIf (gB (gBin dIsNot (gCallF 2 m_shown_by (gCons (gVar 3) (gCons (gVar 11) gNil))) (gC .none))) (qRet (gC (.bool false))) qNx)))))))))))) (qIf (gOr (gB (gBin dNe (gCallF 2 m_shown_by (gCons (gVar 3) (gCons (gLst gNil) gNil))) (gCall dLen (gCons (gCallF 1 m__law_parts_k25 (gCons (gVar 3) gNil)) gNil)))) (gB (gBin dNe (gCallF 2 m_shown_by (gCons (gVar 3) (gCons (gTup gNil) gNil))) (gCall dLen (gCons (gCallF 1 m__law_parts_k25 (gCons (gVar 3) gNil)) gNil))))) (qRet (gC (.bool false))) qNx)))) (qRet (gC (.bool true)))))
structure Tx (K : PySem.W.Frag) (mg : Str → Option Value) : Prop where
  z_abs : mg "abs" = none
  z_all : mg "all" = none
  z_any : mg "any" = none
  z_bool : mg "bool" = none
  z_dict : mg "dict" = none
  z_int : mg "int" = none
  z_isinstance : mg "isinstance" = none
  z_len : mg "len" = none
  z_list : mg "list" = none
  z_max : mg "max" = none
  z_min : mg "min" = none
  z_range : mg "range" = none
  z_repr : mg "repr" = none
  z_set : mg "set" = none
  z_sorted : mg "sorted" = none
  z_str : mg "str" = none
  z_sum : mg "sum" = none
  z_tuple : mg "tuple" = none
  c_LETTERS : ∃ t, mg "LETTERS" = some (.str "abcdefghijklmnopqrstuvwxyz" t)
  c_ODD : ∃ t, mg "ODD" = some (.str "odd" t)
  c_SIDES : ∃ t, mg "SIDES" = some (.int 2 t)
  d__law_spring : DefAt K mg "_law_spring" s__law_spring ["script"]
  d__law_draw : DefAt K mg "_law_draw" s__law_draw ["spring", "many"]
  d__law_web : DefAt K mg "_law_web" s__law_web ["spring", "most"]
  d__law_all_ends : DefAt K mg "_law_all_ends" s__law_all_ends ["web"]
  d__law_signs : DefAt K mg "_law_signs" s__law_signs ["web", "place"]
  d__law_shown : DefAt K mg "_law_shown" s__law_shown ["web", "place", "reason"]
  d__law_paper : DefAt K mg "_law_paper" s__law_paper ["spring", "web"]
  d__law_lists : DefAt K mg "_law_lists" s__law_lists ["thing"]
  d__law_handed : DefAt K mg "_law_handed" s__law_handed ["spring", "thing"]
  d_is_whole : DefAt K mg "is_whole" s_is_whole ["thing"]
  d_need_place : DefAt K mg "need_place" s_need_place ["web", "place"]
  d_all_ends : DefAt K mg "all_ends" s_all_ends ["web"]
  d_place_of : DefAt K mg "place_of" s_place_of ["web", "end"]
  d_ends_at : DefAt K mg "ends_at" s_ends_at ["web", "place"]
  d_company_of : DefAt K mg "company_of" s_company_of ["web", "end"]
  d_shown_at : DefAt K mg "shown_at" s_shown_at ["web", "place", "reason"]
  d_rides_for : DefAt K mg "rides_for" s_rides_for ["many"]
  d_hangs_on : DefAt K mg "hangs_on" s_hangs_on ["web", "part", "line"]
  d_parts_of : DefAt K mg "parts_of" s_parts_of ["web"]
  d_is_row : DefAt K mg "is_row" s_is_row ["thing", "size"]
  d_is_company : DefAt K mg "is_company" s_is_company ["thing"]
  d_is_reason : DefAt K mg "is_reason" s_is_reason ["web", "thing"]
  d_places_of_part : DefAt K mg "places_of_part" s_places_of_part ["web", "part"]
  d_shown_by : DefAt K mg "shown_by" s_shown_by ["web", "paper"]
  d__law_parts : DefAt K mg "_law_parts" s__law_parts ["web"]
  d__law_number : DefAt K mg "_law_number" s__law_number ["web", "paper"]
  d_law : DefAt K mg "law" s_law ["script"]
section
variable {P : Program} {w : World} {K : PySem.W.Frag} {mg : Str → Option Value} {base : Heap}
theorem has__law_spring (T : Tx K mg) : Has P w K mg base "_law_spring" 1 ["script"] (spScrN K m__law_spring) := has_scrN T.d__law_spring sc__law_spring (by rfl) (by decide) fun f cdv A outer s H E hr =>
  (ss_cons (s_set 1 sc__law_spring.nd e_int) (ss_cons (s_set 2 sc__law_spring.nd e_int) (ss_cons (s_for PassesOwn.never (i_any (e_scrSl 0 o_none (o_some e_int))) (g_name 3 sc__law_spring.nd) (ss_cons (s_if (t_ge (e_abs T.z_abs (a_cons (e_var 3) a_nil)) (e_pow e_int e_int)) (ss_one (s_set 1 sc__law_spring.nd (e_add (e_mul (e_var 1) (e_pow e_int e_int)) (e_mod (e_abs T.z_abs (a_cons (e_var 3) a_nil)) (e_pow e_int e_int))))) ss_nil) (ss_one (s_set 2 sc__law_spring.nd (e_mod (e_add (e_add (e_mul (e_var 2) e_int) (e_mod (e_var 3) e_int)) e_int) e_int)))) (fun _ => trivial)) (ss_one (s_retNew (n_lst (a_cons (e_var 1) (a_cons (e_var 2) (a_cons e_int a_nil)))))))))
theorem has__law_draw (T : Tx K mg) : Has P w K mg base "_law_draw" 1 ["spring", "many"] (spIO K 1 m__law_draw_k15) := has_io T.d__law_draw sc__law_draw (by rfl) (by decide) fun f cdv A outer s H E hr =>
  (ss_cons (s_if (t_gt (e_ixO 0 e_int) e_int) (ss_cons (s_set 2 sc__law_draw.nd (e_mod (e_ixO 0 e_int) (e_var 1))) (ss_cons (s_setO 0 e_int (e_div (e_ixO 0 e_int) (e_var 1))) (ss_one (s_ret (e_var 2))))) ss_nil) (ss_cons (s_setO 0 e_int (e_add (e_ixO 0 e_int) e_int)) (ss_cons (s_set 3 sc__law_draw.nd (e_mod (e_mul (e_ixO 0 e_int) (e_ixO 0 e_int)) e_int)) (ss_cons (s_setO 0 e_int (e_mod (e_add (e_add (e_var 3) (e_mul (e_mul e_int (e_ixO 0 e_int)) (e_ixO 0 e_int))) e_int) e_int)) (ss_one (s_ret (e_mod (e_div (e_ixO 0 e_int) e_int) (e_var 1))))))))
theorem has__law_web (T : Tx K mg) : Has P w K mg base "_law_web" 2 ["spring", "most"] (spIO K 1 m__law_web) := has_io T.d__law_web sc__law_web (by rfl) (by decide) fun f cdv A outer s H E hr =>
  (ss_cons (s_set 2 sc__law_web.nd (e_add e_int (e_callHIO 0 (has__law_draw T) (hr.mono (by decide)) (a_cons (e_ix (e_lst (a_cons e_int (a_cons e_int (a_cons e_int (a_cons e_int a_nil))))) (e_callHIO 0 (has__law_draw T) (hr.mono (by decide)) (a_cons e_int a_nil))) a_nil)))) (ss_cons (s_set 3 sc__law_web.nd (e_ix (e_lst (a_cons e_str (a_cons e_str (a_cons e_str (a_cons e_str (a_cons e_str (a_cons e_str a_nil))))))) (e_callHIO 0 (has__law_draw T) (hr.mono (by decide)) (a_cons e_int a_nil)))) (ss_cons (s_own 4 sc__law_web.nd (n_lst a_nil)) (ss_cons (s_for0 PassesOwn.never (i0_range1 T.z_range (a_cons (e_callHIO 0 (has__law_draw T) (hr.mono (by decide)) (a_cons (e_add (e_var 1) e_int) a_nil)) a_nil)) (g_name 5 sc__law_web.nd) (ss_cons (s_set 6 sc__law_web.nd (e_callHIO 0 (has__law_draw T) (hr.mono (by decide)) (a_cons (e_var 2) a_nil))) (ss_cons (s_set 7 sc__law_web.nd (e_ix (e_lst (a_cons (e_callHIO 0 (has__law_draw T) (hr.mono (by decide)) (a_cons (e_var 2) a_nil)) (a_cons (e_var 6) (a_cons (e_mod (e_add (e_var 6) e_int) (e_var 2)) a_nil)))) (e_ix (e_lst (a_cons e_int (a_cons e_int (a_cons e_int (a_cons e_int a_nil))))) (e_callHIO 0 (has__law_draw T) (hr.mono (by decide)) (a_cons e_int a_nil))))) (ss_one (s_expr (e_append 4 (e_tup (a_cons (e_var 6) (a_cons (e_var 7) (a_cons (e_ix (e_var 3) (e_callHIO 0 (has__law_draw T) (hr.mono (by decide)) (a_cons (e_len T.z_len (a_cons (e_var 3) a_nil)) a_nil))) a_nil)))))))))) (ss_one (s_ret (e_tup (a_cons (e_var 2) (a_cons (e_tuple T.z_tuple (a_cons (e_var 4) a_nil)) a_nil)))))))))
theorem has__law_all_ends (T : Tx K mg) : Has P w K mg base "_law_all_ends" 1 ["web"] (spF K 1 m__law_all_ends) := has_pure T.d__law_all_ends sc__law_all_ends (by rfl) (by decide) fun f cdv A outer s H E hr =>
  (ss_one (s_ret (n_lc [("k", 1)] sc__law_all_ends.nd (i_range1 T.z_range (a_cons (e_mul e_int (e_len T.z_len (a_cons (e_ix (e_var 0) e_int) a_nil))) a_nil)) (blkOk_by (N := ["web", "k"]) (sc := defScope s__law_all_ends) (by decide +kernel)) (fun _ _ _ _ _ => (g_name 1 sc__law_all_ends.nd)) (fun _ _ _ _ _ => ts_nil) (fun _ _ _ _ _ => (e_tup (a_cons (e_div (e_var 1) e_int) (a_cons (e_mod (e_var 1) e_int) a_nil))))).e))
theorem has__law_signs (T : Tx K mg) : Has P w K mg base "_law_signs" 2 ["web", "place"] (spF K 2 m__law_signs) := has_pure T.d__law_signs sc__law_signs (by rfl) (by decide) fun f cdv A outer s H E hr =>
  (ss_one (s_ret (n_lc [("line", 2), ("side", 3)] sc__law_signs.nd (i_any (e_callH (has__law_all_ends T) (hr.mono (by decide)) (a_cons (e_var 0) a_nil))) (blkOk_by (N := ["web", "place", "line", "side"]) (sc := defScope s__law_signs) (by decide +kernel)) (fun _ _ _ _ _ => (g_tup (gs_cons (g_name 2 sc__law_signs.nd) (gs_cons (g_name 3 sc__law_signs.nd) gs_nil)))) (fun _ _ _ _ _ => (ts_one (t_eq hr.units (e_ix (e_ix (e_ix (e_var 0) e_int) (e_var 2)) (e_var 3)) (e_var 1)))) (fun _ _ _ _ _ => (e_ix (e_ix (e_ix (e_var 0) e_int) (e_var 2)) e_int))).e))
theorem has__law_shown (T : Tx K mg) : Has P w K mg base "_law_shown" 3 ["web", "place", "reason"] (spF K 3 m__law_shown) := has_pure T.d__law_shown sc__law_shown (by rfl) (by decide) fun f cdv A outer s H E hr =>
  (ss_cons (s_set 3 sc__law_shown.nd (e_callH (has__law_signs T) (hr.mono (by decide)) (a_cons (e_var 0) (a_cons (e_var 1) a_nil)))) (ss_cons (s_if (t_eq hr.units (e_var 2) e_str) (ss_one (s_ret (e_mod (e_len T.z_len (a_cons (e_var 3) a_nil)) e_int))) ss_nil) (ss_one (s_ret (e_max2 T.z_max (a_cons e_int (a_cons (e_sub (e_mul e_int (e_count hr (e_var 3) (e_var 2))) (e_len T.z_len (a_cons (e_var 3) a_nil))) a_nil)))))))
theorem has__law_paper (T : Tx K mg) : Has P w K mg base "_law_paper" 4 ["spring", "web"] (spIO K 1 m__law_paper) := has_io T.d__law_paper sc__law_paper (by rfl) (by decide) fun f cdv A outer s H E hr =>
  (ss_cons (s_own 2 sc__law_paper.nd (n_lst a_nil)) (ss_cons (s_for0 PassesOwn.never (i0_range1 T.z_range (a_cons (e_ix (e_var 1) e_int) a_nil)) (g_name 3 sc__law_paper.nd) (ss_cons (s_setLc (lc1 4 [("reason", 5)] sc__law_paper.nd (i_any (e_lst (a_cons e_str (a_cons e_str (a_cons e_str (a_cons e_str (a_cons e_str (a_cons e_str a_nil)))))))) (blkOk_by (N := ["spring", "web", "found", "place", "good", "reason", "k"]) (sc := defScope s__law_paper) (by decide +kernel)) (fun _ _ _ _ _ => (g_name 5 sc__law_paper.nd)) (fun _ _ _ _ _ => (ts_one (t_gt (e_callH (has__law_shown T) (hr.mono (by decide)) (a_cons (e_var 1) (a_cons (e_var 3) (a_cons (e_var 5) a_nil)))) e_int))) (fun _ _ _ _ _ => (e_var 5)))) (ss_one (s_if (t_w (w_and (t_ne hr.units (e_var 4) (e_lst a_nil)) (w_and1 (t_gt (e_callHIO 0 (has__law_draw T) (hr.mono (by decide)) (a_cons e_int a_nil)) e_int)))) (ss_one (s_expr (e_append 2 (e_tup (a_cons (e_var 3) (a_cons (e_ix (e_var 4) (e_callHIO 0 (has__law_draw T) (hr.mono (by decide)) (a_cons (e_len T.z_len (a_cons (e_var 4) a_nil)) a_nil))) a_nil)))))) ss_nil)))) (ss_cons (s_if (t_eq hr.units (e_callHIO 0 (has__law_draw T) (hr.mono (by decide)) (a_cons e_int a_nil)) e_int) (ss_one (s_expr (e_append 2 (e_tup (a_cons (e_sub (e_callHIO 0 (has__law_draw T) (hr.mono (by decide)) (a_cons (e_add (e_ix (e_var 1) e_int) e_int) a_nil)) e_int) (a_cons (e_ix (e_lst (a_cons e_str (a_cons e_str (a_cons e_str (a_cons e_str (a_cons e_str a_nil)))))) (e_callHIO 0 (has__law_draw T) (hr.mono (by decide)) (a_cons e_int a_nil))) a_nil)))))) ss_nil) (ss_one (s_ret (n_lc [("k", 6)] sc__law_paper.nd (i_range1 T.z_range (a_cons (e_lenO 2 T.z_len) a_nil)) (blkOk_by (N := ["spring", "web", "found", "place", "good", "reason", "k"]) (sc := defScope s__law_paper) (by decide +kernel)) (fun _ _ _ _ _ => (g_name 6 sc__law_paper.nd)) (fun _ _ _ _ _ => ts_nil) (fun _ _ _ _ _ => (e_popAt 2 (e_callHIO 0 (has__law_draw T) (hr.mono (by decide)) (a_cons (e_lenO 2 T.z_len) a_nil))))).e)))))
theorem has__law_lists (T : Tx K mg) : ∀ n, Has P w K mg base "_law_lists" (0 + n) ["thing"] (spF K 1 (m__law_lists n))
  | 0 => has_none_pure T.d__law_lists (by rfl)
  | n + 1 => have ih := has__law_lists T n
    has_pure T.d__law_lists sc__law_lists (by rfl) (by decide) fun f cdv A outer s H E hr =>
  (ss_one (s_ret (e_if (t_val (e_isi2 T.z_isinstance T.z_list (by decide +kernel) kit_list T.z_tuple (by decide +kernel) kit_tuple (e_var 0))) (n_lc [("inner", 1)] sc__law_lists.nd (i_any (e_var 0)) (blkOk_by (N := ["thing", "inner"]) (sc := defScope s__law_lists) (by decide +kernel)) (fun _ _ _ _ _ => (g_name 1 sc__law_lists.nd)) (fun _ _ _ _ _ => ts_nil) (fun _ _ _ _ _ => (e_callH ih hr (a_cons (e_var 1) a_nil)))).e (e_var 0))))
theorem has__law_handed (T : Tx K mg) : Has P w K mg base "_law_handed" 10 ["spring", "thing"] (spIO K 1 m__law_handed) := has_io T.d__law_handed sc__law_handed (by rfl) (by decide) fun f cdv A outer s H E hr =>
  (ss_one (s_ret (e_if (t_gt (e_callHIO 0 (has__law_draw T) (hr.mono (by decide)) (a_cons e_int a_nil)) e_int) (e_var 1) (e_callH (has__law_lists T 8) (hr.mono (by decide)) (a_cons (e_var 1) a_nil)))))
theorem has_is_whole (T : Tx K mg) : Has P w K mg base "is_whole" 1 ["thing"] (spF K 1 m_is_whole) := has_pure T.d_is_whole sc_is_whole (by rfl) (by decide) fun f cdv A outer s H E hr =>
  (ss_one (s_ret (e_and (e_isi T.z_isinstance T.z_int (by decide +kernel) kit_int (e_var 0)) (e_and (e_not (e_isi T.z_isinstance T.z_bool (by decide +kernel) kit_bool (e_var 0))) (e_one (e_ge (e_var 0) e_int))))))
theorem has_need_place (T : Tx K mg) : Has P w K mg base "need_place" 2 ["web", "place"] (spF K 2 m_need_place) := has_pure T.d_need_place sc_need_place (by rfl) (by decide) fun f cdv A outer s H E hr =>
  (ss_one (s_if (t_w (w_or (t_not (t_val (e_callH (has_is_whole T) (hr.mono (by decide)) (a_cons (e_var 1) a_nil)))) (w_or1 (t_ge (e_var 1) (e_ix (e_var 0) e_int))))) (ss_one s_never) ss_nil))
theorem has_all_ends (T : Tx K mg) : Has P w K mg base "all_ends" 1 ["web"] (spF K 1 m_all_ends) := has_pure T.d_all_ends sc_all_ends (by rfl) (by decide) fun f cdv A outer s H E hr =>
  (ss_one (s_ret (n_lc2 [("line", 1), ("side", 2)] [2] sc_all_ends.nd (i_range1 T.z_range (a_cons (e_len T.z_len (a_cons (e_ix (e_var 0) e_int) a_nil)) a_nil)) (blkOk_by (N := ["web", "line", "side"]) (sc := defScope s_all_ends) (by decide +kernel)) (fun _ _ _ _ _ => (g_name 1 sc_all_ends.nd)) (fun _ _ _ _ _ => ts_nil) (fun _ _ _ _ _ => (i_range1 T.z_range (a_cons (e_gintE T.c_SIDES) a_nil))) (fun _ _ _ _ _ => (g_name 2 sc_all_ends.nd)) (fun _ _ _ _ _ => ts_nil) (fun _ _ _ _ _ => (e_tup (a_cons (e_var 1) (a_cons (e_var 2) a_nil))))).e))
theorem has_place_of (T : Tx K mg) : Has P w K mg base "place_of" 1 ["web", "end"] (spF K 2 m_place_of) := has_pure T.d_place_of sc_place_of (by rfl) (by decide) fun f cdv A outer s H E hr =>
  (ss_one (s_ret (e_ix (e_ix (e_ix (e_var 0) e_int) (e_ix (e_var 1) e_int)) (e_ix (e_var 1) e_int))))
theorem has_ends_at (T : Tx K mg) : Has P w K mg base "ends_at" 3 ["web", "place"] (spF K 2 m_ends_at) := has_pure T.d_ends_at sc_ends_at (by rfl) (by decide) fun f cdv A outer s H E hr =>
  (ss_cons (s_expr (e_callH (has_need_place T) (hr.mono (by decide)) (a_cons (e_var 0) (a_cons (e_var 1) a_nil)))) (ss_one (s_ret (n_lc [("end", 2)] sc_ends_at.nd (i_any (e_callH (has_all_ends T) (hr.mono (by decide)) (a_cons (e_var 0) a_nil))) (blkOk_by (N := ["web", "place", "end"]) (sc := defScope s_ends_at) (by decide +kernel)) (fun _ _ _ _ _ => (g_name 2 sc_ends_at.nd)) (fun _ _ _ _ _ => (ts_one (t_eq hr.units (e_callH (has_place_of T) (hr.mono (by decide)) (a_cons (e_var 0) (a_cons (e_var 2) a_nil))) (e_var 1)))) (fun _ _ _ _ _ => (e_var 2))).e)))
theorem has_company_of (T : Tx K mg) : Has P w K mg base "company_of" 1 ["web", "end"] (spF K 2 m_company_of) := has_pure T.d_company_of sc_company_of (by rfl) (by decide) fun f cdv A outer s H E hr =>
  (ss_one (s_ret (e_ix (e_ix (e_ix (e_var 0) e_int) (e_ix (e_var 1) e_int)) e_int)))
theorem has_shown_at (T : Tx K mg) : Has P w K mg base "shown_at" 4 ["web", "place", "reason"] (spF K 3 m_shown_at) := has_pure T.d_shown_at sc_shown_at (by rfl) (by decide) fun f cdv A outer s H E hr =>
  (ss_cons (s_set 3 sc_shown_at.nd (e_callH (has_ends_at T) (hr.mono (by decide)) (a_cons (e_var 0) (a_cons (e_var 1) a_nil)))) (ss_cons (s_if (t_eq hr.units (e_var 2) (e_gstrE T.c_ODD)) (ss_one (s_ret (e_mod (e_len T.z_len (a_cons (e_var 3) a_nil)) e_int))) ss_nil) (ss_one (s_ret (e_max2 T.z_max (a_cons e_int (a_cons (e_sub (e_mul e_int (e_len T.z_len (a_cons (n_lc [("end", 4)] sc_shown_at.nd (i_any (e_var 3)) (blkOk_by (N := ["web", "place", "reason", "ends", "end"]) (sc := defScope s_shown_at) (by decide +kernel)) (fun _ _ _ _ _ => (g_name 4 sc_shown_at.nd)) (fun _ _ _ _ _ => (ts_one (t_eq hr.units (e_callH (has_company_of T) (hr.mono (by decide)) (a_cons (e_var 0) (a_cons (e_var 4) a_nil))) (e_var 2)))) (fun _ _ _ _ _ => (e_var 4))).e a_nil))) (e_len T.z_len (a_cons (e_var 3) a_nil))) a_nil)))))))
theorem has_rides_for (T : Tx K mg) : Has P w K mg base "rides_for" 1 ["many"] (spF K 1 m_rides_for) := has_pure T.d_rides_for sc_rides_for (by rfl) (by decide) fun f cdv A outer s H E hr =>
  (ss_one (s_ret (e_max2 T.z_max (a_cons e_int (a_cons (e_div (e_add (e_var 0) e_int) e_int) a_nil)))))
theorem has_hangs_on (T : Tx K mg) : Has P w K mg base "hangs_on" 1 ["web", "part", "line"] (spF K 3 m_hangs_on) := has_pure T.d_hangs_on sc_hangs_on (by rfl) (by decide) fun f cdv A outer s H E hr =>
  (ss_cons (s_set 3 sc_hangs_on.nd (n_lc2 [("one", 4), ("place", 5)] [5] sc_hangs_on.nd (i_any (e_var 1)) (blkOk_by (N := ["web", "part", "line", "met", "one", "place"]) (sc := defScope s_hangs_on) (by decide +kernel)) (fun _ _ _ _ _ => (g_name 4 sc_hangs_on.nd)) (fun _ _ _ _ _ => ts_nil) (fun _ _ _ _ _ => (i_any (e_sl (e_ix (e_ix (e_var 0) e_int) (e_var 4)) o_none (o_some e_int)))) (fun _ _ _ _ _ => (g_name 5 sc_hangs_on.nd)) (fun _ _ _ _ _ => ts_nil) (fun _ _ _ _ _ => (e_var 5))).e) (ss_one (s_ret (e_any T.z_any (a_cons (n_lc [("place", 5)] sc_hangs_on.nd (i_any (e_sl (e_ix (e_ix (e_var 0) e_int) (e_var 2)) o_none (o_some e_int))) (blkOk_by (N := ["web", "part", "line", "met", "one", "place"]) (sc := defScope s_hangs_on) (by decide +kernel)) (fun _ _ _ _ _ => (g_name 5 sc_hangs_on.nd)) (fun _ _ _ _ _ => ts_nil) (fun _ _ _ _ _ => (e_in (hu65 hr) (e_var 5) (e_var 3)))).e a_nil)))))
theorem has_parts_of (T : Tx K mg) : Has P w K mg base "parts_of" 2 ["web"] (spF K 1 m_parts_of) := has_pure T.d_parts_of sc_parts_of (by rfl) (by decide) fun f cdv A outer s H E hr =>
  (ss_cons (s_own 1 sc_parts_of.nd (n_lst a_nil)) (ss_cons (s_set 2 sc_parts_of.nd (n_listRng1 T.z_list T.z_range (e_len T.z_len (a_cons (e_ix (e_var 0) e_int) a_nil))).e) (ss_cons (s_while 100000 PassesOwn.never (t_ne hr.units (e_var 2) (e_lst a_nil)) (ss_cons (s_own 3 sc_parts_of.nd (n_lst a_nil)) (ss_cons (s_set 4 sc_parts_of.nd (e_sl (e_var 2) o_none (o_some e_int))) (ss_cons (s_while 100000 PassesOwn.never (t_ne hr.units (e_var 4) (e_lst a_nil)) (ss_cons (s_augL 3 sc_parts_of.nd (e_var 4)) (ss_cons (s_setLc (lc1 2 [("line", 5)] sc_parts_of.nd (i_any (e_var 2)) (blkOk_by (N := ["web", "found", "left", "part", "more", "line"]) (sc := defScope s_parts_of) (by decide +kernel)) (fun _ _ _ _ _ => (g_name 5 sc_parts_of.nd)) (fun _ _ _ _ _ => (ts_one (t_notIn (hu65 hr) (e_var 5) (e_var 4)))) (fun _ _ _ _ _ => (e_var 5)))) (ss_one (s_set 4 sc_parts_of.nd (n_view (n_lc [("line", 5)] sc_parts_of.nd (i_any (e_var 2)) (blkOk_by (N := ["web", "found", "left", "part", "more", "line"]) (sc := defScope s_parts_of) (by decide +kernel)) (fun _ _ _ _ _ => (g_name 5 sc_parts_of.nd)) (fun _ _ _ _ _ => (ts_one (t_val (e_callH (has_hangs_on T) (hr.mono (by decide)) (a_cons (e_var 0) (a_cons (e_var 3) (a_cons (e_var 5) a_nil))))))) (fun _ _ _ _ _ => (e_var 5)))).e))))) (ss_one (s_expr (e_append 1 (e_sorted hr T.z_sorted (a_cons (e_var 3) a_nil))))))))) (ss_one (s_ret (e_var 1))))))
theorem has_is_row (T : Tx K mg) : Has P w K mg base "is_row" 1 ["thing", "size"] (spF K 2 m_is_row) := has_pure T.d_is_row sc_is_row (by rfl) (by decide) fun f cdv A outer s H E hr =>
  (ss_one (s_ret (e_and (e_isi2 T.z_isinstance T.z_list (by decide +kernel) kit_list T.z_tuple (by decide +kernel) kit_tuple (e_var 0)) (e_one (e_eq hr.units (e_len T.z_len (a_cons (e_var 0) a_nil)) (e_var 1))))))
theorem has_is_company (T : Tx K mg) : Has P w K mg base "is_company" 1 ["thing"] (spF K 1 m_is_company) := has_pure T.d_is_company sc_is_company (by rfl) (by decide) fun f cdv A outer s H E hr =>
  (ss_one (s_ret (e_and (e_isi T.z_isinstance T.z_str (by decide +kernel) kit_str (e_var 0)) (e_and (e_eq hr.units (e_len T.z_len (a_cons (e_var 0) a_nil)) e_int) (e_one (e_in (hu65 hr) (e_var 0) (e_gstrE T.c_LETTERS)))))))
theorem has_is_reason (T : Tx K mg) : Has P w K mg base "is_reason" 5 ["web", "thing"] (spF K 2 m_is_reason) := has_pure T.d_is_reason sc_is_reason (by rfl) (by decide) fun f cdv A outer s H E hr =>
  (ss_cons (s_if (t_w (w_or (t_not (t_val (e_callH (has_is_row T) (hr.mono (by decide)) (a_cons (e_var 1) (a_cons e_int a_nil))))) (w_or (t_not (t_val (e_callH (has_is_whole T) (hr.mono (by decide)) (a_cons (e_ix (e_var 1) e_int) a_nil)))) (w_or1 (t_ge (e_ix (e_var 1) e_int) (e_ix (e_var 0) e_int)))))) (ss_one (s_ret e_bl)) ss_nil) (ss_cons (s_if (t_w (w_and (t_not (t_val (e_callH (has_is_company T) (hr.mono (by decide)) (a_cons (e_ix (e_var 1) e_int) a_nil)))) (w_and1 (t_not (t_w (w_and (t_val (e_isi T.z_isinstance T.z_str (by decide +kernel) kit_str (e_ix (e_var 1) e_int))) (w_and1 (t_eq hr.units (e_ix (e_var 1) e_int) (e_gstrE T.c_ODD))))))))) (ss_one (s_ret e_bl)) ss_nil) (ss_one (s_ret (e_gt (e_callH (has_shown_at T) (hr.mono (by decide)) (a_cons (e_var 0) (a_cons (e_ix (e_var 1) e_int) (a_cons (e_ix (e_var 1) e_int) a_nil)))) e_int)))))
theorem has_places_of_part (T : Tx K mg) : Has P w K mg base "places_of_part" 1 ["web", "part"] (spF K 2 m_places_of_part) := has_pure T.d_places_of_part sc_places_of_part (by rfl) (by decide) fun f cdv A outer s H E hr =>
  (ss_one (s_ret (n_sortSet T.z_sorted T.z_set (a_cons (n_lc2 [("line", 2), ("place", 3)] [3] sc_places_of_part.nd (i_any (e_var 1)) (blkOk_by (N := ["web", "part", "line", "place"]) (sc := defScope s_places_of_part) (by decide +kernel)) (fun _ _ _ _ _ => (g_name 2 sc_places_of_part.nd)) (fun _ _ _ _ _ => ts_nil) (fun _ _ _ _ _ => (i_any (e_sl (e_ix (e_ix (e_var 0) e_int) (e_var 2)) o_none (o_some e_int)))) (fun _ _ _ _ _ => (g_name 3 sc_places_of_part.nd)) (fun _ _ _ _ _ => ts_nil) (fun _ _ _ _ _ => (e_var 3))).e a_nil)).e))
theorem has_shown_by (T : Tx K mg) : Has P w K mg base "shown_by" 6 ["web", "paper"] (spF K 2 m_shown_by) := has_pure T.d_shown_by sc_shown_by (by rfl) (by decide) fun f cdv A outer s H E hr =>
  (ss_cons (s_if (t_w (w_or (t_not (t_val (e_isi2 T.z_isinstance T.z_list (by decide +kernel) kit_list T.z_tuple (by decide +kernel) kit_tuple (e_var 1)))) (w_or1 (t_not (t_val (e_all T.z_all (a_cons (n_lc [("thing", 3)] sc_shown_by.nd (i_any (e_var 1)) (blkOk_by (N := ["web", "paper", "shown", "thing", "place", "reason", "part"]) (sc := defScope s_shown_by) (by decide +kernel)) (fun _ _ _ _ _ => (g_name 3 sc_shown_by.nd)) (fun _ _ _ _ _ => ts_nil) (fun _ _ _ _ _ => (e_callH (has_is_reason T) (hr.mono (by decide)) (a_cons (e_var 0) (a_cons (e_var 3) a_nil))))).e a_nil))))))) (ss_one (s_ret e_non)) ss_nil) (ss_cons (s_setD 2 (d_dc [("place", 4), ("reason", 5)] sc_shown_by.nd (i_any (e_var 1)) (blkOk_by (N := ["web", "paper", "shown", "thing", "place", "reason", "part"]) (sc := defScope s_shown_by) (by decide +kernel)) (fun _ _ _ _ _ => (g_seq (gs_cons (g_name 4 sc_shown_by.nd) (gs_cons (g_name 5 sc_shown_by.nd) gs_nil)))) (fun _ _ _ _ _ => ts_nil) (fun _ _ _ _ _ => (e_var 4)) (fun _ _ _ _ _ => (e_callH (has_shown_at T) (hr.mono (by decide)) (a_cons (e_var 0) (a_cons (e_var 4) (a_cons (e_var 5) a_nil)))))) sc_shown_by.nd) (ss_cons (s_if (t_ne hr.units (e_lenD 2 T.z_len) (e_len T.z_len (a_cons (e_var 1) a_nil))) (ss_one (s_ret e_non)) ss_nil) (ss_one (s_ret (e_sum T.z_sum (a_cons (n_lc [("part", 6)] sc_shown_by.nd (i_any (e_callH (has_parts_of T) (hr.mono (by decide)) (a_cons (e_var 0) a_nil))) (blkOk_by (N := ["web", "paper", "shown", "thing", "place", "reason", "part"]) (sc := defScope s_shown_by) (by decide +kernel)) (fun _ _ _ _ _ => (g_name 6 sc_shown_by.nd)) (fun _ _ _ _ _ => ts_nil) (fun _ _ _ _ _ => (e_callH (has_rides_for T) (hr.mono (by decide)) (a_cons (e_sum T.z_sum (a_cons (n_lc [("place", 4)] sc_shown_by.nd (i_any (e_callH (has_places_of_part T) (hr.mono (by decide)) (a_cons (e_var 0) (a_cons (e_var 6) a_nil)))) (blkOk_by (N := ["web", "paper", "shown", "thing", "place", "reason", "part"]) (by first | decide +kernel | exact rfl)) (fun _ _ _ _ _ => (g_name 4 sc_shown_by.nd)) (fun _ _ _ _ _ => ts_nil) (fun _ _ _ _ _ => (e_dget2 hr 2 (e_var 4) e_int))).e a_nil)) a_nil)))).e a_nil)))))))
theorem has__law_parts (T : Tx K mg) : Has P w K mg base "_law_parts" 1 ["web"] (spF K 1 m__law_parts_k25) := has_pure T.d__law_parts sc__law_parts (by rfl) (by decide) fun f cdv A outer s H E hr =>
  (ss_cons (s_own 1 sc__law_parts.nd (n_listRng1 T.z_list T.z_range (e_ix (e_var 0) e_int))) (ss_cons (s_for0 PassesOwn.never (i0_range1 T.z_range (a_cons (e_ix (e_var 0) e_int) a_nil)) (g_name 2 sc__law_parts.nd) (ss_one (s_for PassesOwn.never (i_any (e_ix (e_var 0) e_int)) (g_tup (gs_cons (g_name 3 sc__law_parts.nd) (gs_cons (g_name 4 sc__law_parts.nd) (gs_cons (g_name 5 sc__law_parts.nd) gs_nil)))) (ss_cons (s_set 6 sc__law_parts.nd (e_min2 T.z_min (a_cons (e_ixO 1 (e_var 3)) (a_cons (e_ixO 1 (e_var 4)) a_nil)))) (ss_one (s_asg (g_tup (gs_cons (g_ixO (tgt := []) 1 (e_var 3)) (gs_cons (g_ixO (tgt := []) 1 (e_var 4)) gs_nil))) (e_tup (a_cons (e_var 6) (a_cons (e_var 6) a_nil)))))) (fun _ => trivial)))) (ss_cons (s_set 7 sc__law_parts.nd (n_sortSet T.z_sorted T.z_set (a_cons (n_lc [("line", 8)] sc__law_parts.nd (i_any (e_ix (e_var 0) e_int)) (blkOk_by (N := ["web", "marks", "turn", "first", "last", "sign", "low", "used", "line", "mark", "place"]) (sc := defScope s__law_parts) (by decide +kernel)) (fun _ _ _ _ _ => (g_name 8 sc__law_parts.nd)) (fun _ _ _ _ _ => ts_nil) (fun _ _ _ _ _ => (e_ixO 1 (e_ix (e_var 8) e_int)))).e a_nil)).e) (ss_one (s_ret (n_lc [("mark", 9)] sc__law_parts.nd (i_any (e_var 7)) (blkOk_by (N := ["web", "marks", "turn", "first", "last", "sign", "low", "used", "line", "mark", "place"]) (sc := defScope s__law_parts) (by decide +kernel)) (fun _ _ _ _ _ => (g_name 9 sc__law_parts.nd)) (fun _ _ _ _ _ => ts_nil) (fun _ _ _ _ _ => (n_lc [("place", 10)] sc__law_parts.nd (i_range1 T.z_range (a_cons (e_ix (e_var 0) e_int) a_nil)) (blkOk_by (N := ["web", "marks", "turn", "first", "last", "sign", "low", "used", "line", "mark", "place"]) (by first | decide +kernel | exact rfl)) (fun _ _ _ _ _ => (g_name 10 sc__law_parts.nd)) (fun _ _ _ _ _ => (ts_one (t_eq hr.units (e_ixO 1 (e_var 10)) (e_var 9)))) (fun _ _ _ _ _ => (e_var 10))).e)).e)))))
theorem has__law_number (T : Tx K mg) : Has P w K mg base "_law_number" 4 ["web", "paper"] (spF K 2 m__law_number) := has_pure T.d__law_number sc__law_number (by rfl) (by decide) fun f cdv A outer s H E hr =>
  (ss_cons (s_set 2 sc__law_number.nd (n_lc [("place", 4), ("reason", 5)] sc__law_number.nd (i_any (e_var 1)) (blkOk_by (N := ["web", "paper", "spots", "some", "place", "reason", "part"]) (sc := defScope s__law_number) (by decide +kernel)) (fun _ _ _ _ _ => (g_tup (gs_cons (g_name 4 sc__law_number.nd) (gs_cons (g_name 5 sc__law_number.nd) gs_nil)))) (fun _ _ _ _ _ => ts_nil) (fun _ _ _ _ _ => (e_var 4))).e) (ss_cons (s_if (t_ne hr.units (n_lc [("place", 4)] sc__law_number.nd (i_any (e_var 2)) (blkOk_by (N := ["web", "paper", "spots", "some", "place", "reason", "part"]) (sc := defScope s__law_number) (by decide +kernel)) (fun _ _ _ _ _ => (g_name 4 sc__law_number.nd)) (fun _ _ _ _ _ => (ts_one (t_w (w_or (t_not (t_chain op_le op_lt (rd_cmp _) (rd_cmp _) e_int (e_var 4) (e_ix (e_var 0) e_int))) (w_or1 (t_gt (e_count hr (e_var 2) (e_var 4)) e_int)))))) (fun _ _ _ _ _ => (e_var 4))).e (e_lst a_nil)) (ss_one (s_ret e_non)) ss_nil) (ss_cons (s_setD 3 (d_dictP T.z_dict (a_cons (n_lc [("place", 4), ("reason", 5)] sc__law_number.nd (i_any (e_var 1)) (blkOk_by (N := ["web", "paper", "spots", "some", "place", "reason", "part"]) (sc := defScope s__law_number) (by decide +kernel)) (fun _ _ _ _ _ => (g_tup (gs_cons (g_name 4 sc__law_number.nd) (gs_cons (g_name 5 sc__law_number.nd) gs_nil)))) (fun _ _ _ _ _ => ts_nil) (fun _ _ _ _ _ => (e_tup (a_cons (e_var 4) (a_cons (e_callH (has__law_shown T) (hr.mono (by decide)) (a_cons (e_var 0) (a_cons (e_var 4) (a_cons (e_var 5) a_nil)))) a_nil))))).e a_nil)) sc__law_number.nd) (ss_cons (s_if (t_inV 3 e_int) (ss_one (s_ret e_non)) ss_nil) (ss_one (s_ret (e_sum T.z_sum (a_cons (n_lc [("part", 6)] sc__law_number.nd (i_any (e_callH (has__law_parts T) (hr.mono (by decide)) (a_cons (e_var 0) a_nil))) (blkOk_by (N := ["web", "paper", "spots", "some", "place", "reason", "part"]) (sc := defScope s__law_number) (by decide +kernel)) (fun _ _ _ _ _ => (g_name 6 sc__law_number.nd)) (fun _ _ _ _ _ => ts_nil) (fun _ _ _ _ _ => (e_max2 T.z_max (a_cons e_int (a_cons (e_div (e_add (e_sum T.z_sum (a_cons (n_lc [("place", 4)] sc__law_number.nd (i_any (e_var 6)) (blkOk_by (N := ["web", "paper", "spots", "some", "place", "reason", "part"]) (by first | decide +kernel | exact rfl)) (fun _ _ _ _ _ => (g_name 4 sc__law_number.nd)) (fun _ _ _ _ _ => ts_nil) (fun _ _ _ _ _ => (e_dget2 hr 3 (e_var 4) e_int))).e a_nil)) e_int) e_int) a_nil))))).e a_nil))))))))
theorem law_body (T : Tx K mg) : BodyG P w K mg base ["script", "spring", "turn", "web", "again", "paper", "handed", "stays", "net", "odd", "at", "thing"] "law" s_law 10 AnyB g_law := fun f cdv A outer s H E hr hgd =>
  (ss_cons (s_own 1 sc_law.nd (n_callScr 0 (has__law_spring T) (hr.mono (by decide)))) (ss_cons (s_for0 PassesOwn.never (i0_range1 T.z_range (a_cons (e_add e_int (e_min2 T.z_min (a_cons (e_scrLen 0 T.z_len) (a_cons e_int a_nil)))) a_nil)) (g_name 2 sc_law.nd) (ss_cons (s_set 3 sc_law.nd (e_callHIO 1 (has__law_web T) (hr.mono (by decide)) (a_cons e_int a_nil))) (ss_cons (s_for0 PassesOwn.never (i0_range1 T.z_range (a_cons e_int a_nil)) (g_name 4 sc_law.nd) (ss_cons (s_set 5 sc_law.nd (e_callHIO 1 (has__law_paper T) (hr.mono (by decide)) (a_cons (e_var 3) a_nil))) (ss_cons (s_set 6 sc_law.nd (e_callHIO 1 (has__law_handed T) (hr.mono (by decide)) (a_cons (e_var 5) a_nil))) (ss_cons (s_set 7 sc_law.nd (e_repr hr hgd T.z_repr (a_cons (e_var 6) a_nil))) (ss_cons (s_set 8 sc_law.nd (e_callHIO 1 (has__law_handed T) (hr.mono (by decide)) (a_cons (e_var 3) a_nil))) (ss_cons (s_if (t_w (w_or (t_ne hr.units (e_repr hr hgd T.z_repr (a_cons (e_callH (has_shown_by T) (hr.mono (by decide)) (a_cons (e_var 8) (a_cons (e_var 6) a_nil))) a_nil)) (e_repr hr hgd T.z_repr (a_cons (e_callH (has__law_number T) (hr.mono (by decide)) (a_cons (e_var 3) (a_cons (e_var 5) a_nil))) a_nil))) (w_or1 (t_ne hr.units (e_repr hr hgd T.z_repr (a_cons (e_var 6) a_nil)) (e_var 7))))) (ss_one (s_ret e_bl)) ss_nil) (ss_cons (s_set 9 sc_law.nd (e_lst (a_cons e_non (a_cons e_int (a_cons e_str (a_cons (e_tup (a_cons e_int a_nil)) (a_cons (e_tup (a_cons e_int (a_cons e_str (a_cons e_int a_nil)))) (a_cons (e_tup (a_cons e_str (a_cons e_str a_nil))) (a_cons (e_tup (a_cons e_bl (a_cons e_str a_nil))) (a_cons (e_tup (a_cons e_int (a_cons e_non a_nil))) (a_cons (e_tup (a_cons e_int (a_cons e_str a_nil))) (a_cons (e_tup (a_cons e_int (a_cons e_str a_nil))) (a_cons (e_tup (a_cons e_int (a_cons e_str a_nil))) a_nil))))))))))))) (ss_cons (s_set 9 sc_law.nd (e_add (e_var 9) (e_lst (a_cons (e_tup (a_cons (e_neg e_int) (a_cons e_str a_nil))) (a_cons (e_tup (a_cons (e_ix (e_var 3) e_int) (a_cons e_str a_nil))) (a_cons (e_tup (a_cons e_int (a_cons (e_lst (a_cons e_str a_nil)) a_nil))) (a_cons (e_tup (a_cons e_int (a_cons e_int a_nil))) (a_cons (e_lst a_nil) (a_cons e_dict0 (a_cons (e_tup (a_cons e_non (a_cons e_str a_nil))) a_nil)))))))))) (ss_cons (s_set 9 sc_law.nd (e_ix (e_var 9) (e_callHIO 1 (has__law_draw T) (hr.mono (by decide)) (a_cons e_int a_nil)))) (ss_cons (s_set 10 sc_law.nd (e_callHIO 1 (has__law_draw T) (hr.mono (by decide)) (a_cons (e_add (e_len T.z_len (a_cons (e_var 5) a_nil)) e_int) a_nil))) (ss_one (s_for PassesOwn.never (i_any (e_lst (a_cons (e_add (e_add (e_sl (e_var 5) o_none (o_some (e_var 10))) (e_lst (a_cons (e_var 9) a_nil))) (e_sl (e_var 5) (o_some (e_var 10)) o_none)) (a_cons e_non (a_cons e_int (a_cons e_bl (a_cons e_str (a_cons e_dict0 (a_cons (e_dictK e_int e_str) a_nil))))))))) (g_name 11 sc_law.nd) (ss_one (s_if (t_isNot (e_callH (has_shown_by T) (hr.mono (by decide)) (a_cons (e_var 3) (a_cons (e_var 11) a_nil))) e_non) (ss_one (s_ret e_bl)) ss_nil)) (fun _ => trivial))))))))))))) (ss_one (s_if (t_w (w_or (t_ne hr.units (e_callH (has_shown_by T) (hr.mono (by decide)) (a_cons (e_var 3) (a_cons (e_lst a_nil) a_nil))) (e_len T.z_len (a_cons (e_callH (has__law_parts T) (hr.mono (by decide)) (a_cons (e_var 3) a_nil)) a_nil))) (w_or1 (t_ne hr.units (e_callH (has_shown_by T) (hr.mono (by decide)) (a_cons (e_var 3) (a_cons (e_tup a_nil) a_nil))) (e_len T.z_len (a_cons (e_callH (has__law_parts T) (hr.mono (by decide)) (a_cons (e_var 3) a_nil)) a_nil)))))) (ss_one (s_ret e_bl)) ss_nil))))) (ss_one (s_ret e_bl))))
end
end Lw.k28

set_option maxHeartbeats 4000000
namespace Lw.k28
open PySem Fu Lw
local macro_rules | `(tactic| walk_at "e1") => `(tactic| first
  | with_reducible refine eo_seq ?_ | (with_reducible refine then_nx' ?_; refine ⟨?_, ?_, ?_⟩; rotate_left; · (try dsimp only [List.set, List.length_cons, List.length_nil, List.cons_append, List.nil_append, Nat.zero_add, Nat.reduceAdd]); exact rfl) | with_reducible refine then_rt ?_ | with_reducible refine eo_if ?_ | with_reducible refine eo_ret ?_ | with_reducible refine eo_set ?_ | with_reducible refine eo_asg ?_ | with_reducible refine eo_drop ?_ | with_reducible refine eo_nx ?_ | with_reducible refine eo_par ?_ | with_reducible refine eo_own ?_ | with_reducible refine eo_retN ?_ | with_reducible refine eo_for ?_ | with_reducible refine eo_retO ?_
  | with_reducible refine ev_c ?_ | (with_reducible refine ev_var ?_; refine ⟨_, rfl, ?_⟩) | with_reducible refine ev_bin ?_ | with_reducible refine ev_un ?_ | with_reducible refine ev_nil ?_ | with_reducible refine ev_cons ?_
  | with_reducible refine ev_tup ?_ | with_reducible refine ev_lst ?_ | with_reducible refine ev_call ?_ | with_reducible refine ev_callF ?_ | with_reducible refine ev_isi ?_ | with_reducible refine ev_isi2 ?_ | with_reducible refine ev_andV ?_ | with_reducible refine ev_orV ?_ | with_reducible refine ev_notV ?_
  | with_reducible refine ev_B ?_ | with_reducible refine ev_and ?_ | with_reducible refine ev_or ?_ | with_reducible refine ev_not ?_ | with_reducible refine ev_yes ?_ | with_reducible refine ev_if ?_ | with_reducible refine ev_no ?_ | with_reducible refine ev_so ?_ | with_reducible refine ev_sl ?_ | with_reducible refine ev_items ?_
  | (with_reducible refine ev_ixO ?_; refine ⟨_, _, rfl, rfl, ?_⟩) | (with_reducible refine ev_varO ?_; refine ⟨_, _, rfl, rfl, ?_⟩) | (with_reducible refine ev_lenO ?_; refine ⟨_, _, rfl, rfl, ?_⟩) | (with_reducible refine ev_scrSl ?_; refine ⟨_, rfl, ?_⟩) | (with_reducible refine ev_scrLen ?_; refine ⟨_, rfl, ?_⟩) | (with_reducible refine ev_callScr ?_; refine ⟨_, rfl, ?_⟩) | (with_reducible refine ev_OL ?_; refine ⟨_, _, rfl, rfl, ?_⟩) | with_reducible refine ev_OR ?_ | with_reducible refine ev_rep ?_ | with_reducible refine ev_listRng1 ?_ | with_reducible refine eo_setO ?_
  | with_reducible refine es_name ?_ | with_reducible refine es_tup2 ?_ | with_reducible refine es_tup3 ?_
  | with_reducible refine ed_addI ?_ | with_reducible refine ed_subI ?_ | with_reducible refine ed_cmp ?_ | with_reducible refine ed_eqI ?_ | with_reducible refine ed_neI ?_ | with_reducible refine ed_slT ?_ | with_reducible refine ed_slL ?_ | with_reducible refine ed_lenT ?_ | with_reducible refine ed_lenL ?_ | with_reducible refine ed_lenS ?_ | with_reducible refine ed_inS ?_ | with_reducible refine ed_itT ?_ | with_reducible refine ed_itL ?_ | with_reducible refine ed_tupL ?_ | with_reducible refine ed_tupT ?_ | with_reducible refine ed_listL ?_ | with_reducible refine ed_listT ?_ | with_reducible refine ed_neg ?_ | with_reducible refine ed_max ?_ | with_reducible refine ed_min ?_ | with_reducible refine ed_intB ?_
  | with_reducible refine ev_rng1 ?_ | with_reducible refine ev_rng2 ?_)
local macro_rules | `(tactic| walk_at "sd") => `(tactic| first | rfl | assumption | (simp only [decide_eq_true_eq, decide_eq_false_iff_not, Bool.not_eq_true', Bool.not_eq_false', Bool.and_eq_true, Bool.or_eq_true, List.length_map, List.length_cons, List.length_nil, List.length_append, List.length_range] at *; omega))
local macro_rules | `(tactic| walk_at "e2") => `(tactic| first
  | walk_at "e1" | with_reducible refine ⟨_, rfl, ?_⟩ | with_reducible refine ⟨_, _, rfl, ?_⟩
  | with_reducible refine And.intro (Eq.refl (List.length _)) ?_ | with_reducible refine And.intro (Nat.le_of_ble_eq_true (n := List.length _) rfl) ?_
  | with_reducible refine And.intro (Eq.refl (_ : Sx)) (?_ : Ed _ _)
  | ((with_reducible refine And.intro ?_ (And.intro ?_ (?_ : Ev _ _))); (· rfl); (· rfl))
  | ((with_reducible refine ed_ixTx ?_); refine ⟨_, by decide, rfl, ?_⟩) | ((with_reducible refine ed_ixLx ?_); refine ⟨_, by decide, rfl, ?_⟩) | ((with_reducible refine es_star ?_))
  | with_reducible refine an_tt ?_ | with_reducible refine an_ft ?_ | with_reducible refine an_tf ?_ | with_reducible refine an_ff ?_ | with_reducible refine an_ntt ?_ | with_reducible refine an_nft ?_ | with_reducible refine an_ntf ?_ | with_reducible refine an_nff ?_
  | ((with_reducible refine ed_dneSelf ?_)) | ((with_reducible refine ed_deqSelf ?_))
  | ((with_reducible refine ed_ixT ?_ ?_ ?_); (· decide); (· rfl)) | ((with_reducible refine ed_ixL ?_ ?_ ?_); (· decide); (· rfl)) | ((with_reducible refine ed_at ?_ ?_ ?_); (· decide); (· rfl))
  | ((with_reducible refine ed_modI ?_ ?_); (· first | decide | omega))
  | with_reducible exact gives_nx | ((with_reducible refine gives_rt ?_); (· rfl)) | ((with_reducible refine And.intro ?_ ?_); (· exact rfl); (· with_reducible exact Eq.refl (_ : Sx))))
local macro_rules | `(tactic| walk_at "e") => `(tactic| repeat walk_at "e2")
/-- begin a def's spec -/
local macro_rules | `(tactic| walk_at "i") => `(tactic| simp only [initS, List.map_cons, List.map_nil, List.length_cons, List.length_nil, Nat.reduceAdd, Nat.reduceSub, List.replicate, List.cons_append, List.nil_append])
/-- a known truth decides -/
local macro_rules | `(tactic| walk_at "t") => `(tactic| first | ((with_reducible refine split_t ?_ ?_); (· walk_at "sd")) | ((with_reducible refine split_t' ?_ ?_); (· walk_at "sd")))
local macro_rules | `(tactic| walk_at "f") => `(tactic| first | ((with_reducible refine split_f ?_ ?_); (· walk_at "sd")) | ((with_reducible refine split_f' ?_ ?_); (· walk_at "sd")))
/-- all that is seen in a look -/
local macro_rules | `(tactic| walk_at "v") => `(tactic| (rw [sealAll_mk (by (simp only [List.set_cons_zero, List.set_cons_succ, List.map_cons, List.map_nil, sealS_none, sealS_dat, sealS_scr, sealS_own, List.getElem?_cons_zero, List.getElem?_cons_succ, sealC_lst]; rfl)) (by (simp only [List.set_cons_zero, List.set_cons_succ, List.map_cons, List.map_nil]; rfl))]))
open Lw.Sp Pt
theorem ev_dict0 {S : Sx} {Q : D → Sx → Prop} (q : Q (.dict []) S) : Ev (gDict0 S) Q := ⟨_, _, rfl, q⟩
theorem ev_dictK {S : Sx} {ge gv : M D} {Q : D → Sx → Prop} (h : Ev (ge S) fun x S1 => Ev (gv S1) fun _ S2 => ∃ k, keyOf x = some k ∧ Q (.dict [(.none, .none)]) S2) : Ev (gDictK ge gv S) Q := by
  obtain ⟨_, S1, e1, _, S2, e2, k, hk, q⟩ := h
  exact ⟨_, _, by simp only [gDictK, e1, e2, Option.bind_some, hk], q⟩
theorem bad_k28 {p : Int} {ls : List Ln} (p0 : 0 < p) {d : D} (hd : d ∈ [PyData.none, .int 0, .str (Str.ofString "0:a"), .tuple [.int 0], .tuple [.int 0, .str (Str.ofString "a"), .int 0], .tuple [.str (Str.ofString "0"), .str (Str.ofString "a")], .tuple [.bool true, .str (Str.ofString "a")], .tuple [.int 0, .none], .tuple [.int 0, .str (Str.ofString "A")], .tuple [.int 0, .str (Str.ofString "ab")], .tuple [.int 0, .str (Str.ofString "")]] ++
    [PyData.tuple [.int (-1), .str (Str.ofString "odd")], .tuple [.int p, .str (Str.ofString "odd")], .tuple [.int 0, .list [.str (Str.ofString "odd")]], .tuple [.int 0, .int 1], .list [], .dict [], .tuple [.none, .str (Str.ofString "odd")]]) : m_is_reason [wb p ls, d] = some (.bool false) := by
  have hw := web_wb p ls
  have bad : ∀ b : D, okB b = false → m_is_reason [wb p ls, .tuple [.int 0, b]] = some (.bool false) := fun b hb =>
    x_is_reason_in hw (sq_t _) (by decide) p0 false (fun _ => rfl) fun z => by rw [hb] at z; cases z
  rcases List.mem_append.mp hd with hd | hd
  · simp only [List.mem_cons, List.not_mem_nil, or_false] at hd
    rcases hd with rfl | rfl | rfl | rfl | rfl | rfl | rfl | rfl | rfl | rfl | rfl
    · exact x_is_reason_no rfl
    · exact x_is_reason_no rfl
    · exact x_is_reason_no rfl
    · exact x_is_reason_no rfl
    · exact x_is_reason_no rfl
    · exact x_is_reason_whole (sq_t _) rfl
    · exact x_is_reason_whole (sq_t _) rfl
    · exact bad _ rfl
    · exact bad _ (by decide +kernel)
    · exact bad _ (by decide +kernel)
    · exact bad _ (by decide +kernel)
  · simp only [List.mem_cons, List.not_mem_nil, or_false] at hd
    rcases hd with rfl | rfl | rfl | rfl | rfl | rfl | rfl
    · exact x_is_reason_whole (sq_t _) (by decide)
    · exact x_is_reason_big hw (sq_t _) (by omega) (Int.le_refl _)
    · exact bad _ rfl
    · exact bad _ rfl
    · exact x_is_reason_no rfl
    · exact x_is_reason_no rfl
    · exact x_is_reason_whole (sq_t _) rfl
theorem law_true : ∀ ns : List Int, ns.length ≤ 63 → mScr 12 g_law ns = some (.bool true) := by
  intro ns hns
  refine mScr_of ?_; walk_at "i"; unfold g_law
  walk_at "e"
  obtain ⟨cs, e, hR⟩ := x_spring hns
  refine Ed.of e ?_
  walk_at "e"
  refine ⟨by omega, by omega, ?_⟩
  refine eo_loop (fun i S => ∃ x2 x3 x4 x5 x6 x7 x8 x9 x10 x11 cs, S = ⟨[some (.scr ns), some (.own 0), x2, x3, x4, x5, x6, x7, x8, x9, x10, x11], [some (.lst cs)]⟩ ∧ Reel (4294967296 - 10000 * i) cs) ⟨_, _, _, _, _, _, _, _, _, _, _, rfl, hR⟩ ?_ ?_
  · rintro i z S hz ⟨x2, x3, x4, x5, x6, x7, x8, x9, x10, x11, cs, rfl, hR⟩
    obtain ⟨hi, rfl⟩ := rng_at hz
    have hi : i < 10 := by omega
    walk_at "e"
    refine ev_IO ⟨_, rfl, ?_⟩
    walk_at "e"
    obtain ⟨d, cs, e, p, ls, rfl, hw, p0, p1, hl, hR⟩ := x__law_web (most := 40) (by decide) hR (by omega)
    refine ⟨_, _, e, ?_⟩
    have hwb := web_wb p ls
    obtain ⟨L, sL, _⟩ := id hwb
    have sh := shw_web hwb hw (by omega)
    walk_at "e"
    refine ⟨by omega, by omega, ?_⟩
    refine eo_loop (fun j S => ∃ x4 x5 x6 x7 x8 x9 x10 x11 cs, S = ⟨[some (.scr ns), some (.own 0), some (.dat (.int (0 + (i : Int)))), some (.dat (wb p ls)), x4, x5, x6, x7, x8, x9, x10, x11], [some (.lst cs)]⟩ ∧ Reel (4294967296 - 10000 * i - 200 - 300 * j) cs) ⟨_, _, _, _, _, _, _, _, _, rfl, hR.mono (by omega)⟩ ?_ ?_
    · rintro j z S hz ⟨x4, x5, x6, x7, x8, x9, x10, x11, cs, rfl, hR⟩
      obtain ⟨hj, rfl⟩ := rng_at hz
      have hj : j < 4 := by omega
      walk_at "e"
      refine ev_IO ⟨_, rfl, ?_⟩
      walk_at "e"
      obtain ⟨pr, cs, e, hp, hpl, hR⟩ := x__law_paper hw (by omega) p1 hR (by omega)
      refine ⟨_, _, e, ?_⟩
      have hT : ∀ x ∈ pr, Sq (prT x) [.int x.1, rsD x.2] := fun x _ => sq_t _
      have hL : ∀ x ∈ pr, Sq (prL x) [.int x.1, rsD x.2] := fun x _ => sq_l _
      have hsm : ∀ x ∈ pr, x.1.natAbs < 10 ^ 12 ∧ RsOk x.2 := fun x hx => ⟨by have := (hp x hx).2; omega, (hp x hx).1⟩
      have hok : ∀ x ∈ pr, RsOk x.2 := fun x hx => (hp x hx).1
      have sT := shw_paper hT hsm
      walk_at "e"
      refine ev_IO ⟨_, rfl, ?_⟩
      walk_at "e"
      obtain ⟨n, cs, e2, hn, hR⟩ := x__law_handed hR (by omega) (show (PyData.list (pr.map prT)).depth < 8 by have := sT.dep; omega)
      refine ⟨_, _, e2, ?_⟩
      obtain ⟨enc, rfl, he⟩ : ∃ enc, n = .list (pr.map enc) ∧ ∀ x ∈ pr, Sq (enc x) [.int x.1, rsD x.2] := by
        rcases hn with rfl | rfl
        · exact ⟨prT, rfl, hT⟩
        · exact ⟨prL, lists_paper pr, hL⟩
      have sn := shw_paper he hsm
      walk_at "e"
      refine ed_repr (sq_l _) sn ?_
      walk_at "e"
      refine ev_IO ⟨_, rfl, ?_⟩
      walk_at "e"
      obtain ⟨v, cs, e3, hv, hR⟩ := x__law_handed hR (by omega) (show (wb p ls).depth < 8 by have := sh.dep; omega)
      refine ⟨_, _, e3, ?_⟩
      have hv : Web v p ls := by rcases hv with rfl | rfl; exact hwb; exact web_lists hwb
      walk_at "e"
      refine Ed.of (x_shown_by hv hw (by omega) (by omega) (sq_l _) he hok) ?_
      have rep : ∃ t, dRepr [if ∀ x ∈ pr, goodR p ls x = true then if (pr.map (·.1)).Nodup then .int (numW p ls pr) else .none else .none] = some (.str t) := by
        split
        · split
          · obtain ⟨_, e, rfl⟩ := ed_reprI (numW_small (p := p) (ls := ls) (by omega) (by omega) pr) (Q := fun z => z = .str (Str.ofString (toString (numW p ls pr)))) rfl
            exact ⟨_, e⟩
          · exact ⟨_, rfl⟩
        · exact ⟨_, rfl⟩
      have hnum := x__law_number hw (by omega) (by omega) hok (by omega : pr.length ≤ 4000)
      generalize (if ∀ x ∈ pr, goodR p ls x = true then if (pr.map (·.1)).Nodup then PyData.int (numW p ls pr) else .none else .none) = val at rep hnum
      obtain ⟨t, ht⟩ := rep
      walk_at "e"
      refine Ed.of ht ?_
      walk_at "e"
      refine Ed.of hnum ?_
      walk_at "e"
      refine Ed.of ht ?_
      walk_at "e"
      refine ed_repr (sq_l _) sn ?_
      walk_at "e"
      refine ed_at (i := 0) (by decide) rfl ?_
      walk_at "e"
      refine ev_dict0 ?_
      walk_at "e"
      refine ed_addL (by simp only [List.length_cons, List.length_nil]; omega) ?_
      walk_at "e"
      refine ev_drawR ⟨_, rfl, ?_⟩
      walk_at "e"
      refine ⟨_, _, _, rfl, rfl, hR, by omega, by decide, by decide, fun v9 cs a9 b9 hR => ?_⟩
      refine ed_picked a9 (by simpa using b9) (fun d hd => bad_k28 (ls := ls) p0 hd) ?_
      intro odd _ hodd
      walk_at "e"
      refine ev_drawR ⟨_, rfl, ?_⟩
      walk_at "e"
      refine ⟨_, _, _, rfl, rfl, hR, by omega, by rw [List.length_map]; omega, by rw [List.length_map]; omega, fun v10 cs a10 b10 hR => ?_⟩
      walk_at "e"
      rw [cut_to a10]
      have ht1 : ((pr.map prT).take v10.toNat).length ≤ 25 := Nat.le_trans (List.length_take_le' _ _) (by rw [List.length_map]; exact hpl)
      refine ed_addL (by rw [List.length_singleton]; omega) ?_
      walk_at "e"
      rw [cut_from a10]
      have ht2 : ((pr.map prT).drop v10.toNat).length ≤ 25 := by rw [List.length_drop, List.length_map]; omega
      refine ed_addL (by rw [List.length_append, List.length_singleton]; omega) ?_
      have hres : ∀ d ∈ pr.map prT, ∃ b, m_is_reason [wb p ls, d] = some (.bool b) := fun d hd => by
        obtain ⟨x, hx, rfl⟩ := List.mem_map.mp hd
        exact ⟨_, x_is_reason hwb hw (by omega) (hok x hx) (sq_t _)⟩
      have hbig : m_shown_by [wb p ls, .list ((pr.map prT).take v10.toNat ++ [odd] ++ (pr.map prT).drop v10.toNat)] = some .none := by
        refine bad_elem (sq_l _) (fun d hd => ?_) ⟨odd, List.mem_append_left _ (List.mem_append_right _ (List.mem_singleton.mpr rfl)), hodd⟩
        rcases List.mem_append.mp hd with hd | hd
        · rcases List.mem_append.mp hd with hd | hd
          · exact hres d (List.mem_of_mem_take hd)
          · rw [List.mem_singleton.mp hd]
            exact ⟨_, hodd⟩
        · exact hres d (List.mem_of_mem_drop hd)
      generalize (pr.map prT).take v10.toNat ++ [odd] ++ (pr.map prT).drop v10.toNat = big at hbig
      walk_at "e"
      refine ev_dict0 ?_
      walk_at "e"
      refine ev_dictK ?_
      walk_at "e"
      have hall : ∀ d ∈ [PyData.list big, .none, .int 5, .bool true, .str (Str.ofString "odd"), .dict [], .dict [(.none, .none)]], m_shown_by [wb p ls, d] = some .none := by
        intro d hd
        simp only [List.mem_cons, List.not_mem_nil, or_false] at hd
        rcases hd with rfl | rfl | rfl | rfl | rfl | rfl | rfl
        · exact hbig
        all_goals exact x_shown_none rfl
      generalize [PyData.list big, .none, .int 5, .bool true, .str (Str.ofString "odd"), .dict [], .dict [(.none, .none)]] = T at hall
      refine eo_loop (fun _ S => ∃ x11, S = ⟨[some (.scr ns), some (.own 0), some (.dat (.int (0 + (i : Int)))), some (.dat (wb p ls)), some (.dat (.int (0 + (j : Int)))), some (.dat (.list (pr.map prT))), some (.dat (.list (pr.map enc))), some (.dat (.str (PyData.list (pr.map enc)).shown)), some (.dat v), some (.dat odd), some (.dat (.int v10)), x11], [some (.lst cs)]⟩) ⟨_, rfl⟩ ?_ ?_
      · rintro k d S hd ⟨x11, rfl⟩
        walk_at "e"
        refine Ed.of (hall d (List.mem_of_getElem? hd)) ?_
        walk_at "e"
        refine ⟨.bool false, rfl, ?_⟩
        walk_at "e"
        exact ⟨_, rfl⟩
      · rintro S ⟨x11, rfl⟩
        exact ⟨_, rfl, _, _, _, _, _, _, _, _, _, rfl, hR.mono (by omega)⟩
    · rintro S ⟨x4, x5, x6, x7, x8, x9, x10, x11, cs, rfl, hR⟩
      rw [rng_len] at hR
      have hnone : ∀ n, Sq n [] → m_shown_by [wb p ls, n] = some (.int (usedL p ls).length) := fun n s => by
        have := x_shown_by hwb hw (by omega) (by omega) (pr := []) (enc := prT) s (fun _ h => nomatch h) (fun _ h => nomatch h)
        rw [if_pos (fun _ h => nomatch h), if_pos (show ((([] : List (Int × Rs)).map (·.1))).Nodup from List.nodup_nil), num_nil] at this
        exact this
      walk_at "e"
      refine Ed.of (hnone _ (sq_l _)) ?_
      walk_at "e"
      refine Ed.of (x__law_parts hw (by omega) (by omega)) ?_
      walk_at "e"
      rw [List.length_map, decide_eq_true rfl]
      walk_at "e"
      refine Ed.of (hnone _ (sq_t _)) ?_
      walk_at "e"
      refine Ed.of (x__law_parts hw (by omega) (by omega)) ?_
      walk_at "e"
      rw [List.length_map, decide_eq_true rfl]
      walk_at "e"
      exact ⟨_, _, _, _, _, _, _, _, _, _, _, rfl, hR.mono (by omega)⟩
  · rintro S ⟨x2, x3, x4, x5, x6, x7, x8, x9, x10, x11, cs, rfl, hR⟩
    walk_at "e"
    exact ⟨_, rfl⟩
end Lw.k28

set_option maxHeartbeats 16000000
namespace Lw.k28
open PySem PySem.Spec PyProof.Rows L2 RZ Fu Lw
theorem all_mk {l : PySem.W.OpenLaw} {w : World} {K : PySem.W.Frag} {h : Heap} {mg : Str → Option Value} {fa : Addr} (X : K.In h) (G : h.Ns mainGlobals mg) (hfa : mg "law" = some (.ref fa))
    {f__law_spring : Addr} {od__law_spring an__law_spring : Option Addr} {sl__law_spring : Array (Option Value)} {oc__law_spring kV__law_spring dc__law_spring pm__law_spring cd__law_spring ct__law_spring : Value}
    (a__law_spring : PySem.W.nsIn K mainGlobals "_law_spring" = some (some (.ref f__law_spring)))
    (l__law_spring : K.lookup f__law_spring = some ⟨oc__law_spring, od__law_spring, .func (PySem.W.fnOf "_law_spring" "_law_spring" (defArgs s__law_spring) (defBody s__law_spring) (defScope s__law_spring) .none kV__law_spring dc__law_spring pm__law_spring an__law_spring cd__law_spring ct__law_spring), sl__law_spring⟩)
    (c__law_spring : PySem.W.codeIn K cd__law_spring "_law_spring" = true)
    (k__law_spring : PySem.W.keepIn K (.ref f__law_spring) = true)
    {f__law_draw : Addr} {od__law_draw an__law_draw : Option Addr} {sl__law_draw : Array (Option Value)} {oc__law_draw kV__law_draw dc__law_draw pm__law_draw cd__law_draw ct__law_draw : Value}
    (a__law_draw : PySem.W.nsIn K mainGlobals "_law_draw" = some (some (.ref f__law_draw)))
    (l__law_draw : K.lookup f__law_draw = some ⟨oc__law_draw, od__law_draw, .func (PySem.W.fnOf "_law_draw" "_law_draw" (defArgs s__law_draw) (defBody s__law_draw) (defScope s__law_draw) .none kV__law_draw dc__law_draw pm__law_draw an__law_draw cd__law_draw ct__law_draw), sl__law_draw⟩)
    (c__law_draw : PySem.W.codeIn K cd__law_draw "_law_draw" = true)
    (k__law_draw : PySem.W.keepIn K (.ref f__law_draw) = true)
    {f__law_web : Addr} {od__law_web an__law_web : Option Addr} {sl__law_web : Array (Option Value)} {oc__law_web kV__law_web dc__law_web pm__law_web cd__law_web ct__law_web : Value}
    (a__law_web : PySem.W.nsIn K mainGlobals "_law_web" = some (some (.ref f__law_web)))
    (l__law_web : K.lookup f__law_web = some ⟨oc__law_web, od__law_web, .func (PySem.W.fnOf "_law_web" "_law_web" (defArgs s__law_web) (defBody s__law_web) (defScope s__law_web) .none kV__law_web dc__law_web pm__law_web an__law_web cd__law_web ct__law_web), sl__law_web⟩)
    (c__law_web : PySem.W.codeIn K cd__law_web "_law_web" = true)
    (k__law_web : PySem.W.keepIn K (.ref f__law_web) = true)
    {f__law_all_ends : Addr} {od__law_all_ends an__law_all_ends : Option Addr} {sl__law_all_ends : Array (Option Value)} {oc__law_all_ends kV__law_all_ends dc__law_all_ends pm__law_all_ends cd__law_all_ends ct__law_all_ends : Value}
    (a__law_all_ends : PySem.W.nsIn K mainGlobals "_law_all_ends" = some (some (.ref f__law_all_ends)))
    (l__law_all_ends : K.lookup f__law_all_ends = some ⟨oc__law_all_ends, od__law_all_ends, .func (PySem.W.fnOf "_law_all_ends" "_law_all_ends" (defArgs s__law_all_ends) (defBody s__law_all_ends) (defScope s__law_all_ends) .none kV__law_all_ends dc__law_all_ends pm__law_all_ends an__law_all_ends cd__law_all_ends ct__law_all_ends), sl__law_all_ends⟩)
    (c__law_all_ends : PySem.W.codeIn K cd__law_all_ends "_law_all_ends" = true)
    (k__law_all_ends : PySem.W.keepIn K (.ref f__law_all_ends) = true)
    {f__law_signs : Addr} {od__law_signs an__law_signs : Option Addr} {sl__law_signs : Array (Option Value)} {oc__law_signs kV__law_signs dc__law_signs pm__law_signs cd__law_signs ct__law_signs : Value}
    (a__law_signs : PySem.W.nsIn K mainGlobals "_law_signs" = some (some (.ref f__law_signs)))
    (l__law_signs : K.lookup f__law_signs = some ⟨oc__law_signs, od__law_signs, .func (PySem.W.fnOf "_law_signs" "_law_signs" (defArgs s__law_signs) (defBody s__law_signs) (defScope s__law_signs) .none kV__law_signs dc__law_signs pm__law_signs an__law_signs cd__law_signs ct__law_signs), sl__law_signs⟩)
    (c__law_signs : PySem.W.codeIn K cd__law_signs "_law_signs" = true)
    (k__law_signs : PySem.W.keepIn K (.ref f__law_signs) = true)
    {f__law_shown : Addr} {od__law_shown an__law_shown : Option Addr} {sl__law_shown : Array (Option Value)} {oc__law_shown kV__law_shown dc__law_shown pm__law_shown cd__law_shown ct__law_shown : Value}
    (a__law_shown : PySem.W.nsIn K mainGlobals "_law_shown" = some (some (.ref f__law_shown)))
    (l__law_shown : K.lookup f__law_shown = some ⟨oc__law_shown, od__law_shown, .func (PySem.W.fnOf "_law_shown" "_law_shown" (defArgs s__law_shown) (defBody s__law_shown) (defScope s__law_shown) .none kV__law_shown dc__law_shown pm__law_shown an__law_shown cd__law_shown ct__law_shown), sl__law_shown⟩)
    (c__law_shown : PySem.W.codeIn K cd__law_shown "_law_shown" = true)
    (k__law_shown : PySem.W.keepIn K (.ref f__law_shown) = true)
    {f__law_paper : Addr} {od__law_paper an__law_paper : Option Addr} {sl__law_paper : Array (Option Value)} {oc__law_paper kV__law_paper dc__law_paper pm__law_paper cd__law_paper ct__law_paper : Value}
    (a__law_paper : PySem.W.nsIn K mainGlobals "_law_paper" = some (some (.ref f__law_paper)))
    (l__law_paper : K.lookup f__law_paper = some ⟨oc__law_paper, od__law_paper, .func (PySem.W.fnOf "_law_paper" "_law_paper" (defArgs s__law_paper) (defBody s__law_paper) (defScope s__law_paper) .none kV__law_paper dc__law_paper pm__law_paper an__law_paper cd__law_paper ct__law_paper), sl__law_paper⟩)
    (c__law_paper : PySem.W.codeIn K cd__law_paper "_law_paper" = true)
    (k__law_paper : PySem.W.keepIn K (.ref f__law_paper) = true)
    {f__law_lists : Addr} {od__law_lists an__law_lists : Option Addr} {sl__law_lists : Array (Option Value)} {oc__law_lists kV__law_lists dc__law_lists pm__law_lists cd__law_lists ct__law_lists : Value}
    (a__law_lists : PySem.W.nsIn K mainGlobals "_law_lists" = some (some (.ref f__law_lists)))
    (l__law_lists : K.lookup f__law_lists = some ⟨oc__law_lists, od__law_lists, .func (PySem.W.fnOf "_law_lists" "_law_lists" (defArgs s__law_lists) (defBody s__law_lists) (defScope s__law_lists) .none kV__law_lists dc__law_lists pm__law_lists an__law_lists cd__law_lists ct__law_lists), sl__law_lists⟩)
    (c__law_lists : PySem.W.codeIn K cd__law_lists "_law_lists" = true)
    (k__law_lists : PySem.W.keepIn K (.ref f__law_lists) = true)
    {f__law_handed : Addr} {od__law_handed an__law_handed : Option Addr} {sl__law_handed : Array (Option Value)} {oc__law_handed kV__law_handed dc__law_handed pm__law_handed cd__law_handed ct__law_handed : Value}
    (a__law_handed : PySem.W.nsIn K mainGlobals "_law_handed" = some (some (.ref f__law_handed)))
    (l__law_handed : K.lookup f__law_handed = some ⟨oc__law_handed, od__law_handed, .func (PySem.W.fnOf "_law_handed" "_law_handed" (defArgs s__law_handed) (defBody s__law_handed) (defScope s__law_handed) .none kV__law_handed dc__law_handed pm__law_handed an__law_handed cd__law_handed ct__law_handed), sl__law_handed⟩)
    (c__law_handed : PySem.W.codeIn K cd__law_handed "_law_handed" = true)
    (k__law_handed : PySem.W.keepIn K (.ref f__law_handed) = true)
    {f_is_whole : Addr} {od_is_whole an_is_whole : Option Addr} {sl_is_whole : Array (Option Value)} {oc_is_whole kV_is_whole dc_is_whole pm_is_whole cd_is_whole ct_is_whole : Value}
    (a_is_whole : PySem.W.nsIn K mainGlobals "is_whole" = some (some (.ref f_is_whole)))
    (l_is_whole : K.lookup f_is_whole = some ⟨oc_is_whole, od_is_whole, .func (PySem.W.fnOf "is_whole" "is_whole" (defArgs s_is_whole) (defBody s_is_whole) (defScope s_is_whole) .none kV_is_whole dc_is_whole pm_is_whole an_is_whole cd_is_whole ct_is_whole), sl_is_whole⟩)
    (c_is_whole : PySem.W.codeIn K cd_is_whole "is_whole" = true)
    (k_is_whole : PySem.W.keepIn K (.ref f_is_whole) = true)
    {f_need_place : Addr} {od_need_place an_need_place : Option Addr} {sl_need_place : Array (Option Value)} {oc_need_place kV_need_place dc_need_place pm_need_place cd_need_place ct_need_place : Value}
    (a_need_place : PySem.W.nsIn K mainGlobals "need_place" = some (some (.ref f_need_place)))
    (l_need_place : K.lookup f_need_place = some ⟨oc_need_place, od_need_place, .func (PySem.W.fnOf "need_place" "need_place" (defArgs s_need_place) (defBody s_need_place) (defScope s_need_place) .none kV_need_place dc_need_place pm_need_place an_need_place cd_need_place ct_need_place), sl_need_place⟩)
    (c_need_place : PySem.W.codeIn K cd_need_place "need_place" = true)
    (k_need_place : PySem.W.keepIn K (.ref f_need_place) = true)
    {f_all_ends : Addr} {od_all_ends an_all_ends : Option Addr} {sl_all_ends : Array (Option Value)} {oc_all_ends kV_all_ends dc_all_ends pm_all_ends cd_all_ends ct_all_ends : Value}
    (a_all_ends : PySem.W.nsIn K mainGlobals "all_ends" = some (some (.ref f_all_ends)))
    (l_all_ends : K.lookup f_all_ends = some ⟨oc_all_ends, od_all_ends, .func (PySem.W.fnOf "all_ends" "all_ends" (defArgs s_all_ends) (defBody s_all_ends) (defScope s_all_ends) .none kV_all_ends dc_all_ends pm_all_ends an_all_ends cd_all_ends ct_all_ends), sl_all_ends⟩)
    (c_all_ends : PySem.W.codeIn K cd_all_ends "all_ends" = true)
    (k_all_ends : PySem.W.keepIn K (.ref f_all_ends) = true)
    {f_place_of : Addr} {od_place_of an_place_of : Option Addr} {sl_place_of : Array (Option Value)} {oc_place_of kV_place_of dc_place_of pm_place_of cd_place_of ct_place_of : Value}
    (a_place_of : PySem.W.nsIn K mainGlobals "place_of" = some (some (.ref f_place_of)))
    (l_place_of : K.lookup f_place_of = some ⟨oc_place_of, od_place_of, .func (PySem.W.fnOf "place_of" "place_of" (defArgs s_place_of) (defBody s_place_of) (defScope s_place_of) .none kV_place_of dc_place_of pm_place_of an_place_of cd_place_of ct_place_of), sl_place_of⟩)
    (c_place_of : PySem.W.codeIn K cd_place_of "place_of" = true)
    (k_place_of : PySem.W.keepIn K (.ref f_place_of) = true)
    {f_ends_at : Addr} {od_ends_at an_ends_at : Option Addr} {sl_ends_at : Array (Option Value)} {oc_ends_at kV_ends_at dc_ends_at pm_ends_at cd_ends_at ct_ends_at : Value}
    (a_ends_at : PySem.W.nsIn K mainGlobals "ends_at" = some (some (.ref f_ends_at)))
    (l_ends_at : K.lookup f_ends_at = some ⟨oc_ends_at, od_ends_at, .func (PySem.W.fnOf "ends_at" "ends_at" (defArgs s_ends_at) (defBody s_ends_at) (defScope s_ends_at) .none kV_ends_at dc_ends_at pm_ends_at an_ends_at cd_ends_at ct_ends_at), sl_ends_at⟩)
    (c_ends_at : PySem.W.codeIn K cd_ends_at "ends_at" = true)
    (k_ends_at : PySem.W.keepIn K (.ref f_ends_at) = true)
    {f_company_of : Addr} {od_company_of an_company_of : Option Addr} {sl_company_of : Array (Option Value)} {oc_company_of kV_company_of dc_company_of pm_company_of cd_company_of ct_company_of : Value}
    (a_company_of : PySem.W.nsIn K mainGlobals "company_of" = some (some (.ref f_company_of)))
    (l_company_of : K.lookup f_company_of = some ⟨oc_company_of, od_company_of, .func (PySem.W.fnOf "company_of" "company_of" (defArgs s_company_of) (defBody s_company_of) (defScope s_company_of) .none kV_company_of dc_company_of pm_company_of an_company_of cd_company_of ct_company_of), sl_company_of⟩)
    (c_company_of : PySem.W.codeIn K cd_company_of "company_of" = true)
    (k_company_of : PySem.W.keepIn K (.ref f_company_of) = true)
    {f_shown_at : Addr} {od_shown_at an_shown_at : Option Addr} {sl_shown_at : Array (Option Value)} {oc_shown_at kV_shown_at dc_shown_at pm_shown_at cd_shown_at ct_shown_at : Value}
    (a_shown_at : PySem.W.nsIn K mainGlobals "shown_at" = some (some (.ref f_shown_at)))
    (l_shown_at : K.lookup f_shown_at = some ⟨oc_shown_at, od_shown_at, .func (PySem.W.fnOf "shown_at" "shown_at" (defArgs s_shown_at) (defBody s_shown_at) (defScope s_shown_at) .none kV_shown_at dc_shown_at pm_shown_at an_shown_at cd_shown_at ct_shown_at), sl_shown_at⟩)
    (c_shown_at : PySem.W.codeIn K cd_shown_at "shown_at" = true)
    (k_shown_at : PySem.W.keepIn K (.ref f_shown_at) = true)
    {f_rides_for : Addr} {od_rides_for an_rides_for : Option Addr} {sl_rides_for : Array (Option Value)} {oc_rides_for kV_rides_for dc_rides_for pm_rides_for cd_rides_for ct_rides_for : Value}
    (a_rides_for : PySem.W.nsIn K mainGlobals "rides_for" = some (some (.ref f_rides_for)))
    (l_rides_for : K.lookup f_rides_for = some ⟨oc_rides_for, od_rides_for, .func (PySem.W.fnOf "rides_for" "rides_for" (defArgs s_rides_for) (defBody s_rides_for) (defScope s_rides_for) .none kV_rides_for dc_rides_for pm_rides_for an_rides_for cd_rides_for ct_rides_for), sl_rides_for⟩)
    (c_rides_for : PySem.W.codeIn K cd_rides_for "rides_for" = true)
    (k_rides_for : PySem.W.keepIn K (.ref f_rides_for) = true)
    {f_hangs_on : Addr} {od_hangs_on an_hangs_on : Option Addr} {sl_hangs_on : Array (Option Value)} {oc_hangs_on kV_hangs_on dc_hangs_on pm_hangs_on cd_hangs_on ct_hangs_on : Value}
    (a_hangs_on : PySem.W.nsIn K mainGlobals "hangs_on" = some (some (.ref f_hangs_on)))
    (l_hangs_on : K.lookup f_hangs_on = some ⟨oc_hangs_on, od_hangs_on, .func (PySem.W.fnOf "hangs_on" "hangs_on" (defArgs s_hangs_on) (defBody s_hangs_on) (defScope s_hangs_on) .none kV_hangs_on dc_hangs_on pm_hangs_on an_hangs_on cd_hangs_on ct_hangs_on), sl_hangs_on⟩)
    (c_hangs_on : PySem.W.codeIn K cd_hangs_on "hangs_on" = true)
    (k_hangs_on : PySem.W.keepIn K (.ref f_hangs_on) = true)
    {f_parts_of : Addr} {od_parts_of an_parts_of : Option Addr} {sl_parts_of : Array (Option Value)} {oc_parts_of kV_parts_of dc_parts_of pm_parts_of cd_parts_of ct_parts_of : Value}
    (a_parts_of : PySem.W.nsIn K mainGlobals "parts_of" = some (some (.ref f_parts_of)))
    (l_parts_of : K.lookup f_parts_of = some ⟨oc_parts_of, od_parts_of, .func (PySem.W.fnOf "parts_of" "parts_of" (defArgs s_parts_of) (defBody s_parts_of) (defScope s_parts_of) .none kV_parts_of dc_parts_of pm_parts_of an_parts_of cd_parts_of ct_parts_of), sl_parts_of⟩)
    (c_parts_of : PySem.W.codeIn K cd_parts_of "parts_of" = true)
    (k_parts_of : PySem.W.keepIn K (.ref f_parts_of) = true)
    {f_is_row : Addr} {od_is_row an_is_row : Option Addr} {sl_is_row : Array (Option Value)} {oc_is_row kV_is_row dc_is_row pm_is_row cd_is_row ct_is_row : Value}
    (a_is_row : PySem.W.nsIn K mainGlobals "is_row" = some (some (.ref f_is_row)))
    (l_is_row : K.lookup f_is_row = some ⟨oc_is_row, od_is_row, .func (PySem.W.fnOf "is_row" "is_row" (defArgs s_is_row) (defBody s_is_row) (defScope s_is_row) .none kV_is_row dc_is_row pm_is_row an_is_row cd_is_row ct_is_row), sl_is_row⟩)
    (c_is_row : PySem.W.codeIn K cd_is_row "is_row" = true)
    (k_is_row : PySem.W.keepIn K (.ref f_is_row) = true)
    {f_is_company : Addr} {od_is_company an_is_company : Option Addr} {sl_is_company : Array (Option Value)} {oc_is_company kV_is_company dc_is_company pm_is_company cd_is_company ct_is_company : Value}
    (a_is_company : PySem.W.nsIn K mainGlobals "is_company" = some (some (.ref f_is_company)))
    (l_is_company : K.lookup f_is_company = some ⟨oc_is_company, od_is_company, .func (PySem.W.fnOf "is_company" "is_company" (defArgs s_is_company) (defBody s_is_company) (defScope s_is_company) .none kV_is_company dc_is_company pm_is_company an_is_company cd_is_company ct_is_company), sl_is_company⟩)
    (c_is_company : PySem.W.codeIn K cd_is_company "is_company" = true)
    (k_is_company : PySem.W.keepIn K (.ref f_is_company) = true)
    {f_is_reason : Addr} {od_is_reason an_is_reason : Option Addr} {sl_is_reason : Array (Option Value)} {oc_is_reason kV_is_reason dc_is_reason pm_is_reason cd_is_reason ct_is_reason : Value}
    (a_is_reason : PySem.W.nsIn K mainGlobals "is_reason" = some (some (.ref f_is_reason)))
    (l_is_reason : K.lookup f_is_reason = some ⟨oc_is_reason, od_is_reason, .func (PySem.W.fnOf "is_reason" "is_reason" (defArgs s_is_reason) (defBody s_is_reason) (defScope s_is_reason) .none kV_is_reason dc_is_reason pm_is_reason an_is_reason cd_is_reason ct_is_reason), sl_is_reason⟩)
    (c_is_reason : PySem.W.codeIn K cd_is_reason "is_reason" = true)
    (k_is_reason : PySem.W.keepIn K (.ref f_is_reason) = true)
    {f_places_of_part : Addr} {od_places_of_part an_places_of_part : Option Addr} {sl_places_of_part : Array (Option Value)} {oc_places_of_part kV_places_of_part dc_places_of_part pm_places_of_part cd_places_of_part ct_places_of_part : Value}
    (a_places_of_part : PySem.W.nsIn K mainGlobals "places_of_part" = some (some (.ref f_places_of_part)))
    (l_places_of_part : K.lookup f_places_of_part = some ⟨oc_places_of_part, od_places_of_part, .func (PySem.W.fnOf "places_of_part" "places_of_part" (defArgs s_places_of_part) (defBody s_places_of_part) (defScope s_places_of_part) .none kV_places_of_part dc_places_of_part pm_places_of_part an_places_of_part cd_places_of_part ct_places_of_part), sl_places_of_part⟩)
    (c_places_of_part : PySem.W.codeIn K cd_places_of_part "places_of_part" = true)
    (k_places_of_part : PySem.W.keepIn K (.ref f_places_of_part) = true)
    {f_shown_by : Addr} {od_shown_by an_shown_by : Option Addr} {sl_shown_by : Array (Option Value)} {oc_shown_by kV_shown_by dc_shown_by pm_shown_by cd_shown_by ct_shown_by : Value}
    (a_shown_by : PySem.W.nsIn K mainGlobals "shown_by" = some (some (.ref f_shown_by)))
    (l_shown_by : K.lookup f_shown_by = some ⟨oc_shown_by, od_shown_by, .func (PySem.W.fnOf "shown_by" "shown_by" (defArgs s_shown_by) (defBody s_shown_by) (defScope s_shown_by) .none kV_shown_by dc_shown_by pm_shown_by an_shown_by cd_shown_by ct_shown_by), sl_shown_by⟩)
    (c_shown_by : PySem.W.codeIn K cd_shown_by "shown_by" = true)
    (k_shown_by : PySem.W.keepIn K (.ref f_shown_by) = true)
    {f__law_parts : Addr} {od__law_parts an__law_parts : Option Addr} {sl__law_parts : Array (Option Value)} {oc__law_parts kV__law_parts dc__law_parts pm__law_parts cd__law_parts ct__law_parts : Value}
    (a__law_parts : PySem.W.nsIn K mainGlobals "_law_parts" = some (some (.ref f__law_parts)))
    (l__law_parts : K.lookup f__law_parts = some ⟨oc__law_parts, od__law_parts, .func (PySem.W.fnOf "_law_parts" "_law_parts" (defArgs s__law_parts) (defBody s__law_parts) (defScope s__law_parts) .none kV__law_parts dc__law_parts pm__law_parts an__law_parts cd__law_parts ct__law_parts), sl__law_parts⟩)
    (c__law_parts : PySem.W.codeIn K cd__law_parts "_law_parts" = true)
    (k__law_parts : PySem.W.keepIn K (.ref f__law_parts) = true)
    {f__law_number : Addr} {od__law_number an__law_number : Option Addr} {sl__law_number : Array (Option Value)} {oc__law_number kV__law_number dc__law_number pm__law_number cd__law_number ct__law_number : Value}
    (a__law_number : PySem.W.nsIn K mainGlobals "_law_number" = some (some (.ref f__law_number)))
    (l__law_number : K.lookup f__law_number = some ⟨oc__law_number, od__law_number, .func (PySem.W.fnOf "_law_number" "_law_number" (defArgs s__law_number) (defBody s__law_number) (defScope s__law_number) .none kV__law_number dc__law_number pm__law_number an__law_number cd__law_number ct__law_number), sl__law_number⟩)
    (c__law_number : PySem.W.codeIn K cd__law_number "_law_number" = true)
    (k__law_number : PySem.W.keepIn K (.ref f__law_number) = true)
    {f_law : Addr} {od_law an_law : Option Addr} {sl_law : Array (Option Value)} {oc_law kV_law dc_law pm_law cd_law ct_law : Value}
    (a_law : PySem.W.nsIn K mainGlobals "law" = some (some (.ref f_law)))
    (l_law : K.lookup f_law = some ⟨oc_law, od_law, .func (PySem.W.fnOf "law" "law" (defArgs s_law) (defBody s_law) (defScope s_law) .none kV_law dc_law pm_law an_law cd_law ct_law), sl_law⟩)
    (c_law : PySem.W.codeIn K cd_law "law" = true)
    (k_law : PySem.W.keepIn K (.ref f_law) = true)
    (z_abs : PySem.W.nsIn K mainGlobals "abs" = some none)
    (z_all : PySem.W.nsIn K mainGlobals "all" = some none)
    (z_any : PySem.W.nsIn K mainGlobals "any" = some none)
    (z_bool : PySem.W.nsIn K mainGlobals "bool" = some none)
    (z_dict : PySem.W.nsIn K mainGlobals "dict" = some none)
    (z_int : PySem.W.nsIn K mainGlobals "int" = some none)
    (z_isinstance : PySem.W.nsIn K mainGlobals "isinstance" = some none)
    (z_len : PySem.W.nsIn K mainGlobals "len" = some none)
    (z_list : PySem.W.nsIn K mainGlobals "list" = some none)
    (z_max : PySem.W.nsIn K mainGlobals "max" = some none)
    (z_min : PySem.W.nsIn K mainGlobals "min" = some none)
    (z_range : PySem.W.nsIn K mainGlobals "range" = some none)
    (z_repr : PySem.W.nsIn K mainGlobals "repr" = some none)
    (z_set : PySem.W.nsIn K mainGlobals "set" = some none)
    (z_sorted : PySem.W.nsIn K mainGlobals "sorted" = some none)
    (z_str : PySem.W.nsIn K mainGlobals "str" = some none)
    (z_sum : PySem.W.nsIn K mainGlobals "sum" = some none)
    (z_tuple : PySem.W.nsIn K mainGlobals "tuple" = some none)
    {t_LETTERS : Tok}
    (n_LETTERS : PySem.W.nsIn K mainGlobals "LETTERS" = some (some (.str "abcdefghijklmnopqrstuvwxyz" t_LETTERS)))
    {t_ODD : Tok}
    (n_ODD : PySem.W.nsIn K mainGlobals "ODD" = some (some (.str "odd" t_ODD)))
    {t_SIDES : Tok}
    (n_SIDES : PySem.W.nsIn K mainGlobals "SIDES" = some (some (.int 2 t_SIDES)))
    : ∃ fd : FuncData, (∀ (s : Shared) (v : Value), BindsTo s fd ⟨[v], []⟩ [("script", v)]) ∧ ∀ base : Heap, K.In base → base.Ns mainGlobals mg → FnG l.prog w K mg base 11 fa fd ["script"] (spLaw K (mScr 12 g_law)) := by
  have e := hfa.symm.trans (PySem.W.mg_of X G a_law)
  cases e
  have T : Tx K mg := {
    d__law_spring := ⟨_, _, PySem.W.mg_of X G a__law_spring, fun_mk (st := s__law_spring) l__law_spring c__law_spring k__law_spring, (fun_mk (st := s__law_spring) l__law_spring c__law_spring k__law_spring).binds (ps := ["script"]) fun _ _ _ _ _ _ us hl => match us, hl with | [_], _ => rfl⟩
    d__law_draw := ⟨_, _, PySem.W.mg_of X G a__law_draw, fun_mk (st := s__law_draw) l__law_draw c__law_draw k__law_draw, (fun_mk (st := s__law_draw) l__law_draw c__law_draw k__law_draw).binds (ps := ["spring", "many"]) fun _ _ _ _ _ _ us hl => match us, hl with | [_, _], _ => rfl⟩
    d__law_web := ⟨_, _, PySem.W.mg_of X G a__law_web, fun_mk (st := s__law_web) l__law_web c__law_web k__law_web, (fun_mk (st := s__law_web) l__law_web c__law_web k__law_web).binds (ps := ["spring", "most"]) fun _ _ _ _ _ _ us hl => match us, hl with | [_, _], _ => rfl⟩
    d__law_all_ends := ⟨_, _, PySem.W.mg_of X G a__law_all_ends, fun_mk (st := s__law_all_ends) l__law_all_ends c__law_all_ends k__law_all_ends, (fun_mk (st := s__law_all_ends) l__law_all_ends c__law_all_ends k__law_all_ends).binds (ps := ["web"]) fun _ _ _ _ _ _ us hl => match us, hl with | [_], _ => rfl⟩
    d__law_signs := ⟨_, _, PySem.W.mg_of X G a__law_signs, fun_mk (st := s__law_signs) l__law_signs c__law_signs k__law_signs, (fun_mk (st := s__law_signs) l__law_signs c__law_signs k__law_signs).binds (ps := ["web", "place"]) fun _ _ _ _ _ _ us hl => match us, hl with | [_, _], _ => rfl⟩
    d__law_shown := ⟨_, _, PySem.W.mg_of X G a__law_shown, fun_mk (st := s__law_shown) l__law_shown c__law_shown k__law_shown, (fun_mk (st := s__law_shown) l__law_shown c__law_shown k__law_shown).binds (ps := ["web", "place", "reason"]) fun _ _ _ _ _ _ us hl => match us, hl with | [_, _, _], _ => rfl⟩
    d__law_paper := ⟨_, _, PySem.W.mg_of X G a__law_paper, fun_mk (st := s__law_paper) l__law_paper c__law_paper k__law_paper, (fun_mk (st := s__law_paper) l__law_paper c__law_paper k__law_paper).binds (ps := ["spring", "web"]) fun _ _ _ _ _ _ us hl => match us, hl with | [_, _], _ => rfl⟩
    d__law_lists := ⟨_, _, PySem.W.mg_of X G a__law_lists, fun_mk (st := s__law_lists) l__law_lists c__law_lists k__law_lists, (fun_mk (st := s__law_lists) l__law_lists c__law_lists k__law_lists).binds (ps := ["thing"]) fun _ _ _ _ _ _ us hl => match us, hl with | [_], _ => rfl⟩
    d__law_handed := ⟨_, _, PySem.W.mg_of X G a__law_handed, fun_mk (st := s__law_handed) l__law_handed c__law_handed k__law_handed, (fun_mk (st := s__law_handed) l__law_handed c__law_handed k__law_handed).binds (ps := ["spring", "thing"]) fun _ _ _ _ _ _ us hl => match us, hl with | [_, _], _ => rfl⟩
    d_is_whole := ⟨_, _, PySem.W.mg_of X G a_is_whole, fun_mk (st := s_is_whole) l_is_whole c_is_whole k_is_whole, (fun_mk (st := s_is_whole) l_is_whole c_is_whole k_is_whole).binds (ps := ["thing"]) fun _ _ _ _ _ _ us hl => match us, hl with | [_], _ => rfl⟩
    d_need_place := ⟨_, _, PySem.W.mg_of X G a_need_place, fun_mk (st := s_need_place) l_need_place c_need_place k_need_place, (fun_mk (st := s_need_place) l_need_place c_need_place k_need_place).binds (ps := ["web", "place"]) fun _ _ _ _ _ _ us hl => match us, hl with | [_, _], _ => rfl⟩
    d_all_ends := ⟨_, _, PySem.W.mg_of X G a_all_ends, fun_mk (st := s_all_ends) l_all_ends c_all_ends k_all_ends, (fun_mk (st := s_all_ends) l_all_ends c_all_ends k_all_ends).binds (ps := ["web"]) fun _ _ _ _ _ _ us hl => match us, hl with | [_], _ => rfl⟩
    d_place_of := ⟨_, _, PySem.W.mg_of X G a_place_of, fun_mk (st := s_place_of) l_place_of c_place_of k_place_of, (fun_mk (st := s_place_of) l_place_of c_place_of k_place_of).binds (ps := ["web", "end"]) fun _ _ _ _ _ _ us hl => match us, hl with | [_, _], _ => rfl⟩
    d_ends_at := ⟨_, _, PySem.W.mg_of X G a_ends_at, fun_mk (st := s_ends_at) l_ends_at c_ends_at k_ends_at, (fun_mk (st := s_ends_at) l_ends_at c_ends_at k_ends_at).binds (ps := ["web", "place"]) fun _ _ _ _ _ _ us hl => match us, hl with | [_, _], _ => rfl⟩
    d_company_of := ⟨_, _, PySem.W.mg_of X G a_company_of, fun_mk (st := s_company_of) l_company_of c_company_of k_company_of, (fun_mk (st := s_company_of) l_company_of c_company_of k_company_of).binds (ps := ["web", "end"]) fun _ _ _ _ _ _ us hl => match us, hl with | [_, _], _ => rfl⟩
    d_shown_at := ⟨_, _, PySem.W.mg_of X G a_shown_at, fun_mk (st := s_shown_at) l_shown_at c_shown_at k_shown_at, (fun_mk (st := s_shown_at) l_shown_at c_shown_at k_shown_at).binds (ps := ["web", "place", "reason"]) fun _ _ _ _ _ _ us hl => match us, hl with | [_, _, _], _ => rfl⟩
    d_rides_for := ⟨_, _, PySem.W.mg_of X G a_rides_for, fun_mk (st := s_rides_for) l_rides_for c_rides_for k_rides_for, (fun_mk (st := s_rides_for) l_rides_for c_rides_for k_rides_for).binds (ps := ["many"]) fun _ _ _ _ _ _ us hl => match us, hl with | [_], _ => rfl⟩
    d_hangs_on := ⟨_, _, PySem.W.mg_of X G a_hangs_on, fun_mk (st := s_hangs_on) l_hangs_on c_hangs_on k_hangs_on, (fun_mk (st := s_hangs_on) l_hangs_on c_hangs_on k_hangs_on).binds (ps := ["web", "part", "line"]) fun _ _ _ _ _ _ us hl => match us, hl with | [_, _, _], _ => rfl⟩
    d_parts_of := ⟨_, _, PySem.W.mg_of X G a_parts_of, fun_mk (st := s_parts_of) l_parts_of c_parts_of k_parts_of, (fun_mk (st := s_parts_of) l_parts_of c_parts_of k_parts_of).binds (ps := ["web"]) fun _ _ _ _ _ _ us hl => match us, hl with | [_], _ => rfl⟩
    d_is_row := ⟨_, _, PySem.W.mg_of X G a_is_row, fun_mk (st := s_is_row) l_is_row c_is_row k_is_row, (fun_mk (st := s_is_row) l_is_row c_is_row k_is_row).binds (ps := ["thing", "size"]) fun _ _ _ _ _ _ us hl => match us, hl with | [_, _], _ => rfl⟩
    d_is_company := ⟨_, _, PySem.W.mg_of X G a_is_company, fun_mk (st := s_is_company) l_is_company c_is_company k_is_company, (fun_mk (st := s_is_company) l_is_company c_is_company k_is_company).binds (ps := ["thing"]) fun _ _ _ _ _ _ us hl => match us, hl with | [_], _ => rfl⟩
    d_is_reason := ⟨_, _, PySem.W.mg_of X G a_is_reason, fun_mk (st := s_is_reason) l_is_reason c_is_reason k_is_reason, (fun_mk (st := s_is_reason) l_is_reason c_is_reason k_is_reason).binds (ps := ["web", "thing"]) fun _ _ _ _ _ _ us hl => match us, hl with | [_, _], _ => rfl⟩
    d_places_of_part := ⟨_, _, PySem.W.mg_of X G a_places_of_part, fun_mk (st := s_places_of_part) l_places_of_part c_places_of_part k_places_of_part, (fun_mk (st := s_places_of_part) l_places_of_part c_places_of_part k_places_of_part).binds (ps := ["web", "part"]) fun _ _ _ _ _ _ us hl => match us, hl with | [_, _], _ => rfl⟩
    d_shown_by := ⟨_, _, PySem.W.mg_of X G a_shown_by, fun_mk (st := s_shown_by) l_shown_by c_shown_by k_shown_by, (fun_mk (st := s_shown_by) l_shown_by c_shown_by k_shown_by).binds (ps := ["web", "paper"]) fun _ _ _ _ _ _ us hl => match us, hl with | [_, _], _ => rfl⟩
    d__law_parts := ⟨_, _, PySem.W.mg_of X G a__law_parts, fun_mk (st := s__law_parts) l__law_parts c__law_parts k__law_parts, (fun_mk (st := s__law_parts) l__law_parts c__law_parts k__law_parts).binds (ps := ["web"]) fun _ _ _ _ _ _ us hl => match us, hl with | [_], _ => rfl⟩
    d__law_number := ⟨_, _, PySem.W.mg_of X G a__law_number, fun_mk (st := s__law_number) l__law_number c__law_number k__law_number, (fun_mk (st := s__law_number) l__law_number c__law_number k__law_number).binds (ps := ["web", "paper"]) fun _ _ _ _ _ _ us hl => match us, hl with | [_, _], _ => rfl⟩
    d_law := ⟨_, _, PySem.W.mg_of X G a_law, fun_mk (st := s_law) l_law c_law k_law, (fun_mk (st := s_law) l_law c_law k_law).binds (ps := ["script"]) fun _ _ _ _ _ _ us hl => match us, hl with | [_], _ => rfl⟩
    z_abs := PySem.W.mg_none_of X G z_abs
    z_all := PySem.W.mg_none_of X G z_all
    z_any := PySem.W.mg_none_of X G z_any
    z_bool := PySem.W.mg_none_of X G z_bool
    z_dict := PySem.W.mg_none_of X G z_dict
    z_int := PySem.W.mg_none_of X G z_int
    z_isinstance := PySem.W.mg_none_of X G z_isinstance
    z_len := PySem.W.mg_none_of X G z_len
    z_list := PySem.W.mg_none_of X G z_list
    z_max := PySem.W.mg_none_of X G z_max
    z_min := PySem.W.mg_none_of X G z_min
    z_range := PySem.W.mg_none_of X G z_range
    z_repr := PySem.W.mg_none_of X G z_repr
    z_set := PySem.W.mg_none_of X G z_set
    z_sorted := PySem.W.mg_none_of X G z_sorted
    z_str := PySem.W.mg_none_of X G z_str
    z_sum := PySem.W.mg_none_of X G z_sum
    z_tuple := PySem.W.mg_none_of X G z_tuple
    c_LETTERS := ⟨_, PySem.W.mg_of X G n_LETTERS⟩
    c_ODD := ⟨_, PySem.W.mg_of X G n_ODD⟩
    c_SIDES := ⟨_, PySem.W.mg_of X G n_SIDES⟩
  }
  exact ⟨PySem.W.fnOf "law" "law" (defArgs s_law) (defBody s_law) (defScope s_law) .none kV_law dc_law pm_law an_law cd_law ct_law, fun s v => .of_eq rfl, fun base _ _ => fn_lawG (fun B hB => trivial) (fun_mk (st := s_law) l_law c_law k_law) sc_law rfl (by decide) (law_body T _)⟩
end Lw.k28
open PySem PySem.W PyProof.Rows
set_option maxHeartbeats 0 in
theorem PySem.Challenge.cw_changeride_k28_papers_judged_holds : PySem.Challenge.rw_changeride_k28_papers_judged.Holds := by
  w_on; o_law; k_head; (case hw => w_witness2)
  k_fill
  refine Fu.walk_ofG (l := PySem.Challenge.rw_changeride_k28_papers_judged) (n := 63) (k := 11) (x := "script") (sp := fun w => Fu.spLaw _ (Fu.mScr 12 Lw.k28.g_law)) rfl (by decide) rfl ⟨rfl, by decide, by decide⟩ (fun w h Y => PySem.W.kIn_of Y) ?F (fun _ H a ns hl ho hS => ⟨a, ns, rfl, hS, hl, fun b xs e => (by rcases ho b with z | ⟨o, ys, z⟩ <;> rw [e] at z <;> cases z), Lw.k28.law_true ns hl, (fun p hp => nomatch hp), fun _ => rfl⟩)
  case F =>
    intro w mg fa h KX G hmg
    refine' Lw.k28.all_mk KX G hmg ?a__law_spring ?l__law_spring ?c__law_spring ?k__law_spring ?a__law_draw ?l__law_draw ?c__law_draw ?k__law_draw ?a__law_web ?l__law_web ?c__law_web ?k__law_web ?a__law_all_ends ?l__law_all_ends ?c__law_all_ends ?k__law_all_ends ?a__law_signs ?l__law_signs ?c__law_signs ?k__law_signs ?a__law_shown ?l__law_shown ?c__law_shown ?k__law_shown ?a__law_paper ?l__law_paper ?c__law_paper ?k__law_paper ?a__law_lists ?l__law_lists ?c__law_lists ?k__law_lists ?a__law_handed ?l__law_handed ?c__law_handed ?k__law_handed ?a_is_whole ?l_is_whole ?c_is_whole ?k_is_whole ?a_need_place ?l_need_place ?c_need_place ?k_need_place ?a_all_ends ?l_all_ends ?c_all_ends ?k_all_ends ?a_place_of ?l_place_of ?c_place_of ?k_place_of ?a_ends_at ?l_ends_at ?c_ends_at ?k_ends_at ?a_company_of ?l_company_of ?c_company_of ?k_company_of ?a_shown_at ?l_shown_at ?c_shown_at ?k_shown_at ?a_rides_for ?l_rides_for ?c_rides_for ?k_rides_for ?a_hangs_on ?l_hangs_on ?c_hangs_on ?k_hangs_on ?a_parts_of ?l_parts_of ?c_parts_of ?k_parts_of ?a_is_row ?l_is_row ?c_is_row ?k_is_row ?a_is_company ?l_is_company ?c_is_company ?k_is_company ?a_is_reason ?l_is_reason ?c_is_reason ?k_is_reason ?a_places_of_part ?l_places_of_part ?c_places_of_part ?k_places_of_part ?a_shown_by ?l_shown_by ?c_shown_by ?k_shown_by ?a__law_parts ?l__law_parts ?c__law_parts ?k__law_parts ?a__law_number ?l__law_number ?c__law_number ?k__law_number ?a_law ?l_law ?c_law ?k_law ?z_abs ?z_all ?z_any ?z_bool ?z_dict ?z_int ?z_isinstance ?z_len ?z_list ?z_max ?z_min ?z_range ?z_repr ?z_set ?z_sorted ?z_str ?z_sum ?z_tuple ?n_LETTERS ?n_ODD ?n_SIDES
    (case a__law_spring => k_is)
    (case l__law_spring => k_is)
    (case c__law_spring => k_is)
    (case k__law_spring => k_is)
    (case a__law_draw => k_is)
    (case l__law_draw => k_is)
    (case c__law_draw => k_is)
    (case k__law_draw => k_is)
    (case a__law_web => k_is)
    (case l__law_web => k_is)
    (case c__law_web => k_is)
    (case k__law_web => k_is)
    (case a__law_all_ends => k_is)
    (case l__law_all_ends => k_is)
    (case c__law_all_ends => k_is)
    (case k__law_all_ends => k_is)
    (case a__law_signs => k_is)
    (case l__law_signs => k_is)
    (case c__law_signs => k_is)
    (case k__law_signs => k_is)
    (case a__law_shown => k_is)
    (case l__law_shown => k_is)
    (case c__law_shown => k_is)
    (case k__law_shown => k_is)
    (case a__law_paper => k_is)
    (case l__law_paper => k_is)
    (case c__law_paper => k_is)
    (case k__law_paper => k_is)
    (case a__law_lists => k_is)
    (case l__law_lists => k_is)
    (case c__law_lists => k_is)
    (case k__law_lists => k_is)
    (case a__law_handed => k_is)
    (case l__law_handed => k_is)
    (case c__law_handed => k_is)
    (case k__law_handed => k_is)
    (case a_is_whole => k_is)
    (case l_is_whole => k_is)
    (case c_is_whole => k_is)
    (case k_is_whole => k_is)
    (case a_need_place => k_is)
    (case l_need_place => k_is)
    (case c_need_place => k_is)
    (case k_need_place => k_is)
    (case a_all_ends => k_is)
    (case l_all_ends => k_is)
    (case c_all_ends => k_is)
    (case k_all_ends => k_is)
    (case a_place_of => k_is)
    (case l_place_of => k_is)
    (case c_place_of => k_is)
    (case k_place_of => k_is)
    (case a_ends_at => k_is)
    (case l_ends_at => k_is)
    (case c_ends_at => k_is)
    (case k_ends_at => k_is)
    (case a_company_of => k_is)
    (case l_company_of => k_is)
    (case c_company_of => k_is)
    (case k_company_of => k_is)
    (case a_shown_at => k_is)
    (case l_shown_at => k_is)
    (case c_shown_at => k_is)
    (case k_shown_at => k_is)
    (case a_rides_for => k_is)
    (case l_rides_for => k_is)
    (case c_rides_for => k_is)
    (case k_rides_for => k_is)
    (case a_hangs_on => k_is)
    (case l_hangs_on => k_is)
    (case c_hangs_on => k_is)
    (case k_hangs_on => k_is)
    (case a_parts_of => k_is)
    (case l_parts_of => k_is)
    (case c_parts_of => k_is)
    (case k_parts_of => k_is)
    (case a_is_row => k_is)
    (case l_is_row => k_is)
    (case c_is_row => k_is)
    (case k_is_row => k_is)
    (case a_is_company => k_is)
    (case l_is_company => k_is)
    (case c_is_company => k_is)
    (case k_is_company => k_is)
    (case a_is_reason => k_is)
    (case l_is_reason => k_is)
    (case c_is_reason => k_is)
    (case k_is_reason => k_is)
    (case a_places_of_part => k_is)
    (case l_places_of_part => k_is)
    (case c_places_of_part => k_is)
    (case k_places_of_part => k_is)
    (case a_shown_by => k_is)
    (case l_shown_by => k_is)
    (case c_shown_by => k_is)
    (case k_shown_by => k_is)
    (case a__law_parts => k_is)
    (case l__law_parts => k_is)
    (case c__law_parts => k_is)
    (case k__law_parts => k_is)
    (case a__law_number => k_is)
    (case l__law_number => k_is)
    (case c__law_number => k_is)
    (case k__law_number => k_is)
    (case a_law => k_is)
    (case l_law => k_is)
    (case c_law => k_is)
    (case k_law => k_is)
    (case z_abs => k_is)
    (case z_all => k_is)
    (case z_any => k_is)
    (case z_bool => k_is)
    (case z_dict => k_is)
    (case z_int => k_is)
    (case z_isinstance => k_is)
    (case z_len => k_is)
    (case z_list => k_is)
    (case z_max => k_is)
    (case z_min => k_is)
    (case z_range => k_is)
    (case z_repr => k_is)
    (case z_set => k_is)
    (case z_sorted => k_is)
    (case z_str => k_is)
    (case z_sum => k_is)
    (case z_tuple => k_is)
    (case n_LETTERS => k_is)
    (case n_ODD => k_is)
    (case n_SIDES => k_is)
