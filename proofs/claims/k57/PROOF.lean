import PyProof.Rows.All
import Wide.All
import OpenK.AllK
import Wide.FinOn
import HandS.ForMost
import HandS.Flow
import HandS.Deep
import HandS.TupAny
import HandS.Codes
import HandS.IsInst
import HandS.Style
import HandS.Wide
import HandS.Zip
import HandS.Rev
import HandS.Exc
import HandS.TupLe
import KE.DataMinMax
import KE.SortData
import HandS.Conv
import HandS.Ends
import HandS.RaiseMore
import KE.DataFind
import HandS.Flt
import HandS.ExcIs
import HandS.ExcValue
import HandS.WordsExc
import HandS.Dict
import KE.KDictDisplayH
import HandS.ReplaceLit
import KE.GoesMore
import KE.GoesEnum
import HandS.Set
import HandS.SetBool
import PyProof.MeetsSeq2
import HandS.Text
import PySem.Challenge.RW_changeride_k57_whole_deeds_on_texts
set_option Elab.async false
set_option linter.all false
set_option maxRecDepth 100000

set_option maxHeartbeats 4000000
namespace Fu
open PySem PySem.Spec PyProof.Rows L2

/-! ### the frame: what may be forgotten for the time of a call -/
def Loose : HO → Prop
  | .lst _ => True
  | .dK _ => True
  | .dT _ => True
  | .set _ _ => True
  | _ => False
def lpins (H G : Hp) (h : Heap) : List (Addr × Obj) :=
  (List.range h.objs.size).filterMap fun a => if (H a).isSome = true ∧ (G a).isNone = true then (h.get? a).map fun o => (a, o) else none
theorem mem_lpins {H G : Hp} {h : Heap} {a : Addr} {o : Obj} {u : HO} (h1 : H a = some u) (h2 : G a = none) (h3 : h.get? a = some o) : (a, o) ∈ lpins H G h :=
  List.mem_filterMap.mpr ⟨a, List.mem_range.mpr (Heap.lt_size h3), by simp [h1, h2, h3]⟩
theorem of_lpins {H G : Hp} {h : Heap} {p : Addr × Obj} (hp : p ∈ lpins H G h) : (∃ u, H p.1 = some u) ∧ G p.1 = none ∧ h.get? p.1 = some p.2 := by
  obtain ⟨b, _, e⟩ := List.mem_filterMap.mp hp
  split at e
  · rename_i hc
    cases q : h.get? b with
    | none => rw [q] at e; cases e
    | some u =>
      rw [q] at e
      have e' : (b, u) = p := Option.some.inj e
      subst e'
      exact ⟨Option.isSome_iff_exists.mp hc.1, Option.isNone_iff_eq_none.mp hc.2, q⟩
  · cases e
/-- G within H: what is over may be forgotten -/
structure Sub (G H : Hp) : Prop where
  same : Same G H
  loose : ∀ a o, H a = some o → G a = none → Loose o
theorem Sub.none {G H : Hp} (S : Sub G H) {b : Addr} (e : H b = none) : G b = none := S.same.free e
theorem Sub.keep {G H : Hp} (S : Sub G H) {b : Addr} {o : HO} (e : H b = some o) (n : ¬ Loose o) : G b = some o := by
  cases q : G b with
  | none => exact absurd (S.loose b o e q) n
  | some u => rw [S.same b u q] at e; exact e
theorem Sub.refl (H : Hp) : Sub H H := ⟨Same.refl H, fun a o e n => by rw [e] at n; cases n⟩
def mixH (G H G' : Hp) : Hp := fun a => match G a, H a with
  | none, some o => some o
  | _, _ => G' a
theorem mix_lost {G H G' : Hp} {a : Addr} {o : HO} (h1 : G a = none) (h2 : H a = some o) : mixH G H G' a = some o := by unfold mixH; rw [h1, h2]
theorem mix_held {G H G' : Hp} {a : Addr} {o : HO} (h1 : G a = some o) : mixH G H G' a = G' a := by unfold mixH; rw [h1]
theorem mix_free {G H G' : Hp} {a : Addr} (h2 : H a = none) : mixH G H G' a = G' a := by unfold mixH; rw [h2]; cases G a <;> rfl

section
variable {X : Cx} {pins : List (Addr × Obj)} {σ : L2.St} {H G G' : Hp} {s s' : Shared}
theorem fs_none (I : Inv X pins σ H s) {b : Addr} (hb : b ∈ X.fs) : H b = none := by
  obtain ⟨_, o, ho, _⟩ := I.ok.funs.mem hb
  exact I.base.free b o ho (I.ok.frf b hb) fun z => I.ok.exfs b z hb
theorem loose_cell {P : Program} {w : World} {h : Heap} {a : Addr} {u : HO} {o : Obj} (x : ObjOk P w H h a u) (l : Loose u) (e : h.get? a = some o) : ∀ v, o.data ≠ .cell v := by
  intro v z
  cases u with
  | lst xs => obtain ⟨_, its, n, _, e1⟩ := x; rw [e] at e1; cases e1; cases z
  | dK kvs => obtain ⟨_, _, vs, _, ob, es, ep, e1, _, d, _⟩ := x; rw [e] at e1; cases e1; rw [d] at z; cases z
  | dT kvs => obtain ⟨_, _, vs, _, ob, es, ep, e1, _, d, _⟩ := x; rw [e] at e1; cases e1; rw [d] at z; cases z
  | set S n => obtain ⟨ob, es, ep, t, e1, _, d, _⟩ := x; rw [e] at e1; cases e1; rw [d] at z; cases z
  | _ => exact l
theorem loose_there {P : Program} {w : World} {h : Heap} {a : Addr} {u : HO} (x : ObjOk P w H h a u) (l : Loose u) : ∃ o, h.get? a = some o := by
  cases u with
  | lst xs => obtain ⟨_, its, n, _, e1⟩ := x; exact ⟨_, e1⟩
  | dK kvs => obtain ⟨_, _, vs, _, ob, es, ep, e1, _⟩ := x; exact ⟨_, e1⟩
  | dT kvs => obtain ⟨_, _, vs, _, ob, es, ep, e1, _⟩ := x; exact ⟨_, e1⟩
  | set S n => obtain ⟨ob, es, ep, t, e1, _⟩ := x; exact ⟨_, e1⟩
  | _ => exact l.elim
theorem forget (I : Inv X pins σ H s) (S : Sub G H) : Inv X (pins ++ lpins H G s.heap) σ G s where
  ok := I.ok
  os := I.os
  bare := I.bare
  base := ⟨I.base.keep, I.base.slot, fun b o e n hx => S.none (I.base.free b o e n hx), I.base.there,
    fun b xs q => S.keep (I.base.tups b xs q) (fun z => z), fun b o u q => S.keep (I.base.frzs b o u q) (fun z => z),
    fun b ps q => by obtain ⟨m, e⟩ := I.base.tbls b ps q; exact ⟨m, S.keep e (fun z => z)⟩⟩
  loc := I.loc
  cell := I.cell
  free := S.none I.free
  freeC := fun x c e => S.none (I.freeC x c e)
  pin := fun p hp => by
    rcases List.mem_append.mp hp with hp | hp
    · obtain ⟨e, n, r⟩ := I.pin p (List.mem_append_left _ hp)
      exact ⟨e, S.none n, r⟩
    · rcases List.mem_append.mp hp with hp | hp
      · obtain ⟨e, n, r⟩ := I.pin p (List.mem_append_right _ hp)
        exact ⟨e, S.none n, r⟩
      · obtain ⟨⟨u, hu⟩, hg, he⟩ := of_lpins hp
        refine ⟨he, hg, fun z => ?_, fun z => ?_, loose_cell (I.hok p.1 u hu) (S.loose _ _ hu hg) he⟩
        · rw [z, I.free] at hu; cases hu
        · rw [fs_none I z] at hu; cases hu
  hok := fun a o e => (I.hok a o (S.same a o e)).stay (fun b u _ q => q) (fun b q => S.keep q (fun z => z)) (fun b xs q => S.keep q (fun z => z))
  len := I.len
theorem lost_of {τ : L2.St} (I : Inv X pins σ H s) (S : Sub G H) (J : Inv X (pins ++ lpins H G s.heap) τ G' s') : ∀ b o, H b = some o → G b = none → G' b = none := fun b o hb hg => by
  obtain ⟨ob, hob⟩ : ∃ ob, s.heap.get? b = some ob := loose_there (I.hok b o hb) (S.loose b o hb hg)
  exact (J.pin (b, ob) (List.mem_append_right _ (List.mem_append_right _ (mem_lpins hb hg hob)))).2.1
theorem remember {τ : L2.St} (I : Inv X pins σ H s) (S : Sub G H) (J : Inv X (pins ++ lpins H G s.heap) τ G' s') (ht : ∀ b xs, G b = some (.tup xs) → G' b = some (.tup xs)) :
    Inv X pins τ (mixH G H G') s' := by
  have lost : ∀ b o, H b = some o → G b = none → G' b = none ∧ ∀ ob, s.heap.get? b = some ob → s'.heap.get? b = some ob := fun b o hb hg => by
    obtain ⟨ob, hob⟩ : ∃ ob, s.heap.get? b = some ob := loose_there (I.hok b o hb) (S.loose b o hb hg)
    obtain ⟨e1, e2, _⟩ := J.pin (b, ob) (List.mem_append_right _ (List.mem_append_right _ (mem_lpins hb hg hob)))
    exact ⟨e2, fun ob' h' => by rw [hob] at h'; cases h'; exact e1⟩
  have up : ∀ b o, G' b = some o → mixH G H G' b = some o := fun b o e => by
    cases q : G b with
    | some u => rw [mix_held q]; exact e
    | none =>
      cases r : H b with
      | none => rw [mix_free r]; exact e
      | some u => rw [(lost b u r q).1] at e; cases e
  have nn : ∀ b, G' b = none → H b = none → mixH G H G' b = none := fun b e r => by rw [mix_free r]; exact e
  refine ⟨J.ok, J.os, J.bare, ⟨J.base.keep, J.base.slot, fun b o e n hx => nn b (J.base.free b o e n hx) (I.base.free b o e n hx), J.base.there,
    fun b xs q => up _ _ (J.base.tups b xs q), fun b o u q => up _ _ (J.base.frzs b o u q), fun b ps q => ?_⟩, J.loc, J.cell, nn _ J.free I.free, fun x c e => nn _ (J.freeC x c e) (I.freeC x c e), fun p hp => ?_, fun a o e => ?_, J.len⟩
  · obtain ⟨m, e⟩ := J.base.tbls b ps q
    exact ⟨m, up _ _ e⟩
  · have hp' : p ∈ X.pn ++ (pins ++ lpins H G s.heap) := (List.mem_append.mp hp).elim (fun z => List.mem_append_left _ z) fun z => List.mem_append_right _ (List.mem_append_left _ z)
    obtain ⟨e, n, r⟩ := J.pin p hp'
    exact ⟨e, nn _ n (I.pin p hp).2.1, r⟩
  · cases q : G a with
    | some u =>
      rw [mix_held q] at e
      exact (J.hok a o e).stay (fun b u _ q => q) (fun b q => up _ _ q) (fun b xs q => up _ _ q)
    | none =>
      cases r : H a with
      | none =>
        rw [mix_free r] at e
        exact (J.hok a o e).stay (fun b u _ q => q) (fun b q => up _ _ q) (fun b xs q => up _ _ q)
      | some u =>
        rw [mix_lost q r] at e
        cases e
        have k := (lost a o r q).2
        have x := I.hok a o r
        have l := S.loose a o r q
        cases o with
        | lst xs => obtain ⟨z, its, n, rv, e1⟩ := x; exact ⟨z, its, n, rv, k _ e1⟩
        | dK kvs => obtain ⟨z, y, vs, rv, ob, es, ep, e1, c⟩ := x; exact ⟨z, y, vs, rv, ob, es, ep, k _ e1, c⟩
        | dT kvs =>
          obtain ⟨z, y, xs, rv, ob, es, ep, e1, c⟩ := x
          exact ⟨z, y, xs, Paired.mapP rv fun p q z => ⟨z.1, up _ _ (ht _ _ (S.keep z.2.1 (fun z => z))), z.2.2⟩, ob, es, ep, k _ e1, c⟩
        | set T n => obtain ⟨ob, es, ep, t, e1, c⟩ := x; exact ⟨ob, es, ep, t, k _ e1, c⟩
        | _ => exact l.elim
end

section
variable {X : Cx} {CX : CXT} {k : Nat} {f C : Addr} {fd : FuncData} {ps : List Str} {sp : Sp} {dvs : List V} {ds : List Value} {E : XK} {x m : Str} {p pos apos : Pos} {e o : Expr} {es : List Expr} {ta : TE} {t : TA}
theorem run_fnF {pins : List (Addr × Obj)} {σ : L2.St} {H G : Hp} {s : Shared} {Q : VK} {us : List Value} {vs : List V} (F : FnOk X.prog X.w X.K X.mg X.base CX k f fd ps sp) (hr : Room k X.A) (hb : Binds X.K fd ps ds) (hd : Vals dvs ds) (hx : Passes CX X E)
    (I : Inv X pins σ H s) (r : Vals vs us) (S : Sub G H) (h : sp (vs ++ dvs) G (fun v G' => (∀ b xs, G b = some (.tup xs) → G' b = some (.tup xs)) ∧ ((∀ b o, H b = some o → G b = none → G' b = none) → Q v (mixH G H G'))) E) :
    wpAny (model X.prog X.w) X.A (call (.ref f) us) (EP X pins σ Q) X.xe s := by
  refine thn (run_fn F hr hb hd hx (forget I S) r h) fun u s' ⟨v, G', I', rv, ht, q⟩ => ⟨v, mixH G H G', remember I S I' ht, rv, q (lost_of I S I')⟩
/-- f(..) called over a part of the heap -/
def tCallF (sp : Sp) (dvs : List V) (E : XK) (t : TA) : TE := fun σ H Q => t σ H fun vs H1 => ∃ G, Sub G H1 ∧ sp (vs ++ dvs) G (fun v G' => (∀ b xs, G b = some (.tup xs) → G' b = some (.tup xs)) ∧ ((∀ b o, H1 b = some o → G b = none → G' b = none) → Q v (mixH G H1 G'))) E
theorem pe_callF (F : FnOk X.prog X.w X.K X.mg X.base CX k f fd ps sp) (hr : Room k X.A) (hg : Gl X x) (hm : X.mg x = some (.ref f)) (hk : PySem.W.keepIn X.K (.ref f) = true) (hb : Binds X.K fd ps ds) (hd : Vals dvs ds) (hx : Passes CX X E)
    (ha : PA X (e :: es) t) (hdb : (x == ("__debug__" : Str)) = false := by decide) (he : starEach (e :: es) X.env = (false, eval e X.env) :: starEach es X.env := by rfl) (hpl : (backTo pos (starEach es X.env)).any (·.1) = false := by rfl) :
    PE X (.Call (.Name x p) (e :: es) [] pos) (tCallF sp dvs E t) := by
  refine ⟨fun pins s σ H Q I h => ?_⟩
  refine wpAny_Call_Name_kw (ld_glob I hg hm ?_ hdb)
  refine PySem.W.callWith_K (h₀ := X.base) I.ok.mod.kin hk (thn (ha.run pos pins s σ H _ I h) fun us s1 ⟨vs, H1, I1, r, G, S, q⟩ => ⟨I1.kIn, ?_⟩) he hpl
  exact run_fnF F hr hb hd hx I1 r S q
end

/-! ### any expression, test, target, over a part of the heap -/
def Back (G H : Hp) (Q : Hp → Prop) : Hp → Prop := fun G' => (∀ b xs, G b = some (.tup xs) → G' b = some (.tup xs)) ∧ ((∀ b o, H b = some o → G b = none → G' b = none) → Q (mixH G H G'))
def tFr (t : TE) : TE := fun σ H Q => ∃ G, Sub G H ∧ t σ G fun v => Back G H (Q v)
def tFrT (t : TT) : TT := fun σ H Q => ∃ G, Sub G H ∧ t σ G fun v => Back G H (Q v)
def gFr (t : TG) : TG := fun x σ H Q => ∃ G, Sub G H ∧ t x σ G fun σ' => Back G H (Q σ')
section
variable {X : Cx} {e : Expr}
theorem pe_fr {t : TE} (h : PE X e t) : PE X e (tFr t) := ⟨fun pins s σ H Q I ⟨G, S, q⟩ =>
  thn (h.run _ s σ G _ (forget I S) q) fun u s' ⟨v, G', J, r, ht, q⟩ => ⟨v, _, remember I S J ht, r, q (lost_of I S J)⟩⟩
theorem pts_fr {es : List Expr} {t : TT} (h : PTs X es t) : PTs X es (tFrT t) := ⟨fun pins s σ H Q I ⟨G, S, q⟩ =>
  thn (h.run _ s σ G _ (forget I S) q) fun u s' ⟨G', J, ht, q⟩ => ⟨_, remember I S J ht, q (lost_of I S J)⟩⟩
theorem pg_fr {t : TG} (h : PG X e t) : PG X e (gFr t) := ⟨fun pins s σ H v u Q I r ⟨G, S, q⟩ =>
  thn (h.run _ s σ G v u _ (forget I S) r q) fun _ s' ⟨σ', G', J, ht, q⟩ => ⟨σ', _, remember I S J ht, q (lost_of I S J)⟩⟩
end
end Fu

set_option maxHeartbeats 4000000
namespace Fu
open PySem PySem.Spec PyProof.Rows L2

abbrev D := PyData

/-- a dict stands at a: what it holds is not told -/
def dictO (a : Addr) : HO := .ext (PySem.W.KitAt a "dict")
/-! ### a value, down to what is within, in a heap that stays -/
mutual
inductive Rp (K : PySem.W.Frag) (H : Hp) : V → PyData → Prop
  | non : Rp K H .non .none
  | bl (b : Bool) : Rp K H (.bl b) (.bool b)
  | int (i : Int) : Rp K H (.int i) (.int i)
  | str {x : Str} : x.length ≤ sizeLine → Rp K H (.str x) (.str x)
  | lst {a : Addr} {xs : List V} {ds : List PyData} : H a = some (.lst xs) → Rps K H xs ds → ds.length ≤ sizeLine → Rp K H (.ref a) (.list ds)
  | tup {a : Addr} {xs : List V} {ds : List PyData} : SqT K H a xs → Rps K H xs ds → ds.length ≤ sizeLine → Rp K H (.ref a) (.tuple ds)
  | dct {a : Addr} {kvs : List (PyData × PyData)} : ((∃ es, H a = some (.dK es)) ∨ (∃ es, H a = some (.dT es)) ∨ H a = some (dictO a)) → (kvs = [] → H a = some (.dK [])) → Rp K H (.ref a) (.dict kvs)
inductive Rps (K : PySem.W.Frag) (H : Hp) : List V → List PyData → Prop
  | nil : Rps K H [] []
  | cons {v : V} {vs : List V} {d : PyData} {ds : List PyData} : Rp K H v d → Rps K H vs ds → Rps K H (v :: vs) (d :: ds)
end
section
variable {K : PySem.W.Frag} {H H' : Hp}
theorem sqT_same {a : Addr} {xs : List V} (e : Same H H') (h : SqT K H a xs) : SqT K H' a xs := by
  rcases h with (h | ⟨o, h⟩) | h
  · exact .inl (.inl (e _ _ h))
  · exact .inl (.inr ⟨o, e _ _ h⟩)
  · exact .inr h
mutual
theorem Rp.mono (e : Same H H') : ∀ (d : PyData) (v : V), Rp K H v d → Rp K H' v d
  | .none, _, h => by cases h; exact .non
  | .bool b, _, h => by cases h; exact .bl b
  | .int i, _, h => by cases h; exact .int i
  | .str x, _, h => by
    cases h with
    | str hz => exact .str hz
  | .list ds, _, h => by
    cases h with
    | lst hs ha hz => exact .lst (e _ _ hs) (Rps.mono e ds _ ha) hz
  | .tuple ds, _, h => by
    cases h with
    | tup hs ha hz => exact .tup (sqT_same e hs) (Rps.mono e ds _ ha) hz
  | .dict kvs, _, h => by
    cases h with
    | dct hd h0 =>
      refine .dct ?_ (fun z => e _ _ (h0 z))
      rcases hd with ⟨es, hd⟩ | ⟨es, hd⟩ | hd
      · exact .inl ⟨es, e _ _ hd⟩
      · exact .inr (.inl ⟨es, e _ _ hd⟩)
      · exact .inr (.inr (e _ _ hd))
theorem Rps.mono (e : Same H H') : ∀ (ds : List PyData) (vs : List V), Rps K H vs ds → Rps K H' vs ds
  | [], _, h => by cases h; exact .nil
  | d :: ds, _, h => by
    cases h with
    | cons h1 h2 => exact .cons (Rp.mono e d _ h1) (Rps.mono e ds _ h2)
end
mutual
theorem Rp.dp : ∀ (d : PyData) (v : V), d.canLay0 = true → Rp K H v d → Dp K H v d
  | .none, _, _, h => by cases h; exact .non
  | .bool b, _, _, h => by cases h; exact .bl b
  | .int i, _, _, h => by cases h; exact .int i
  | .str x, _, _, h => by cases h; exact .str x
  | .list ds, _, c, h => by
    cases h with
    | lst hs ha hz => exact .lst (SqL.of hs) (Rps.dp ds _ (by simpa [PyData.canLay0] using c) ha)
  | .tuple ds, _, c, h => by
    cases h with
    | tup hs ha hz => exact .tup hs (Rps.dp ds _ (by simpa [PyData.canLay0] using c) ha)
  | .dict kvs, _, c, _ => by simp [PyData.canLay0] at c
theorem Rps.dp : ∀ (ds : List PyData) (vs : List V), PyData.canLayAll0 ds = true → Rps K H vs ds → DpAll K H vs ds
  | [], _, _, h => by cases h; exact .nil
  | d :: ds, _, c, h => by
    have c' : d.canLay0 = true ∧ PyData.canLayAll0 ds = true := by simpa [PyData.canLayAll0] using c
    cases h with
    | cons h1 h2 => exact .cons (Rp.dp d _ c'.1 h1) (Rps.dp ds _ c'.2 h2)
end
theorem Rps.length : ∀ {ds : List PyData} {vs : List V}, Rps K H vs ds → vs.length = ds.length
  | [], _, h => by cases h; rfl
  | d :: ds, _, h => by
    cases h with
    | cons _ h2 => rw [List.length_cons, List.length_cons, Rps.length h2]
theorem Rps.get : ∀ {ds : List PyData} {vs : List V} {i : Nat} {d : PyData}, Rps K H vs ds → ds[i]? = some d → ∃ v, vs[i]? = some v ∧ Rp K H v d
  | [], _, _, _, _, e => by simp at e
  | _ :: _, _, 0, _, h, e => by
    cases h with
    | cons h1 h2 =>
      simp at e; subst e
      exact ⟨_, rfl, h1⟩
  | _ :: ds, _, i + 1, _, h, e => by
    cases h with
    | cons h1 h2 =>
      obtain ⟨v, e1, r⟩ := Rps.get (i := i) h2 (by simpa using e)
      exact ⟨v, by simpa using e1, r⟩
theorem Rps.append : ∀ {ds es : List PyData} {vs us : List V}, Rps K H vs ds → Rps K H us es → Rps K H (vs ++ us) (ds ++ es)
  | [], _, _, _, h, g => by cases h; exact g
  | _ :: _, _, _, _, h, g => by
    cases h with
    | cons h1 h2 => exact .cons h1 (h2.append g)
theorem Rps.take : ∀ {ds : List PyData} {vs : List V} (n : Nat), Rps K H vs ds → Rps K H (vs.take n) (ds.take n)
  | _, _, 0, _ => .nil
  | [], _, n + 1, h => by cases h; exact .nil
  | _ :: _, _, n + 1, h => by
    cases h with
    | cons h1 h2 => exact .cons h1 (h2.take n)
theorem Rps.drop : ∀ {ds : List PyData} {vs : List V} (n : Nat), Rps K H vs ds → Rps K H (vs.drop n) (ds.drop n)
  | _, _, 0, h => h
  | [], _, n + 1, h => by cases h; exact .nil
  | _ :: _, _, n + 1, h => by
    cases h with
    | cons h1 h2 => exact h2.drop n
theorem Rps.set : ∀ {ds : List PyData} {vs : List V} {v : V} {d : PyData} (i : Nat), Rp K H v d → Rps K H vs ds → Rps K H (vs.set i v) (ds.set i d)
  | [], _, _, _, _, _, h => by cases h; exact .nil
  | _ :: _, _, _, _, 0, r, h => by
    cases h with
    | cons h1 h2 => exact .cons r h2
  | _ :: _, _, _, _, i + 1, r, h => by
    cases h with
    | cons h1 h2 => exact .cons h1 (Rps.set i r h2)
theorem Rps.reverse {ds : List PyData} {vs : List V} (h : Rps K H vs ds) : Rps K H vs.reverse ds.reverse := by
  induction ds generalizing vs with
  | nil => cases h; exact .nil
  | cons d ds ih =>
    cases h with
    | cons h1 h2 =>
      rw [List.reverse_cons, List.reverse_cons]
      exact (ih h2).append (.cons h1 .nil)
theorem Rps.rep {ds : List PyData} {vs : List V} (h : Rps K H vs ds) : ∀ n : Nat, Rps K H (List.replicate n vs).flatten (List.replicate n ds).flatten
  | 0 => .nil
  | n + 1 => by
    rw [List.replicate_succ, List.replicate_succ, List.flatten_cons, List.flatten_cons]
    exact h.append (h.rep n)
theorem Rps.ints : ∀ ns : List Int, Rps K H (ns.map V.int) (ns.map PyData.int)
  | [] => .nil
  | n :: ns => .cons (.int n) (Rps.ints ns)
end

/-! ### the state: slots, and things that are still written (cells) -/
/-- an exception object of the class cls stands at a -/
def XO (cls : Value) (a : Addr) : HO := .ext fun h => ∃ (o : Obj) (fs : Array Value), h.get? a = some o ∧ Zc cls none o ∧ o.data = .fields fs
inductive R where
  | dat (d : PyData)
  | own (j : Nat)
  | scr (ns : List Int)
  | tup (rs : List R)
  | exc (c : Str)
inductive Cell where
  | lst (xs : List PyData)
  | lR (xs : List R)
  | dR (kvs : List (Key × R))
  | tR (kvs : List (List Key × R))
structure Sx where
  sl : List (Option R)
  os : List (Option Cell)
abbrev M (α : Type) := Sx → Option (α × Sx)

mutual
/-- a value of the state: data, a cell's place, the script, a tuple of such -/
inductive Rr (K : PySem.W.Frag) (A : List Addr) (F : Hp) : V → R → Prop
  | dat {v : V} {d : PyData} : Rp K F v d → Rr K A F v (.dat d)
  | own {j : Nat} {a : Addr} : A[j]? = some a → Rr K A F (.ref a) (.own j)
  | scr {a : Addr} {ns : List Int} : ns.length ≤ 63 → SqL K F a (ns.map V.int) → Rr K A F (.ref a) (.scr ns)
  | tup {a : Addr} {vs : List V} {rs : List R} : SqT K F a vs → Rrs K A F vs rs → rs.length ≤ sizeLine → Rr K A F (.ref a) (.tup rs)
  | exc {a D : Addr} {c : Str} : PySem.W.nsIn K mainGlobals c = some (some (.ref D)) → F a = some (XO (.ref D) a) → Rr K A F (.ref a) (.exc c)
inductive Rrs (K : PySem.W.Frag) (A : List Addr) (F : Hp) : List V → List R → Prop
  | nil : Rrs K A F [] []
  | cons {v : V} {vs : List V} {r : R} {rs : List R} : Rr K A F v r → Rrs K A F vs rs → Rrs K A F (v :: vs) (r :: rs)
end
theorem pre_at {α : Type} {A B : List α} {j : Nat} {a : α} (p : A <+: B) (h : A[j]? = some a) : B[j]? = some a := by
  obtain ⟨C, rfl⟩ := p
  rw [List.getElem?_append_left (List.getElem?_eq_some_iff.mp h).1]; exact h
section
variable {K : PySem.W.Frag} {A A' : List Addr} {F F' : Hp}
mutual
theorem Rr.mono (p : A <+: A') (e : Same F F') : ∀ (r : R) (v : V), Rr K A F v r → Rr K A' F' v r
  | .dat d, _, h => by
    cases h with
    | dat h => exact .dat (Rp.mono e d _ h)
  | .own j, _, h => by
    cases h with
    | own h => exact .own (pre_at p h)
  | .scr ns, _, h => by
    cases h with
    | scr z h => exact .scr z (e.seq h)
  | .tup rs, _, h => by
    cases h with
    | tup s h z => exact .tup (sqT_same e s) (Rrs.mono p e rs _ h) z
  | .exc c, _, h => by
    cases h with
    | exc h1 h2 => exact .exc h1 (e _ _ h2)
theorem Rrs.mono (p : A <+: A') (e : Same F F') : ∀ (rs : List R) (vs : List V), Rrs K A F vs rs → Rrs K A' F' vs rs
  | [], _, h => by cases h; exact .nil
  | r :: rs, _, h => by
    cases h with
    | cons h1 h2 => exact .cons (Rr.mono p e r _ h1) (Rrs.mono p e rs _ h2)
end
theorem Rrs.length : ∀ {rs : List R} {vs : List V}, Rrs K A F vs rs → vs.length = rs.length
  | [], _, h => by cases h; rfl
  | _ :: rs, _, h => by
    cases h with
    | cons _ h2 => rw [List.length_cons, List.length_cons, Rrs.length h2]
theorem Rrs.get : ∀ {rs : List R} {vs : List V} {i : Nat} {r : R}, Rrs K A F vs rs → rs[i]? = some r → ∃ v, vs[i]? = some v ∧ Rr K A F v r
  | [], _, _, _, _, e => by simp at e
  | _ :: _, _, 0, _, h, e => by
    cases h with
    | cons h1 h2 =>
      simp at e; subst e
      exact ⟨_, rfl, h1⟩
  | _ :: rs, _, i + 1, _, h, e => by
    cases h with
    | cons h1 h2 =>
      obtain ⟨v, e1, r⟩ := Rrs.get (i := i) h2 (by simpa using e)
      exact ⟨v, by simpa using e1, r⟩
theorem Rrs.append : ∀ {rs ss : List R} {vs us : List V}, Rrs K A F vs rs → Rrs K A F us ss → Rrs K A F (vs ++ us) (rs ++ ss)
  | [], _, _, _, h, g => by cases h; exact g
  | _ :: _, _, _, _, h, g => by
    cases h with
    | cons h1 h2 => exact .cons h1 (h2.append g)
theorem Rrs.take : ∀ {rs : List R} {vs : List V} (n : Nat), Rrs K A F vs rs → Rrs K A F (vs.take n) (rs.take n)
  | _, _, 0, _ => .nil
  | [], _, n + 1, h => by cases h; exact .nil
  | _ :: _, _, n + 1, h => by
    cases h with
    | cons h1 h2 => exact .cons h1 (h2.take n)
theorem Rrs.drop : ∀ {rs : List R} {vs : List V} (n : Nat), Rrs K A F vs rs → Rrs K A F (vs.drop n) (rs.drop n)
  | _, _, 0, h => h
  | [], _, n + 1, h => by cases h; exact .nil
  | _ :: _, _, n + 1, h => by
    cases h with
    | cons h1 h2 => exact h2.drop n
theorem Rrs.set : ∀ {rs : List R} {vs : List V} {v : V} {r : R} (i : Nat), Rr K A F v r → Rrs K A F vs rs → Rrs K A F (vs.set i v) (rs.set i r)
  | [], _, _, _, _, _, h => by cases h; exact .nil
  | _ :: _, _, _, _, 0, r, h => by
    cases h with
    | cons h1 h2 => exact .cons r h2
  | _ :: _, _, _, _, i + 1, r, h => by
    cases h with
    | cons h1 h2 => exact .cons h1 (Rrs.set i r h2)
end

abbrev PairR (K : PySem.W.Frag) (A : List Addr) (F : Hp) {κ : Type} (vs : List (κ × V)) (ks : List (κ × R)) : Prop := Paired (fun p q => p.1 = q.1 ∧ Rr K A F p.2 q.2) vs ks
def CellOk (K : PySem.W.Frag) (A : List Addr) (F H : Hp) (a : Addr) : Cell → Prop
  | .lst ds => ∃ vs, H a = some (.lst vs) ∧ Rps K F vs ds ∧ ds.length ≤ sizeLine
  | .lR rs => ∃ vs, H a = some (.lst vs) ∧ Rrs K A F vs rs ∧ rs.length ≤ sizeLine
  | .dR kvs => ∃ vs : List (Key × V), H a = some (.dK vs) ∧ PairR K A F vs kvs
  | .tR kvs => ∃ vs : List (List Key × V), H a = some (.dT vs) ∧ PairR K A F vs kvs
structure Ok (K : PySem.W.Frag) (A : List Addr) (F H : Hp) (S : Sx) (σ : L2.St) : Prop where
  sub : Sub F H
  len : S.sl.length = σ.length
  alen : S.os.length = A.length
  nd : A.Nodup
  rslot : ∀ (i : Nat) r, S.sl[i]? = some (some r) → ∃ v, σ[i]? = some (some v) ∧ Rr K A F v r
  cell : ∀ (j : Nat) c, S.os[j]? = some (some c) → ∃ a, A[j]? = some a ∧ F a = none ∧ CellOk K A F H a c
  trk : ∀ a ∈ A, ∃ o, H a = some o
section
variable {K : PySem.W.Frag} {A : List Addr} {F H : Hp} {S : Sx} {σ : L2.St}
theorem Ok.slot (k : Ok K A F H S σ) (i : Nat) (d : PyData) (h : S.sl[i]? = some (some (.dat d))) : ∃ v, σ[i]? = some (some v) ∧ Rp K F v d := by
  obtain ⟨v, e, r⟩ := k.rslot i _ h
  cases r with
  | dat r => exact ⟨v, e, r⟩
theorem Ok.oslot (k : Ok K A F H S σ) (i j : Nat) (h : S.sl[i]? = some (some (.own j))) : ∃ a, A[j]? = some a ∧ σ[i]? = some (some (.ref a)) := by
  obtain ⟨v, e, r⟩ := k.rslot i _ h
  cases r with
  | own r => exact ⟨_, r, e⟩
theorem Ok.sslot (k : Ok K A F H S σ) (i : Nat) (ns : List Int) (h : S.sl[i]? = some (some (.scr ns))) : ns.length ≤ 63 ∧ ∃ a, σ[i]? = some (some (.ref a)) ∧ SqL K F a (ns.map V.int) := by
  obtain ⟨v, e, r⟩ := k.rslot i _ h
  cases r with
  | scr z r => exact ⟨z, _, e, r⟩
end

theorem paired_mono {κ : Type} {K : PySem.W.Frag} {A A' : List Addr} {F F' : Hp} (p : A <+: A') (e : Same F F') {vs : List (κ × V)} {ks : List (κ × R)} (h : PairR K A F vs ks) : PairR K A' F' vs ks :=
  Paired.mapP h fun _ _ z => ⟨z.1, z.2.mono p e _ _⟩
/-- the cell at a stands over a greater heap -/
theorem CellOk.mono {K : PySem.W.Frag} {A A' : List Addr} {F F' H H' : Hp} {a : Addr} {c : Cell} (p : A <+: A') (e : Same F F') (ha : ∀ o, H a = some o → H' a = some o) (h : CellOk K A F H a c) : CellOk K A' F' H' a c := by
  cases c with
  | lst ds => obtain ⟨vs, h1, h2, hz⟩ := h; exact ⟨vs, ha _ h1, Rps.mono e _ _ h2, hz⟩
  | lR ds => obtain ⟨vs, h1, h2, hz⟩ := h; exact ⟨vs, ha _ h1, Rrs.mono p e _ _ h2, hz⟩
  | dR ds => obtain ⟨vs, h1, h2⟩ := h; exact ⟨vs, ha _ h1, paired_mono p e h2⟩
  | tR ds => obtain ⟨vs, h1, h2⟩ := h; exact ⟨vs, ha _ h1, paired_mono p e h2⟩

theorem same_upd {H : Hp} {p : Addr} {o : HO} (h : H p = none) : Same H (upd H p o) := fun b x e => by
  rw [upd_ne (ne_of_none e h)]
  exact e
section
variable {K : PySem.W.Frag} {A : List Addr} {F F' H H' : Hp} {S : Sx} {σ : L2.St}
/-- both heaps grow -/
theorem Ok.grow (k : Ok K A F H S σ) (sub : Sub F' H') (e : Same F F') (eh : ∀ a ∈ A, ∀ o, H a = some o → H' a = some o) (hf : ∀ a ∈ A, F a = none → F' a = none) : Ok K A F' H' S σ where
  sub := sub
  len := k.len
  alen := k.alen
  nd := k.nd
  rslot := fun i r h => by obtain ⟨v, e1, q⟩ := k.rslot i r h; exact ⟨v, e1, q.mono (List.prefix_refl _) e _ _⟩
  cell := fun j c h => by
    obtain ⟨a, e1, f, c⟩ := k.cell j c h
    have hm : a ∈ A := List.mem_of_getElem? e1
    exact ⟨a, e1, hf a hm f, c.mono (List.prefix_refl _) e (eh a hm)⟩
  trk := fun a h => by obtain ⟨o, q⟩ := k.trk a h; exact ⟨o, eh a h o q⟩
/-- a new object, known for good -/
theorem Ok.laid (k : Ok K A F H S σ) {p : Addr} {o : HO} (hp : H p = none) : Ok K A (upd F p o) (upd H p o) S σ := by
  have fp : F p = none := k.sub.none hp
  refine k.grow ⟨fun b u q => ?_, fun b u q n => ?_⟩ (same_upd fp) (fun a ha u q => by rw [upd_ne (ne_of_none q hp)]; exact q) fun a ha q => ?_
  · by_cases hb : b = p
    · subst hb; rw [upd_same] at q ⊢; exact q
    · rw [upd_ne hb] at q ⊢; exact k.sub.same b u q
  · by_cases hb : b = p
    · subst hb; rw [upd_same] at n; cases n
    · rw [upd_ne hb] at q n; exact k.sub.loose b u q n
  · obtain ⟨u, hu⟩ := k.trk a ha
    rw [upd_ne (ne_of_none hu hp)]; exact q
theorem sub_cell {G H : Hp} (s : Sub G H) {a : Addr} {o : HO} (g : G a = none) (l : Loose o) : Sub G (upd H a o) := ⟨fun b u q => by
    rw [upd_ne (ne_of_none q g)]; exact s.same b u q, fun b u q n => by
    by_cases hb : b = a
    · subst hb; rw [upd_same] at q; cases q; exact l
    · rw [upd_ne hb] at q; exact s.loose b u q n⟩
/-- a new cell -/
theorem Ok.cellNew (k : Ok K A F H S σ) {p : Addr} {o : HO} {c : Cell} (hp : H p = none) (l : Loose o) (hc : CellOk K (A ++ [p]) F (upd H p o) p c) : Ok K (A ++ [p]) F (upd H p o) { S with os := S.os ++ [some c] } σ := by
  have fp : F p = none := k.sub.none hp
  have np : p ∉ A := fun z => by obtain ⟨u, hu⟩ := k.trk p z; rw [hp] at hu; cases hu
  have pp : A <+: A ++ [p] := List.prefix_append _ _
  refine ⟨sub_cell k.sub fp l, k.len, by simp [k.alen], List.nodup_append.mpr ⟨k.nd, by simp, fun a ha b hb => by simp at hb; subst hb; intro z; subst z; exact np ha⟩, fun i r h => ?_, fun j c' h => ?_, fun a h => ?_⟩
  · obtain ⟨v, e1, q⟩ := k.rslot i r h
    exact ⟨v, e1, q.mono pp (Same.refl F) _ _⟩
  · by_cases hj : j < S.os.length
    · have h' : S.os[j]? = some (some c') := by
        have := h
        simp only at this
        rw [List.getElem?_append_left hj] at this; exact this
      obtain ⟨a, e1, f, q⟩ := k.cell j c' h'
      exact ⟨a, pre_at pp e1, f, q.mono pp (Same.refl F) fun u hu => by rw [upd_ne (ne_of_none hu hp)]; exact hu⟩
    · have e : j = S.os.length := by
        have := (List.getElem?_eq_some_iff.mp h).1
        simp at this
        omega
      subst e
      have h' : some c = some c' := by simpa using h
      cases h'
      exact ⟨p, by rw [k.alen]; simp, fp, hc⟩
  · rcases List.mem_append.mp h with h | h
    · obtain ⟨u, hu⟩ := k.trk a h
      exact ⟨u, by rw [upd_ne (ne_of_none hu hp)]; exact hu⟩
    · simp at h; subst h; exact ⟨o, upd_same⟩
theorem idx_nodup {α : Type} {A : List α} (nd : A.Nodup) {i j : Nat} {a : α} (h1 : A[i]? = some a) (h2 : A[j]? = some a) : i = j := by
  obtain ⟨l1, e1⟩ := List.getElem?_eq_some_iff.mp h1
  obtain ⟨l2, e2⟩ := List.getElem?_eq_some_iff.mp h2
  exact (List.getElem_inj nd).mp (e1.trans e2.symm)
/-- a cell written -/
theorem Ok.cellSet (k : Ok K A F H S σ) {j : Nat} {a : Addr} {o : HO} {c c' : Cell} (hj : S.os[j]? = some (some c)) (ha : A[j]? = some a) (l : Loose o) (hc : CellOk K A F (upd H a o) a c') :
    Ok K A F (upd H a o) { S with os := S.os.set j (some c') } σ := by
  obtain ⟨a', e1, fa, _⟩ := k.cell j c hj
  rw [ha] at e1; cases e1
  refine ⟨sub_cell k.sub fa l, k.len, by simp [k.alen], k.nd, k.rslot, fun i d h => ?_, fun b h => ?_⟩
  · by_cases hi : j = i
    · subst hi
      have hlt := (List.getElem?_eq_some_iff.mp hj).1
      rw [List.getElem?_set_self hlt] at h
      cases h
      exact ⟨a, ha, fa, hc⟩
    · rw [List.getElem?_set_ne hi] at h
      obtain ⟨b, e1, f, q⟩ := k.cell i d h
      have hb : b ≠ a := fun z => hi (idx_nodup k.nd ha (z ▸ e1))
      exact ⟨b, e1, f, q.mono (List.prefix_refl _) (Same.refl F) fun u hu => by rw [upd_ne hb]; exact hu⟩
  · by_cases hb : b = a
    · exact ⟨o, by rw [hb, upd_same]⟩
    · obtain ⟨u, hu⟩ := k.trk b h
      exact ⟨u, by rw [upd_ne hb]; exact hu⟩
/-- a cell is written no more: its object is known for good -/
theorem Ok.sealO (k : Ok K A F H S σ) {j : Nat} {a : Addr} {o : HO} {c : Cell} (hj : S.os[j]? = some (some c)) (ha : A[j]? = some a) (ho : H a = some o) :
    Same F (upd F a o) ∧ Ok K A (upd F a o) H { S with os := S.os.set j none } σ := by
  obtain ⟨a', e1, fa, _⟩ := k.cell j c hj
  rw [ha] at e1; cases e1
  have sm : Same F (upd F a o) := same_upd fa
  refine ⟨sm, ⟨⟨fun b u q => ?_, fun b u q n => ?_⟩, k.len, by simp [k.alen], k.nd, fun i r h => ?_, fun i d h => ?_, k.trk⟩⟩
  · by_cases hb : b = a
    · subst hb; rw [upd_same] at q; cases q; exact ho
    · rw [upd_ne hb] at q; exact k.sub.same b u q
  · by_cases hb : b = a
    · subst hb; rw [upd_same] at n; cases n
    · rw [upd_ne hb] at n; exact k.sub.loose b u q n
  · obtain ⟨v, e1, q⟩ := k.rslot i r h
    exact ⟨v, e1, q.mono (List.prefix_refl _) sm _ _⟩
  · by_cases hi : j = i
    · subst hi
      have hlt := (List.getElem?_eq_some_iff.mp hj).1
      rw [List.getElem?_set_self hlt] at h
      cases h
    · rw [List.getElem?_set_ne hi] at h
      obtain ⟨b, e1, f, q⟩ := k.cell i d h
      have hb : b ≠ a := fun z => hi (idx_nodup k.nd ha (z ▸ e1))
      exact ⟨b, e1, by rw [upd_ne hb]; exact f, q.mono (List.prefix_refl _) sm fun u hu => hu⟩
/-- .. a list of data -/
theorem Ok.seal (k : Ok K A F H S σ) {j : Nat} {ds : List PyData} (hj : S.os[j]? = some (some (.lst ds))) :
    ∃ a F', A[j]? = some a ∧ Same F F' ∧ Rp K F' (.ref a) (.list ds) ∧ Ok K A F' H { S with os := S.os.set j none } σ ∧ ∀ b, b ≠ a → F' b = F b := by
  obtain ⟨a, ha, fa, vs, hv, r, hz⟩ := k.cell j _ hj
  obtain ⟨sm, k'⟩ := k.sealO hj ha hv
  exact ⟨a, _, ha, sm, .lst upd_same (Rps.mono sm _ _ r) hz, k', fun b hb => upd_ne hb⟩
theorem Ok.setR (k : Ok K A F H S σ) {i : Nat} {r : R} {v : V} (q : Rr K A F v r) : Ok K A F H { S with sl := S.sl.set i (some r) } (σ.set i (some v)) := by
  refine ⟨k.sub, by simp [k.len], k.alen, k.nd, fun n e h => ?_, k.cell, k.trk⟩
  by_cases hi : i = n
  · subst hi
    have hlt : i < S.sl.length := by
      have := (List.getElem?_eq_some_iff.mp h).1
      simpa using this
    rw [List.getElem?_set_self hlt] at h
    cases h
    exact ⟨v, by rw [List.getElem?_set_self (by rw [← k.len]; exact hlt)], q⟩
  · rw [List.getElem?_set_ne hi] at h ⊢
    exact k.rslot n e h
theorem Ok.setDat (k : Ok K A F H S σ) {i : Nat} {d : PyData} {v : V} (r : Rp K F v d) : Ok K A F H { S with sl := S.sl.set i (some (.dat d)) } (σ.set i (some v)) := k.setR (.dat r)
theorem Ok.setOwn (k : Ok K A F H S σ) {i j : Nat} {a : Addr} (ha : A[j]? = some a) : Ok K A F H { S with sl := S.sl.set i (some (.own j)) } (σ.set i (some (.ref a))) := k.setR (.own ha)
theorem set_at {α : Type} {l : List (Option α)} {i : Nat} {v : α} (hv : l[i]? = some (some v)) : l.set i (some v) = l := by
  apply List.ext_getElem?
  intro n
  by_cases hi : i = n
  · subst hi
    rw [List.getElem?_set_self (List.getElem?_eq_some_iff.mp hv).1, hv]
  · rw [List.getElem?_set_ne hi]
/-- the slot's thing told otherwise, the value as it was -/
theorem Ok.rAt (k : Ok K A F H S σ) {i : Nat} {r : R} {v : V} (hv : σ[i]? = some (some v)) (q : Rr K A F v r) : Ok K A F H { S with sl := S.sl.set i (some r) } σ := by
  have := k.setR (i := i) q
  rwa [set_at hv] at this
theorem Ok.datAt (k : Ok K A F H S σ) {i : Nat} {d : PyData} {v : V} (hv : σ[i]? = some (some v)) (r : Rp K F v d) : Ok K A F H { S with sl := S.sl.set i (some (.dat d)) } σ := k.rAt hv (.dat r)
end
end Fu

set_option maxHeartbeats 4000000
namespace Fu
open PySem PySem.Spec PyProof.Rows L2

theorem bind_inv {α β : Type} {x : Option α} {f : α → Option β} {b : β} (h : x.bind f = some b) : ∃ a, x = some a ∧ f a = some b := by
  cases x with
  | none => cases h
  | some a => exact ⟨a, rfl, h⟩

/-! ### the judgements: an expression's reading meets a function on states -/
def RdE (K : PySem.W.Frag) (t : TE) (g : M D) : Prop := ∀ A F H S σ d S' (Q : VK), Ok K A F H S σ → g S = some (d, S') →
  (∀ A' F' H' v, A <+: A' → Same F F' → Ok K A' F' H' S' σ → Rp K F' v d → Q v H') → t σ H Q
def RdT (K : PySem.W.Frag) (t : TT) (g : M Bool) : Prop := ∀ A F H S σ b S' (Q : Bool → Hp → Prop), Ok K A F H S σ → g S = some (b, S') →
  (∀ A' F' H', A <+: A' → Same F F' → Ok K A' F' H' S' σ → Q b H') → t σ H Q
def RdA (K : PySem.W.Frag) (t : TA) (g : M (List D)) : Prop := ∀ A F H S σ ds S' (Q : List V → Hp → Prop), Ok K A F H S σ → g S = some (ds, S') →
  (∀ A' F' H' vs, A <+: A' → Same F F' → Ok K A' F' H' S' σ → Rps K F' vs ds → Q vs H') → t σ H Q
structure GE (X : Cx) (e : Expr) (g : M D) : Prop where
  ex : ∃ t, PE X e t ∧ RdE X.K t g
structure GT (X : Cx) (e : Expr) (g : M Bool) : Prop where
  ex : ∃ t, PT X e t ∧ RdT X.K t g
structure GW (X : Cx) (e : Expr) (g : M Bool) : Prop where
  ex : ∃ t, PW X e t ∧ RdT X.K t g
structure GA (X : Cx) (es : List Expr) (g : M (List D)) : Prop where
  ex : ∃ t, PA X es t ∧ RdA X.K t g

/-! ### names and constants -/
def gVar (i : Nat) : M D := fun S => match S.sl[i]? with
  | some (some (.dat d)) => some (d, S)
  | some (some (.own j)) => match S.os[j]? with
    | some (some (.lst ds)) => some (.list ds, ⟨S.sl.set i (some (.dat (.list ds))), S.os.set j none⟩)
    | _ => none
  | _ => none
def gC (d : D) : M D := fun S => some (d, S)
section
variable {X : Cx} {pos : Pos}
theorem rd_var {K : PySem.W.Frag} (i : Nat) : RdE K (tVar i) (gVar i) := by
  intro A F H S σ d S' Q k h post
  unfold gVar at h
  cases e : S.sl[i]? with
  | none => rw [e] at h; cases h
  | some r =>
    cases r with
    | none => rw [e] at h; cases h
    | some r =>
      cases r with
      | dat d' =>
        rw [e] at h; cases h
        obtain ⟨v, ev, r⟩ := k.slot i _ e
        exact ⟨v, ev, post A F H v (List.prefix_refl _) (Same.refl F) k r⟩
      | scr ns => rw [e] at h; cases h
      | tup rs => rw [e] at h; cases h
      | exc c => rw [e] at h; cases h
      | own j =>
        rw [e] at h
        simp only at h
        cases e2 : S.os[j]? with
        | none => rw [e2] at h; cases h
        | some c =>
          cases c with
          | none => rw [e2] at h; cases h
          | some c =>
            cases c with
            | lst ds =>
              rw [e2] at h; cases h
              obtain ⟨a, ha, ev⟩ := k.oslot i j e
              obtain ⟨a', F', ha', sm, r, k', _⟩ := k.seal e2
              rw [ha] at ha'; cases ha'
              exact ⟨_, ev, post A F' H _ (List.prefix_refl _) sm (k'.datAt ev r) r⟩
            | lR _ => rw [e2] at h; cases h
            | dR _ => rw [e2] at h; cases h
            | tR _ => rw [e2] at h; cases h
theorem e_var (i : Nat) {x : Str} (hN : X.N[i]? = some x := by rfl) (hv : Vis X.env.scope x := by first | exact Or.inl rfl | exact Or.inr (Or.inl rfl) | exact Or.inr (Or.inr rfl)) (hd : (x == ("__debug__" : Str)) = false := by decide)
    (hcd : (x == ("__classdict__" : Str)) = false := by decide) : GE X (.Name x pos) (gVar i) := ⟨_, pe_var hN hv hd hcd, rd_var i⟩
theorem rd_c {K : PySem.W.Frag} {v : V} {d : D} (r : ∀ F, Rp K F v d) : RdE K (tC v) (gC d) := by
  intro A F H S σ d' S' Q k h post
  cases h
  exact post A F H v (List.prefix_refl _) (Same.refl F) k (r F)
theorem e_int {i : Int} {j} : GE X (.Constant (.int i) j pos) (gC (.int i)) := ⟨_, pe_int, rd_c fun _ => .int i⟩
theorem e_bl {b : Bool} {j} : GE X (.Constant (.bool b) j pos) (gC (.bool b)) := ⟨_, pe_bl, rd_c fun _ => .bl b⟩
theorem e_non {j} : GE X (.Constant .none j pos) (gC .none) := ⟨_, pe_non, rd_c fun _ => .non⟩
theorem e_str {x : Str} {j} (hz : x.length ≤ sizeLine := by decide) : GE X (.Constant (.str x) j pos) (gC (.str x)) := ⟨_, pe_str, rd_c fun _ => .str hz⟩
/-- a module's constant -/
theorem e_gint {x : Str} {i : Int} {t : Tok} (hm : X.mg x = some (.int i t)) (hg : Gl X x := by rfl) (hd : (x == ("__debug__" : Str)) = false := by decide) : GE X (.Name x pos) (gC (.int i)) := ⟨_, pe_glob (v := .int i) hg hm ⟨t, rfl⟩ hd, rd_c fun _ => .int i⟩
theorem e_gstr {x z : Str} {t : Tok} (hm : X.mg x = some (.str z t)) (hg : Gl X x := by rfl) (hz : z.length ≤ sizeLine := by decide) (hd : (x == ("__debug__" : Str)) = false := by decide) : GE X (.Name x pos) (gC (.str z)) := ⟨_, pe_glob (v := .str z) hg hm ⟨t, rfl⟩ hd, rd_c fun _ => .str hz⟩
end

/-! ### operators by values -/
def RdOp (K : PySem.W.Frag) (r : R2) (f : D → D → Option D) : Prop := ∀ A F H S σ x y d e z Q, Ok K A F H S σ → Rp K F x d → Rp K F y e → f d e = some z →
  (∀ F' H' v, Same F F' → Ok K A F' H' S σ → Rp K F' v z → Q v H') → r x y H Q
def gBin (f : D → D → Option D) (ga gb : M D) : M D := fun S => (ga S).bind fun p => (gb p.2).bind fun q => (f p.1 q.1).bind fun z => some (z, q.2)
section
variable {X : Cx} {pos : Pos} {a b : Expr} {ga gb : M D}
theorem rd_op {K : PySem.W.Frag} {r : R2} {f : D → D → Option D} {ta tb : TE} (hf : RdOp K r f) (ra : RdE K ta ga) (rb : RdE K tb gb) : RdE K (tOp r ta tb) (gBin f ga gb) := by
  intro A F H S σ d S' Q k h post
  obtain ⟨⟨x, S1⟩, h1, h⟩ := bind_inv h
  obtain ⟨⟨y, S2⟩, h2, h⟩ := bind_inv h
  obtain ⟨z, h3, h⟩ := bind_inv h
  cases h
  refine ra A F H S σ x S1 _ k h1 fun A1 F1 H1 v1 p1 s1 k1 r1 => rb A1 F1 H1 S1 σ y S2 _ k1 h2 fun A2 F2 H2 v2 p2 s2 k2 r2 => ?_
  exact hf A2 F2 H2 _ σ v1 v2 x y _ Q k2 (r1.mono s2 _ _) r2 h3 fun F3 H3 v s3 k3 r3 => post A2 F3 H3 v (p1.trans p2) (s1.trans (s2.trans s3)) k3 r3
theorem e_op {op : Operator} {r : R2} {f : D → D → Option D} (ho : OpR X (binaryOp op) r) (hf : RdOp X.K r f) (ha : GE X a ga) (hb : GE X b gb) : GE X (.BinOp a op b pos) (gBin f ga gb) :=
  let ⟨_, pa, ra⟩ := ha.ex; let ⟨_, pb, rb⟩ := hb.ex; ⟨_, pe_op ho pa pb, rd_op hf ra rb⟩
theorem e_cmpR {op : CmpOp} {r : R2} {f : D → D → Option D} (ho : OpR X (compareOp op) r) (hf : RdOp X.K r f) (hm : behindInMarks op b = false) (ha : GE X a ga) (hb : GE X b gb) : GE X (.Compare a [op] [b] pos) (gBin f ga gb) :=
  let ⟨_, pa, ra⟩ := ha.ex; let ⟨_, pb, rb⟩ := hb.ex; ⟨_, pe_cmpR ho pa pb hm, rd_op hf ra rb⟩
def gB (g : M D) : M Bool := fun S => (g S).bind fun p => match p.1 with
  | .bool b => some (b, p.2)
  | _ => none
theorem rd_test {K : PySem.W.Frag} {t : TE} {g : M D} (h : RdE K t g) : RdT K (tB t) (gB g) := by
  intro A F H S σ b S' Q k e post
  obtain ⟨⟨d, S1⟩, h1, e⟩ := bind_inv e
  refine h A F H S σ d S1 _ k h1 fun A1 F1 H1 v p1 s1 k1 r1 => ?_
  cases d <;> simp only at e <;> cases e
  cases r1
  exact ⟨_, rfl, post A1 F1 H1 p1 s1 k1⟩
theorem t_cmpR {op : CmpOp} {r : R2} {f : D → D → Option D} (ho : OpR X (compareOp op) r) (hf : RdOp X.K r f) (hm : behindInMarks op b = false) (ha : GE X a ga) (hb : GE X b gb) : GT X (.Compare a [op] [b] pos) (gB (gBin f ga gb)) :=
  let ⟨_, pa, ra⟩ := ha.ex; let ⟨_, pb, rb⟩ := hb.ex; ⟨_, pt_cmpR ho pa pb hm, rd_test (rd_op hf ra rb)⟩
theorem t_val {e : Expr} {g : M D} (h : GE X e g) (he : ∀ whole, isTrue e X.env whole = (do let v ← whole; standAt e.pos; holding [v] (truthy v)) := by intro _; rfl) : GT X e (gB g) :=
  let ⟨_, pe, re⟩ := h.ex; ⟨_, pt_val pe he, rd_test re⟩

/-! ### the operators -/
def dAdd : D → D → Option D
  | .int i, .int j => some (.int (i + j))
  | .str x, .str y => if x.length + y.length ≤ sizeLine then some (.str (x ++ y)) else none
  | .list xs, .list ys => if xs.length + ys.length ≤ sizeLine then some (.list (xs ++ ys)) else none
  | .tuple xs, .tuple ys => if xs.length + ys.length ≤ sizeLine then some (.tuple (xs ++ ys)) else none
  | _, _ => none

end

section
variable {K : PySem.W.Frag}
theorem rps_upd {F : Hp} {p : Addr} {o : HO} {vs : List V} {ds : List D} (h : F p = none) (r : Rps K F vs ds) : Rps K (upd F p o) vs ds := Rps.mono (same_upd h) _ _ r
/-- a new list, a new tuple, known for good -/
theorem Ok.newList {A : List Addr} {F H : Hp} {S : Sx} {σ : L2.St} (k : Ok K A F H S σ) {p : Addr} {vs : List V} {ds : List D} (hp : H p = none) (r : Rps K F vs ds) (hz : ds.length ≤ sizeLine) :
    Same F (upd F p (.lst vs)) ∧ Ok K A (upd F p (.lst vs)) (upd H p (.lst vs)) S σ ∧ Rp K (upd F p (.lst vs)) (.ref p) (.list ds) :=
  have fp := k.sub.none hp
  ⟨same_upd fp, k.laid hp, .lst upd_same (rps_upd fp r) hz⟩
theorem Ok.newTup {A : List Addr} {F H : Hp} {S : Sx} {σ : L2.St} (k : Ok K A F H S σ) {p : Addr} {vs : List V} {ds : List D} (hp : H p = none) (r : Rps K F vs ds) (hz : ds.length ≤ sizeLine) :
    Same F (upd F p (.tup vs)) ∧ Ok K A (upd F p (.tup vs)) (upd H p (.tup vs)) S σ ∧ Rp K (upd F p (.tup vs)) (.ref p) (.tuple ds) :=
  have fp := k.sub.none hp
  ⟨same_upd fp, k.laid hp, .tup (.inl (.inl upd_same)) (rps_upd fp r) hz⟩
theorem rp_list_inv {F : Hp} {v : V} {ds : List D} (h : Rp K F v (.list ds)) : ∃ a xs, v = .ref a ∧ F a = some (.lst xs) ∧ Rps K F xs ds ∧ ds.length ≤ sizeLine := by
  cases h with
  | lst h1 h2 h3 => exact ⟨_, _, rfl, h1, h2, h3⟩
theorem rp_tup_inv {F : Hp} {v : V} {ds : List D} (h : Rp K F v (.tuple ds)) : ∃ a xs, v = .ref a ∧ SqT K F a xs ∧ Rps K F xs ds ∧ ds.length ≤ sizeLine := by
  cases h with
  | tup h1 h2 h3 => exact ⟨_, _, rfl, h1, h2, h3⟩
theorem rp_str_inv {F : Hp} {v : V} {x : Str} (h : Rp K F v (.str x)) : v = .str x ∧ x.length ≤ sizeLine := by
  cases h with
  | str h => exact ⟨rfl, h⟩
theorem rp_int_inv {F : Hp} {v : V} {i : Int} (h : Rp K F v (.int i)) : v = .int i := by cases h; rfl
theorem rp_bool_inv {F : Hp} {v : V} {i : Bool} (h : Rp K F v (.bool i)) : v = .bl i := by cases h; rfl

def rAddAny (K : PySem.W.Frag) : R2 := fun x y H Q => (rI0 (fun i j => .int (i + j)) x y H Q) ∨ (∃ i j, x = .str i ∧ y = .str j ∧ i.length + j.length ≤ sizeLine ∧ Q (.str (i ++ j)) H) ∨ rCat x y H Q ∨ rCatA K x y H Q
theorem op_addAny {X : Cx} : OpR X (binaryOp .Add) (rAddAny X.K) := OpR.or op_add (OpR.or op_add_str (OpR.or op_cat op_catA))
theorem str_app_len (x y : Str) : (x ++ y).length = x.length + y.length := by
  show (Str.append x y).length = _
  simp [Str.append, Str.length]
theorem rd_add : RdOp K (rAddAny K) dAdd := by
  intro A F H S σ x y d e z Q k rx ry h post
  have id1 : ∀ v, Rp K F v z → Q v H := fun v r => post F H v (Same.refl F) k r
  cases d <;> cases e <;> simp only [dAdd] at h <;> try cases h
  · cases rp_int_inv rx; cases rp_int_inv ry
    exact .inl ⟨_, _, rfl, rfl, id1 _ (.int _)⟩
  · split at h
    · rename_i hz
      cases h
      obtain ⟨rfl, _⟩ := rp_str_inv rx
      obtain ⟨rfl, _⟩ := rp_str_inv ry
      exact .inr (.inl ⟨_, _, rfl, rfl, hz, id1 _ (.str (by rw [str_app_len]; exact hz))⟩)
    · cases h
  · split at h
    · rename_i hz
      cases h
      obtain ⟨a, xs, rfl, h1, h2, _⟩ := rp_list_inv rx
      obtain ⟨b, ys, rfl, g1, g2, _⟩ := rp_list_inv ry
      refine .inr (.inr (.inl ⟨a, b, xs, ys, rfl, rfl, k.sub.same _ _ h1, k.sub.same _ _ g1, by rw [h2.length, g2.length]; exact hz, fun p hp => ?_⟩))
      obtain ⟨s1, k1, r1⟩ := k.newList hp (h2.append g2) (by rw [List.length_append]; exact hz)
      exact post _ _ _ s1 k1 r1
    · cases h
  · split at h
    · rename_i hz
      cases h
      obtain ⟨a, xs, rfl, h1, h2, _⟩ := rp_tup_inv rx
      obtain ⟨b, ys, rfl, g1, g2, _⟩ := rp_tup_inv ry
      refine .inr (.inr (.inr ⟨a, b, xs, ys, rfl, rfl, sqT_same k.sub.same h1, sqT_same k.sub.same g1, by rw [h2.length, g2.length]; exact hz, fun e => ?_, fun e1 e2 => ?_, fun e1 e2 p hp => ?_⟩))
      · subst e
        cases h2
        exact id1 _ (by simpa using ry)
      · subst e2
        cases g2
        exact id1 _ (by simpa using rx)
      · obtain ⟨s1, k1, r1⟩ := k.newTup hp (h2.append g2) (by rw [List.length_append]; exact hz)
        exact post _ _ _ s1 k1 r1
    · cases h

/-! ### other operators on ints -/
def dSub : D → D → Option D
  | .int i, .int j => some (.int (i - j))
  | _, _ => none
theorem rd_sub : RdOp K (rI0 fun i j => .int (i - j)) dSub := by
  intro A F H S σ x y d e z Q k rx ry h post
  cases d <;> cases e <;> simp only [dSub] at h <;> cases h
  cases rp_int_inv rx; cases rp_int_inv ry
  exact ⟨_, _, rfl, rfl, post F H _ (Same.refl F) k (.int _)⟩
end
end Fu

set_option maxHeartbeats 4000000
namespace Fu
open PySem PySem.Spec PyProof.Rows L2
section
variable {K : PySem.W.Frag}
/-! ### products, quotients, rests, powers -/
instance (i j : Int) : Decidable (CMulW i j) := inferInstanceAs (Decidable (_ < _))
instance (i j : Int) : Decidable (CDivW i j) := inferInstanceAs (Decidable (_ ∧ _))
instance (i j : Int) : Decidable (CPow i j) := inferInstanceAs (Decidable (_ ∧ _ ∧ _))
def dMul : D → D → Option D
  | .int i, .int j => if CMulW i j then some (.int (i * j)) else none
  | .list xs, .int k => if -(2 ^ 63) ≤ k ∧ k < 2 ^ 63 ∧ xs.length * k.toNat ≤ sizeLine then some (.list (List.replicate k.toNat xs).flatten) else none
  | _, _ => none
def rMulAny : R2 := fun x y H Q => rI CMulW (fun i j => .int (i * j)) x y H Q ∨ rRep x y H Q
theorem op_mulAny {X : Cx} : OpR X (binaryOp .Mult) rMulAny := OpR.or op_mulW op_rep
theorem rd_mul : RdOp K rMulAny dMul := by
  intro A F H S σ x y d e z Q k rx ry h post
  cases d <;> cases e <;> simp only [dMul] at h <;> try cases h
  · split at h
    · rename_i hz
      cases h
      cases rp_int_inv rx; cases rp_int_inv ry
      exact .inl ⟨_, _, rfl, rfl, hz, post F H _ (Same.refl F) k (.int _)⟩
    · cases h
  · split at h
    · rename_i hz
      cases h
      obtain ⟨a, xs, rfl, h1, h2, _⟩ := rp_list_inv rx
      cases rp_int_inv ry
      refine .inr ⟨a, _, xs, rfl, rfl, k.sub.same _ _ h1, hz.1, hz.2.1, by rw [h2.length]; exact hz.2.2, fun p hp => ?_⟩
      obtain ⟨s1, k1, r1⟩ := k.newList hp (h2.rep _) (by rw [PyProof.Rows.lm_len_rep_flat, Nat.mul_comm]; exact hz.2.2)
      exact post _ _ _ s1 k1 r1
    · cases h
def dDiv : D → D → Option D
  | .int i, .int j => if CDivW i j then some (.int (i / j)) else none
  | _, _ => none
def dMod : D → D → Option D
  | .int i, .int j => if 0 < j then some (.int (i % j)) else none
  | _, _ => none
def dPow : D → D → Option D
  | .int i, .int j => if CPow i j then some (.int (i ^ j.toNat)) else none
  | _, _ => none
theorem rd_ii {C : Int → Int → Prop} [∀ i j, Decidable (C i j)] {f : Int → Int → Int} {g : D → D → Option D} (hg : ∀ d e z, g d e = some z → ∃ i j, d = .int i ∧ e = .int j ∧ C i j ∧ z = .int (f i j)) : RdOp K (rI C fun i j => .int (f i j)) g := by
  intro A F H S σ x y d e z Q k rx ry h post
  obtain ⟨i, j, rfl, rfl, c, rfl⟩ := hg d e z h
  cases rp_int_inv rx; cases rp_int_inv ry
  exact ⟨_, _, rfl, rfl, c, post F H _ (Same.refl F) k (.int _)⟩
theorem rd_div : RdOp K (rI CDivW fun i j => .int (i / j)) dDiv := rd_ii fun d e z h => by
  cases d <;> cases e <;> simp only [dDiv] at h <;> try cases h
  split at h
  · cases h; exact ⟨_, _, rfl, rfl, by assumption, rfl⟩
  · cases h
theorem rd_mod : RdOp K (rI (fun _ j => 0 < j) fun i j => .int (i % j)) dMod := rd_ii fun d e z h => by
  cases d <;> cases e <;> simp only [dMod] at h <;> try cases h
  split at h
  · cases h; exact ⟨_, _, rfl, rfl, by assumption, rfl⟩
  · cases h
theorem rd_pow : RdOp K (rI CPow fun i j => .int (i ^ j.toNat)) dPow := rd_ii fun d e z h => by
  cases d <;> cases e <;> simp only [dPow] at h <;> try cases h
  split at h
  · cases h; exact ⟨_, _, rfl, rfl, by assumption, rfl⟩
  · cases h

/-! ### comparisons -/
def dCmp (p : Int → Int → Bool) : D → D → Option D
  | .int i, .int j => some (.bool (p i j))
  | _, _ => none
theorem rd_cmp (p : Int → Int → Bool) : RdOp K (rI0 fun i j => .bl (p i j)) (dCmp p) := by
  intro A F H S σ x y d e z Q k rx ry h post
  cases d <;> cases e <;> simp only [dCmp] at h <;> cases h
  cases rp_int_inv rx; cases rp_int_inv ry
  exact ⟨_, _, rfl, rfl, post F H _ (Same.refl F) k (.bl _)⟩
def strEq : D → D → Option Bool
  | .str x, .str y => some (decide (x = y))
  | _, _ => none
def dEq (d e : D) : Option D := if SeqAt.shaped d = true ∧ SeqAt.shaped e = true then some (.bool (PyData.eqv d e)) else (strEq d e).map .bool
def dNe (d e : D) : Option D := if SeqAt.shaped d = true ∧ SeqAt.shaped e = true then some (.bool (!PyData.eqv d e)) else (strEq d e).map fun b => .bool (!b)
def rEqAny (K : PySem.W.Frag) : R2 := fun x y H Q => rEqD K x y H Q ∨ rEq x y H Q
def rNeAny (K : PySem.W.Frag) : R2 := fun x y H Q => rNeD K x y H Q ∨ rNe x y H Q
theorem op_eqAny {X : Cx} (hu : X.A.units + 64 < cLine) : OpR X (compareOp .Eq) (rEqAny X.K) := OpR.or (op_eqD hu) op_eq
theorem op_neAny {X : Cx} (hu : X.A.units + 64 < cLine) : OpR X (compareOp .NotEq) (rNeAny X.K) := OpR.or (op_neD hu) op_ne
theorem strEq_inv {d e : D} {b : Bool} (h : strEq d e = some b) : ∃ x y, d = .str x ∧ e = .str y ∧ b = decide (x = y) := by
  unfold strEq at h
  split at h
  · cases h; exact ⟨_, _, rfl, rfl, rfl⟩
  · cases h
theorem strV_eq (x y : Str) : decide (V.str x = V.str y) = decide (x = y) := by
  by_cases h : x = y
  · subst h; simp
  · rw [decide_eq_false h, decide_eq_false (fun z => h (by injection z))]
theorem Rp.dpH {F H : Hp} {v : V} {d : D} (s : Same F H) (c : SeqAt.shaped d = true) (r : Rp K F v d) : Dp K H v d := Rp.dp _ _ (SeqAt.canLay_of_shaped c) (r.mono s _ _)
theorem rd_eq : RdOp K (rEqAny K) dEq := by
  intro A F H S σ x y d e z Q k rx ry h post
  unfold dEq at h
  split at h
  · rename_i c
    cases h
    exact .inl ⟨d, e, rx.dpH k.sub.same c.1, ry.dpH k.sub.same c.2, c.1, c.2, post F H _ (Same.refl F) k (.bl _)⟩
  · obtain ⟨b, h1, rfl⟩ := Option.map_eq_some_iff.mp h
    obtain ⟨u, v, rfl, rfl, rfl⟩ := strEq_inv h1
    obtain ⟨rfl, _⟩ := rp_str_inv rx
    obtain ⟨rfl, _⟩ := rp_str_inv ry
    exact .inr ⟨rfl, post F H _ (Same.refl F) k (by rw [strV_eq]; exact .bl _)⟩
theorem rd_ne : RdOp K (rNeAny K) dNe := by
  intro A F H S σ x y d e z Q k rx ry h post
  unfold dNe at h
  split at h
  · rename_i c
    cases h
    exact .inl ⟨d, e, rx.dpH k.sub.same c.1, ry.dpH k.sub.same c.2, c.1, c.2, post F H _ (Same.refl F) k (.bl _)⟩
  · obtain ⟨b, h1, rfl⟩ := Option.map_eq_some_iff.mp h
    obtain ⟨u, v, rfl, rfl, rfl⟩ := strEq_inv h1
    obtain ⟨rfl, _⟩ := rp_str_inv rx
    obtain ⟨rfl, _⟩ := rp_str_inv ry
    exact .inr ⟨rfl, post F H _ (Same.refl F) k (by rw [strV_eq]; exact .bl _)⟩
/-- in a list, in a tuple, in a text -/
def dIn : D → D → Option D
  | .str x, .str y => some (.bool (!(Builtin.Str.occurrences y x 0 y.length 1).isEmpty))
  | d, .list ds => if SeqAt.shaped d = true ∧ SeqAt.shaped (.list ds) = true then some (.bool (ds.any fun z => PyData.eqv z d)) else none
  | d, .tuple ds => if SeqAt.shaped d = true ∧ SeqAt.shaped (.tuple ds) = true then some (.bool (ds.any fun z => PyData.eqv z d)) else none
  | _, _ => none
def rInT (K : PySem.W.Frag) : R2 := fun x y H Q => ∃ d ds, Dp K H x d ∧ Dp K H y (.tuple ds) ∧ SeqAt.shaped d = true ∧ SeqAt.shaped (.tuple ds) = true ∧ Q (.bl (ds.any fun z => PyData.eqv z d)) H
theorem op_inT {X : Cx} (hu : X.A.units + 65 < cLine) : OpR X (compareOp .In) (rInT X.K) := by
  intro pins s σ H x y v u Q I rx ry h
  obtain ⟨d, ds, hd, he, sd, se, q⟩ := h
  obtain ⟨as, r1⟩ := Dp.reads I d x v hd rx
  obtain ⟨bs, r2⟩ := Dp.reads I (.tuple ds) y u he ry
  exact SeqAt.in_tuple_reads r2 r1 (SeqAt.canLay_of_shaped se) (SeqAt.canLay_of_shaped sd) (room_in_shaped (xs := ds) sd hu) ⟨.bl _, H, I, rfl, q⟩
def rInAny (K : PySem.W.Frag) : R2 := fun x y H Q => (∃ i j, x = .str i ∧ y = .str j ∧ Q (.bl (!(Builtin.Str.occurrences j i 0 j.length 1).isEmpty)) H) ∨ rInD K x y H Q ∨ rInT K x y H Q
theorem op_inAny {X : Cx} (hu : X.A.units + 65 < cLine) : OpR X (compareOp .In) (rInAny X.K) := OpR.or op_in_str (OpR.or (op_inD hu) (op_inT hu))
theorem rd_in : RdOp K (rInAny K) dIn := by
  intro A F H S σ x y d e z Q k rx ry h post
  have fin : ∀ b, z = .bool b → Q (.bl b) H := fun b e => by subst e; exact post F H _ (Same.refl F) k (.bl _)
  unfold dIn at h
  split at h
  · cases h
    obtain ⟨rfl, _⟩ := rp_str_inv rx
    obtain ⟨rfl, _⟩ := rp_str_inv ry
    exact .inl ⟨_, _, rfl, rfl, fin _ rfl⟩
  · split at h
    · rename_i c
      cases h
      exact .inr (.inl ⟨_, _, rx.dpH k.sub.same c.1, ry.dpH k.sub.same c.2, c.1, c.2, fin _ rfl⟩)
    · cases h
  · split at h
    · rename_i c
      cases h
      exact .inr (.inr ⟨_, _, rx.dpH k.sub.same c.1, ry.dpH k.sub.same c.2, c.1, c.2, fin _ rfl⟩)
    · cases h
  · cases h
end

/-! ### the expressions' rules by operators -/
section
variable {X : Cx} {pos : Pos} {a b c : Expr} {ga gb gc : M D}
theorem e_add (ha : GE X a ga) (hb : GE X b gb) : GE X (.BinOp a .Add b pos) (gBin dAdd ga gb) := e_op op_addAny rd_add ha hb
theorem e_sub (ha : GE X a ga) (hb : GE X b gb) : GE X (.BinOp a .Sub b pos) (gBin dSub ga gb) := e_op op_sub rd_sub ha hb
theorem e_mul (ha : GE X a ga) (hb : GE X b gb) : GE X (.BinOp a .Mult b pos) (gBin dMul ga gb) := e_op op_mulAny rd_mul ha hb
theorem e_div (ha : GE X a ga) (hb : GE X b gb) : GE X (.BinOp a .FloorDiv b pos) (gBin dDiv ga gb) := e_op op_fdivW rd_div ha hb
theorem e_mod (ha : GE X a ga) (hb : GE X b gb) : GE X (.BinOp a .Mod b pos) (gBin dMod ga gb) := e_op op_mod rd_mod ha hb
theorem e_pow (ha : GE X a ga) (hb : GE X b gb) : GE X (.BinOp a .Pow b pos) (gBin dPow ga gb) := e_op op_pow rd_pow ha hb
abbrev dLt := dCmp fun i j => decide (i < j)
abbrev dGt := dCmp fun i j => decide (j < i)
abbrev dGe := dCmp fun i j => decide (j ≤ i)
theorem e_lt (ha : GE X a ga) (hb : GE X b gb) : GE X (.Compare a [.Lt] [b] pos) (gBin dLt ga gb) := e_cmpR op_lt (rd_cmp _) (nomark _) ha hb
theorem e_gt (ha : GE X a ga) (hb : GE X b gb) : GE X (.Compare a [.Gt] [b] pos) (gBin dGt ga gb) := e_cmpR op_gt (rd_cmp _) (nomark _) ha hb
theorem e_ge (ha : GE X a ga) (hb : GE X b gb) : GE X (.Compare a [.GtE] [b] pos) (gBin dGe ga gb) := e_cmpR op_ge (rd_cmp _) (nomark _) ha hb
theorem e_eq (hu : X.A.units + 64 < cLine) (ha : GE X a ga) (hb : GE X b gb) : GE X (.Compare a [.Eq] [b] pos) (gBin dEq ga gb) := e_cmpR (op_eqAny hu) rd_eq (nomark _) ha hb
theorem e_ne (hu : X.A.units + 64 < cLine) (ha : GE X a ga) (hb : GE X b gb) : GE X (.Compare a [.NotEq] [b] pos) (gBin dNe ga gb) := e_cmpR (op_neAny hu) rd_ne (nomark _) ha hb
theorem e_in (hu : X.A.units + 65 < cLine) (ha : GE X a ga) (hb : GE X b gb) (hm : behindInMarks .In b = false := by rfl) : GE X (.Compare a [.In] [b] pos) (gBin dIn ga gb) := e_cmpR (op_inAny hu) rd_in hm ha hb
theorem t_ge (ha : GE X a ga) (hb : GE X b gb) : GT X (.Compare a [.GtE] [b] pos) (gB (gBin dGe ga gb)) := t_cmpR op_ge (rd_cmp _) (nomark _) ha hb
theorem t_eq (hu : X.A.units + 64 < cLine) (ha : GE X a ga) (hb : GE X b gb) : GT X (.Compare a [.Eq] [b] pos) (gB (gBin dEq ga gb)) := t_cmpR (op_eqAny hu) rd_eq (nomark _) ha hb
theorem t_ne (hu : X.A.units + 64 < cLine) (ha : GE X a ga) (hb : GE X b gb) : GT X (.Compare a [.NotEq] [b] pos) (gB (gBin dNe ga gb)) := t_cmpR (op_neAny hu) rd_ne (nomark _) ha hb
theorem t_in (hu : X.A.units + 65 < cLine) (ha : GE X a ga) (hb : GE X b gb) (hm : behindInMarks .In b = false := by rfl) : GT X (.Compare a [.In] [b] pos) (gB (gBin dIn ga gb)) := t_cmpR (op_inAny hu) rd_in hm ha hb
/-! ### and, or, not, if -/
def gAnd (g h : M Bool) : M Bool := fun S => (g S).bind fun p => if p.1 = true then h p.2 else some (false, p.2)
def gOr (g h : M Bool) : M Bool := fun S => (g S).bind fun p => if p.1 = true then some (true, p.2) else h p.2
def gNot (g : M Bool) : M Bool := fun S => (g S).bind fun p => some (!p.1, p.2)
def gIf (t : M Bool) (g h : M D) : M D := fun S => (t S).bind fun p => if p.1 = true then g p.2 else h p.2
variable {rest : List Expr} {g h : M Bool}
theorem w_or1 (ha : GT X a g) : GW X (.BoolOp .Or [a] pos) g := let ⟨_, pa, ra⟩ := ha.ex; ⟨_, pw_or1 pa, ra⟩
theorem rd_or {K : PySem.W.Frag} {t u : TT} (ha : RdT K t g) (hb : RdT K u h) : RdT K (tOr t u) (gOr g h) := by
  intro A F H S σ d S' Q k e post
  obtain ⟨⟨x, S1⟩, h1, e⟩ := bind_inv e
  refine ha A F H S σ x S1 _ k h1 fun A1 F1 H1 p1 s1 k1 => ?_
  cases x with
  | false => exact hb A1 F1 H1 S1 σ d S' Q k1 e fun A2 F2 H2 p2 s2 k2 => post A2 F2 H2 (p1.trans p2) (s1.trans s2) k2
  | true =>
    cases e
    exact post A1 F1 H1 p1 s1 k1
theorem w_or (ha : GT X a g) (hb : GW X (.BoolOp .Or (b :: rest) pos) h) : GW X (.BoolOp .Or (a :: b :: rest) pos) (gOr g h) :=
  let ⟨_, pa, ra⟩ := ha.ex; let ⟨_, pb, rb⟩ := hb.ex; ⟨_, pw_or pa pb, rd_or ra rb⟩
theorem t_w {e : Expr} (hw : GW X e g) : GT X e g := let ⟨_, pa, ra⟩ := hw.ex; ⟨_, pa.pt, ra⟩
theorem t_not (ha : GT X a g) : GT X (.UnaryOp .Not a pos) (gNot g) := by
  obtain ⟨t, pa, ra⟩ := ha.ex
  refine ⟨_, pt_not pa, fun A F H S σ d S' Q k e post => ?_⟩
  obtain ⟨⟨x, S1⟩, h1, e⟩ := bind_inv e
  cases e
  exact ra A F H S σ x _ _ k h1 post
/-- as values -/
def gAndV (g h : M D) : M D := fun S => (g S).bind fun p => match p.1 with
  | .bool true => h p.2
  | .bool false => some (.bool false, p.2)
  | _ => none
def gOrV (g h : M D) : M D := fun S => (g S).bind fun p => match p.1 with
  | .bool true => some (.bool true, p.2)
  | .bool false => h p.2
  | _ => none
def gNotV (g : M D) : M D := fun S => (g S).bind fun p => match p.1 with
  | .bool b => some (.bool (!b), p.2)
  | _ => none
theorem e_one {op} (ha : GE X a ga) : GE X (.BoolOp op [a] pos) ga := let ⟨_, pa, ra⟩ := ha.ex; ⟨_, pe_one pa, ra⟩
theorem e_and (ha : GE X a ga) (hb : GE X (.BoolOp .And (b :: rest) pos) gb) : GE X (.BoolOp .And (a :: b :: rest) pos) (gAndV ga gb) := by
  obtain ⟨t, pa, ra⟩ := ha.ex
  obtain ⟨u, pb, rb⟩ := hb.ex
  refine ⟨_, pe_and pa pb, fun A F H S σ d S' Q k e post => ?_⟩
  obtain ⟨⟨x, S1⟩, h1, e⟩ := bind_inv e
  refine ra A F H S σ x S1 _ k h1 fun A1 F1 H1 v p1 s1 k1 r1 => ?_
  cases x <;> simp only at e <;> try cases e
  rename_i y
  cases rp_bool_inv r1
  refine ⟨y, rfl, ?_⟩
  cases y with
  | true => exact rb A1 F1 H1 S1 σ d S' Q k1 e fun A2 F2 H2 v p2 s2 k2 => post A2 F2 H2 v (p1.trans p2) (s1.trans s2) k2
  | false =>
    cases e
    exact post A1 F1 H1 _ p1 s1 k1 (.bl _)
theorem e_or (ha : GE X a ga) (hb : GE X (.BoolOp .Or (b :: rest) pos) gb) : GE X (.BoolOp .Or (a :: b :: rest) pos) (gOrV ga gb) := by
  obtain ⟨t, pa, ra⟩ := ha.ex
  obtain ⟨u, pb, rb⟩ := hb.ex
  refine ⟨_, pe_or pa pb, fun A F H S σ d S' Q k e post => ?_⟩
  obtain ⟨⟨x, S1⟩, h1, e⟩ := bind_inv e
  refine ra A F H S σ x S1 _ k h1 fun A1 F1 H1 v p1 s1 k1 r1 => ?_
  cases x <;> simp only at e <;> try cases e
  rename_i y
  cases rp_bool_inv r1
  refine ⟨y, rfl, ?_⟩
  cases y with
  | false => exact rb A1 F1 H1 S1 σ d S' Q k1 e fun A2 F2 H2 v p2 s2 k2 => post A2 F2 H2 v (p1.trans p2) (s1.trans s2) k2
  | true =>
    cases e
    exact post A1 F1 H1 _ p1 s1 k1 (.bl _)
theorem e_not (ha : GE X a ga) : GE X (.UnaryOp .Not a pos) (gNotV ga) := by
  obtain ⟨t, pa, ra⟩ := ha.ex
  refine ⟨_, pe_not pa, fun A F H S σ d S' Q k e post => ?_⟩
  obtain ⟨⟨x, S1⟩, h1, e⟩ := bind_inv e
  refine ra A F H S σ x S1 _ k h1 fun A1 F1 H1 v p1 s1 k1 r1 => ?_
  cases x <;> simp only at e <;> try cases e
  cases rp_bool_inv r1
  exact ⟨_, rfl, post A1 F1 H1 _ p1 s1 k1 (.bl _)⟩
theorem e_if (hc : GT X c g) (ha : GE X a ga) (hb : GE X b gb) : GE X (.IfExp c a b pos) (gIf g ga gb) := by
  obtain ⟨t, pc, rc⟩ := hc.ex
  obtain ⟨_, pa, ra⟩ := ha.ex
  obtain ⟨_, pb, rb⟩ := hb.ex
  refine ⟨_, pe_ifExp pc pa pb, fun A F H S σ d S' Q k e post => ?_⟩
  obtain ⟨⟨x, S1⟩, h1, e⟩ := bind_inv e
  refine rc A F H S σ x S1 _ k h1 fun A1 F1 H1 p1 s1 k1 => ?_
  cases x with
  | true => exact ra A1 F1 H1 S1 σ d S' Q k1 e fun A2 F2 H2 v p2 s2 k2 => post A2 F2 H2 v (p1.trans p2) (s1.trans s2) k2
  | false => exact rb A1 F1 H1 S1 σ d S' Q k1 e fun A2 F2 H2 v p2 s2 k2 => post A2 F2 H2 v (p1.trans p2) (s1.trans s2) k2
def gUn (f : D → Option D) (g : M D) : M D := fun S => (g S).bind fun p => (f p.1).bind fun z => some (z, p.2)
def dNeg : D → Option D
  | .int i => some (.int (-i))
  | _ => none
theorem e_neg (ha : GE X a ga) : GE X (.UnaryOp .USub a pos) (gUn dNeg ga) := by
  obtain ⟨t, pa, ra⟩ := ha.ex
  refine ⟨_, pe_un un_neg pa, fun A F H S σ d S' Q k e post => ?_⟩
  obtain ⟨⟨x, S1⟩, h1, e⟩ := bind_inv e
  obtain ⟨z, h2, e⟩ := bind_inv e
  cases e
  refine ra A F H S σ x _ _ k h1 fun A1 F1 H1 v p1 s1 k1 r1 => ?_
  cases x <;> simp only [dNeg] at h2 <;> cases h2
  cases rp_int_inv r1
  exact ⟨_, rfl, post A1 F1 H1 _ p1 s1 k1 (.int _)⟩

/-! ### arguments, displays -/
def gNil : M (List D) := fun S => some ([], S)
def gCons (g : M D) (gs : M (List D)) : M (List D) := fun S => (g S).bind fun p => (gs p.2).bind fun q => some (p.1 :: q.1, q.2)
variable {e : Expr} {es : List Expr} {ge : M D} {gs : M (List D)}
theorem a_nil : GA X [] gNil := ⟨_, pa_nil, fun A F H S σ d S' Q k e post => by cases e; exact post A F H _ (List.prefix_refl _) (Same.refl F) k .nil⟩
theorem a_cons (ha : GE X e ge) (hs : GA X es gs) (hst : starEach (e :: es) X.env = (false, eval e X.env) :: starEach es X.env := by rfl) : GA X (e :: es) (gCons ge gs) := by
  obtain ⟨t, pa, ra⟩ := ha.ex
  obtain ⟨u, pb, rb⟩ := hs.ex
  refine ⟨_, pa_cons pa pb hst, fun A F H S σ d S' Q k e post => ?_⟩
  obtain ⟨⟨x, S1⟩, h1, e⟩ := bind_inv e
  obtain ⟨⟨y, S2⟩, h2, e⟩ := bind_inv e
  cases e
  refine ra A F H S σ x S1 _ k h1 fun A1 F1 H1 v p1 s1 k1 r1 => rb A1 F1 H1 S1 σ y S2 _ k1 h2 fun A2 F2 H2 vs p2 s2 k2 r2 => ?_
  exact post A2 F2 H2 _ (p1.trans p2) (s1.trans s2) k2 (.cons (r1.mono s2 _ _) r2)
def gTup (g : M (List D)) : M D := fun S => (g S).bind fun p => if p.1.length ≤ sizeLine then some (.tuple p.1, p.2) else none
def gLst (g : M (List D)) : M D := fun S => (g S).bind fun p => if p.1.length ≤ sizeLine then some (.list p.1, p.2) else none
theorem e_tup {x1} (hs : GA X es gs) : GE X (.Tuple es x1 pos) (gTup gs) := by
  obtain ⟨u, pb, rb⟩ := hs.ex
  refine ⟨_, pe_tup pb, fun A F H S σ d S' Q k e post => ?_⟩
  obtain ⟨⟨x, S1⟩, h1, e⟩ := bind_inv e
  simp only at e
  split at e
  · rename_i hz
    cases e
    refine rb A F H S σ x _ _ k h1 fun A1 F1 H1 vs p1 s1 k1 r1 => ⟨by rw [r1.length]; exact hz, fun p hp => ?_⟩
    obtain ⟨s2, k2, r2⟩ := k1.newTup hp r1 hz
    exact post A1 _ _ _ p1 (s1.trans s2) k2 r2
  · cases e
theorem e_lst (hs : GA X es gs) : GE X (.List es pos) (gLst gs) := by
  obtain ⟨u, pb, rb⟩ := hs.ex
  refine ⟨_, pe_lst pb, fun A F H S σ d S' Q k e post => ?_⟩
  obtain ⟨⟨x, S1⟩, h1, e⟩ := bind_inv e
  simp only at e
  split at e
  · rename_i hz
    cases e
    refine rb A F H S σ x _ _ k h1 fun A1 F1 H1 vs p1 s1 k1 r1 => ⟨by rw [r1.length]; exact hz, fun p hp => ?_⟩
    obtain ⟨s2, k2, r2⟩ := k1.newList hp r1 hz
    exact post A1 _ _ _ p1 (s1.trans s2) k2 r2
  · cases e

/-! ### items, slices -/
def dIx : D → D → Option D
  | .list xs, .int i => atI xs i
  | .tuple xs, .int i => atI xs i
  | .str z, .int i => (atI z.cps.toList i).bind fun c => some (.str ⟨#[c]⟩)
  | _, _ => none
theorem rps_atI {K : PySem.W.Frag} {F : Hp} {vs : List V} {ds : List D} {i : Int} {d : D} (r : Rps K F vs ds) (h : atI ds i = some d) : ∃ v, atI vs i = some v ∧ Rp K F v d := by
  unfold atI at h ⊢
  rw [r.length]
  obtain ⟨j, h1, h2⟩ := bind_inv h
  rw [h1]
  exact r.get h2
def rIxAny (K : PySem.W.Frag) : R2 := fun x y H Q => rIxL K x y H Q ∨ rIxT K x y H Q ∨ rIxS x y H Q
theorem ix_any : IxR X (rIxAny X.K) := IxR.or ix_list (IxR.or ix_tup ix_str)
theorem one_len (c : Nat) : (⟨#[c]⟩ : Str).length ≤ sizeLine := by
  show 1 ≤ sizeLine
  decide
theorem rd_ix {K : PySem.W.Frag} : RdOp K (rIxAny K) dIx := by
  intro A F H S σ x y d e z Q k rx ry h post
  unfold dIx at h
  split at h
  · obtain ⟨a, xs, rfl, h1, h2, _⟩ := rp_list_inv rx
    cases rp_int_inv ry
    obtain ⟨v, e1, r⟩ := rps_atI h2 h
    exact .inl ⟨a, xs, _, v, rfl, rfl, SqL.of (k.sub.same _ _ h1), e1, post F H _ (Same.refl F) k r⟩
  · obtain ⟨a, xs, rfl, h1, h2, _⟩ := rp_tup_inv rx
    cases rp_int_inv ry
    obtain ⟨v, e1, r⟩ := rps_atI h2 h
    exact .inr (.inl ⟨a, xs, _, v, rfl, rfl, sqT_same k.sub.same h1, e1, post F H _ (Same.refl F) k r⟩)
  · obtain ⟨rfl, hz⟩ := rp_str_inv rx
    cases rp_int_inv ry
    obtain ⟨c, h1, h2⟩ := bind_inv h
    cases h2
    exact .inr (.inr ⟨_, _, c, rfl, rfl, hz, h1, post F H _ (Same.refl F) k (.str (one_len c))⟩)
  · cases h
theorem e_ix (ha : GE X a ga) (hb : GE X b gb) (hs : PlainIx b := by exact fun _ _ => rfl) : GE X (.Subscript a b pos) (gBin dIx ga gb) := by
  obtain ⟨t, pa, ra⟩ := ha.ex
  obtain ⟨u, pb, rb⟩ := hb.ex
  exact ⟨_, pe_ix ix_any pa pb hs, rd_op rd_ix ra rb⟩
/-- a slice's part -/
structure GO (X : Cx) (e : Option Expr) (g : M (Option Int)) : Prop where
  ex : ∃ t, PO X e t ∧ ∀ A F H S σ o S' (Q : Option Int → Hp → Prop), Ok X.K A F H S σ → g S = some (o, S') → (∀ A' F' H', A <+: A' → Same F F' → Ok X.K A' F' H' S' σ → Q o H') → t σ H Q
def gNo : M (Option Int) := fun S => some (none, S)
def gSo (g : M D) : M (Option Int) := fun S => (g S).bind fun p => match p.1 with
  | .int i => some (some i, p.2)
  | _ => none
theorem o_none : GO X none gNo := ⟨_, po_none, fun A F H S σ o S' Q k e post => by cases e; exact post A F H (List.prefix_refl _) (Same.refl F) k⟩
theorem o_some (ha : GE X a ga) : GO X (some a) (gSo ga) := by
  obtain ⟨t, pa, ra⟩ := ha.ex
  refine ⟨_, po_some pa, fun A F H S σ o S' Q k e post => ?_⟩
  obtain ⟨⟨x, S1⟩, h1, e⟩ := bind_inv e
  refine ra A F H S σ x _ _ k h1 fun A1 F1 H1 v p1 s1 k1 r1 => ?_
  cases x <;> simp only at e <;> cases e
  cases rp_int_inv r1
  exact ⟨_, rfl, post A1 F1 H1 p1 s1 k1⟩
def cutL {α : Type} (xs : List α) (lo hi : Option Int) : List α := (xs.drop (HT.sIx xs.length 0 lo)).take (HT.sIx xs.length xs.length hi - HT.sIx xs.length 0 lo)
theorem cutL_le {α : Type} (xs : List α) (lo hi : Option Int) : (cutL xs lo hi).length ≤ xs.length := by
  unfold cutL
  rw [List.length_take, List.length_drop]
  omega
def dSl : D → Option Int → Option Int → Option D
  | .list xs, lo, hi => some (.list (cutL xs lo hi))
  | .tuple xs, lo, hi => some (.tuple (cutL xs lo hi))
  | .str z, lo, hi => some (.str (cutS z lo hi))
  | _, _, _ => none
def gSl (g : M D) (gl gh : M (Option Int)) : M D := fun S => (g S).bind fun p => (gl p.2).bind fun q => (gh q.2).bind fun r => (dSl p.1 q.1 r.1).bind fun z => some (z, r.2)
def rSlAny (K : PySem.W.Frag) : V → Option Int → Option Int → Hp → VK → Prop := fun x lo hi H Q => rSlL K x lo hi H Q ∨ rSlA K x lo hi H Q ∨ rSlS x lo hi H Q
theorem sl_any : SlR X (rSlAny X.K) := SlR.or sl_list (SlR.or sl_tupA sl_str)
theorem rps_cut {K : PySem.W.Frag} {F : Hp} {vs : List V} {ds : List D} (r : Rps K F vs ds) (lo hi : Option Int) : Rps K F (cutV vs lo hi) (cutL ds lo hi) := by
  unfold cutV cutL
  rw [r.length]
  exact (r.drop _).take _
theorem rd_sl {K : PySem.W.Frag} {A : List Addr} {F H : Hp} {S : Sx} {σ : L2.St} {x : V} {d z : D} {lo hi : Option Int} {Q : VK} (k : Ok K A F H S σ) (rx : Rp K F x d) (h : dSl d lo hi = some z)
    (post : ∀ F' H' v, Same F F' → Ok K A F' H' S σ → Rp K F' v z → Q v H') : rSlAny K x lo hi H Q := by
  cases d <;> simp only [dSl] at h <;> cases h
  · obtain ⟨rfl, hz⟩ := rp_str_inv rx
    exact .inr (.inr ⟨_, rfl, hz, post F H _ (Same.refl F) k (.str (Nat.le_trans (cutS_length _ _ _) hz))⟩)
  · obtain ⟨a, xs, rfl, h1, h2, h3⟩ := rp_list_inv rx
    refine .inl ⟨a, xs, rfl, SqL.of (k.sub.same _ _ h1), fun p hp => ?_⟩
    obtain ⟨s1, k1, r1⟩ := k.newList hp (rps_cut h2 lo hi) (Nat.le_trans (cutL_le _ _ _) h3)
    exact post _ _ _ s1 k1 r1
  · obtain ⟨a, xs, rfl, h1, h2, h3⟩ := rp_tup_inv rx
    refine .inr (.inl ⟨a, xs, rfl, sqT_same k.sub.same h1, fun hw => ?_, fun _ p hp => ?_⟩)
    · refine post F H _ (Same.refl F) k ?_
      rename_i ds
      have : cutL ds lo hi = ds := by
        unfold cutL
        rw [← h2.length, hw.1, hw.2, h2.length]
        simp
      rw [this]
      exact rx
    · obtain ⟨s1, k1, r1⟩ := k.newTup hp (rps_cut h2 lo hi) (Nat.le_trans (cutL_le _ _ _) h3)
      exact post _ _ _ s1 k1 r1
theorem e_sl {lo hi : Option Expr} {p2 : Pos} {gl gh : M (Option Int)} (ha : GE X a ga) (hl : GO X lo gl) (hh : GO X hi gh) : GE X (.Subscript a (.Slice lo hi none p2) pos) (gSl ga gl gh) := by
  obtain ⟨t, pa, ra⟩ := ha.ex
  obtain ⟨_, pl, rl⟩ := hl.ex
  obtain ⟨_, ph, rh⟩ := hh.ex
  refine ⟨_, pe_slice sl_any pa pl ph, fun A F H S σ d S' Q k e post => ?_⟩
  obtain ⟨⟨x, S1⟩, h1, e⟩ := bind_inv e
  obtain ⟨⟨l, S2⟩, h2, e⟩ := bind_inv e
  obtain ⟨⟨u, S3⟩, h3, e⟩ := bind_inv e
  obtain ⟨z, h4, e⟩ := bind_inv e
  cases e
  refine ra A F H S σ x _ _ k h1 fun A1 F1 H1 v p1 s1 k1 r1 => rl A1 F1 H1 _ σ l _ _ k1 h2 fun A2 F2 H2 p2 s2 k2 => rh A2 F2 H2 _ σ u _ _ k2 h3 fun A3 F3 H3 p3 s3 k3 => ?_
  exact rd_sl k3 ((r1.mono s2 _ _).mono s3 _ _) h4 fun F4 H4 w s4 k4 r4 => post A3 F4 H4 w (p1.trans (p2.trans p3)) (s1.trans (s2.trans (s3.trans s4))) k4 r4
end
end Fu

set_option maxHeartbeats 4000000
namespace Fu
open PySem PySem.Spec PyProof.Rows L2

/-! ### calls of built-ins by name -/
def RdC (K : PySem.W.Frag) (r : List V → Hp → VK → Prop) (f : List D → Option D) : Prop := ∀ A F H S σ xs ds z Q, Ok K A F H S σ → Rps K F xs ds → f ds = some z →
  (∀ F' H' v, Same F F' → Ok K A F' H' S σ → Rp K F' v z → Q v H') → r xs H Q
def gCall (f : List D → Option D) (g : M (List D)) : M D := fun S => (g S).bind fun p => (f p.1).bind fun z => some (z, p.2)
section
variable {X : Cx} {pos p p2 : Pos} {x : Str} {e : Expr} {es : List Expr} {gs : M (List D)} {r : List V → Hp → VK → Prop} {f : List D → Option D} {id T : String}
theorem rd_callB {K : PySem.W.Frag} {t : TA} (hf : RdC K r f) (rs : RdA K t gs) : RdE K (tCB r t) (gCall f gs) := by
  intro A F H S σ d S' Q k h post
  obtain ⟨⟨ds, S1⟩, h1, h⟩ := bind_inv h
  obtain ⟨z, h2, h⟩ := bind_inv h
  cases h
  exact rs A F H S σ ds _ _ k h1 fun A1 F1 H1 vs p1 s1 k1 r1 => hf A1 F1 H1 _ σ vs ds _ Q k1 r1 h2 fun F2 H2 v s2 k2 r2 => post A1 F2 H2 v p1 (s1.trans s2) k2 r2
theorem e_callB (hc : CallR X (.builtin id) r) (hf : RdC X.K r f) (hm : X.mg x = none) (hv : bootBuiltins x = some (.builtin id)) (ha : GA X (e :: es) gs) (hg : Gl X x := by rfl) (hn : x ≠ "__name__" := by decide) (hdb : (x == ("__debug__" : Str)) = false := by decide)
    (he : starEach (e :: es) X.env = (false, eval e X.env) :: starEach es X.env := by rfl) (hpl : (backTo pos (starEach es X.env)).any (·.1) = false := by rfl) : GE X (.Call (.Name x p) (e :: es) [] pos) (gCall f gs) :=
  let ⟨_, pa, ra⟩ := ha.ex; ⟨_, pe_callB hc hg hm hv pa hn hdb he hpl, rd_callB hf ra⟩
theorem e_callTy (hc : CallR X (.type T) r) (hf : RdC X.K r f) (hm : X.mg x = none) (hv : bootBuiltins x = some (.type T)) (ha : GA X (e :: es) gs) (hg : Gl X x := by rfl) (hn : x ≠ "__name__" := by decide) (hdb : (x == ("__debug__" : Str)) = false := by decide)
    (he : starEach (e :: es) X.env = (false, eval e X.env) :: starEach es X.env := by rfl) (hpl : (backTo pos (starEach es X.env)).any (·.1) = false := by rfl) : GE X (.Call (.Name x p) (e :: es) [] pos) (gCall f gs) :=
  let ⟨_, pa, ra⟩ := ha.ex; ⟨_, pe_callTy hc hg hm hv pa hn hdb he hpl, rd_callB hf ra⟩
end

section
variable {K : PySem.W.Frag}
theorem rps1 {F : Hp} {vs : List V} {d : D} (r : Rps K F vs [d]) : ∃ v, vs = [v] ∧ Rp K F v d := by
  cases r with
  | cons h1 h2 => cases h2; exact ⟨_, rfl, h1⟩
theorem rps2 {F : Hp} {vs : List V} {d e : D} (r : Rps K F vs [d, e]) : ∃ v u, vs = [v, u] ∧ Rp K F v d ∧ Rp K F u e := by
  cases r with
  | cons h1 h2 => cases h2 with
    | cons h3 h4 => cases h4; exact ⟨_, _, rfl, h1, h3⟩
def dLen : List D → Option D
  | [.list xs] => some (.int xs.length)
  | [.tuple xs] => some (.int xs.length)
  | [.str x] => some (.int x.length)
  | _ => none
theorem rd_len : RdC K (fun xs H Q => ∃ x n, xs = [x] ∧ LenV K x H n ∧ Q (.int n) H) dLen := by
  intro A F H S σ xs ds z Q k r h post
  unfold dLen at h
  split at h <;> cases h
  · obtain ⟨v, rfl, rv⟩ := rps1 r
    obtain ⟨a, vs, rfl, h1, h2, _⟩ := rp_list_inv rv
    exact ⟨_, _, rfl, .inl ⟨vs, SqL.of (k.sub.same _ _ h1), h2.length.symm⟩, post F H _ (Same.refl F) k (.int _)⟩
  · obtain ⟨v, rfl, rv⟩ := rps1 r
    obtain ⟨a, vs, rfl, h1, h2, _⟩ := rp_tup_inv rv
    exact ⟨_, _, rfl, .inr ⟨vs, sqT_same k.sub.same h1, h2.length.symm⟩, post F H _ (Same.refl F) k (.int _)⟩
  · obtain ⟨v, rfl, rv⟩ := rps1 r
    obtain ⟨rfl, hz⟩ := rp_str_inv rv
    exact ⟨_, _, rfl, ⟨hz, rfl⟩, post F H _ (Same.refl F) k (.int _)⟩
def dInt : List D → Option D
  | [.int i] => some (.int i)
  | [.bool b] => some (.int (if b then 1 else 0))
  | _ => none
theorem rd_int : RdC K (fun xs H Q => (∃ i, xs = [.int i] ∧ Q (.int i) H) ∨ ∃ k, xs = [.bl k] ∧ Q (.int (if k then 1 else 0)) H) dInt := by
  intro A F H S σ xs ds z Q k r h post
  unfold dInt at h
  split at h <;> cases h
  · obtain ⟨v, rfl, rv⟩ := rps1 r
    cases rp_int_inv rv
    exact .inl ⟨_, rfl, post F H _ (Same.refl F) k (.int _)⟩
  · obtain ⟨v, rfl, rv⟩ := rps1 r
    cases rp_bool_inv rv
    exact .inr ⟨_, rfl, post F H _ (Same.refl F) k (.int _)⟩
def dMax2 : List D → Option D
  | [.int i, .int j] => some (.int (if j > i then j else i))
  | _ => none
def dMin2 : List D → Option D
  | [.int i, .int j] => some (.int (if j < i then j else i))
  | _ => none
theorem rd_max2 : RdC K (fun xs H Q => ∃ i j, xs = [.int i, .int j] ∧ Q (.int (if j > i then j else i)) H) dMax2 := by
  intro A F H S σ xs ds z Q k r h post
  unfold dMax2 at h
  split at h <;> cases h
  obtain ⟨v, u, rfl, rv, ru⟩ := rps2 r
  cases rp_int_inv rv; cases rp_int_inv ru
  exact ⟨_, _, rfl, post F H _ (Same.refl F) k (.int _)⟩
theorem rd_min2 : RdC K (fun xs H Q => ∃ i j, xs = [.int i, .int j] ∧ Q (.int (if j < i then j else i)) H) dMin2 := by
  intro A F H S σ xs ds z Q k r h post
  unfold dMin2 at h
  split at h <;> cases h
  obtain ⟨v, u, rfl, rv, ru⟩ := rps2 r
  cases rp_int_inv rv; cases rp_int_inv ru
  exact ⟨_, _, rfl, post F H _ (Same.refl F) k (.int _)⟩
def dList : List D → Option D
  | [.list xs] => some (.list xs)
  | [.tuple xs] => some (.list xs)
  | _ => none
def dTuple : List D → Option D
  | [.list xs] => some (.tuple xs)
  | [.tuple xs] => some (.tuple xs)
  | _ => none
theorem rd_tuple : RdC K (fun xs H Q => ∃ p ys, xs = [.ref p] ∧ ((SqL K H p ys ∧ ∀ l, H l = none → Q (.ref l) (upd H l (.tup ys))) ∨ (SqT K H p ys ∧ Q (.ref p) H))) dTuple := by
  intro A F H S σ xs ds z Q k r h post
  unfold dTuple at h
  split at h <;> cases h
  · obtain ⟨v, rfl, rv⟩ := rps1 r
    obtain ⟨a, vs, rfl, h1, h2, h3⟩ := rp_list_inv rv
    refine ⟨_, _, rfl, .inl ⟨SqL.of (k.sub.same _ _ h1), fun l hl => ?_⟩⟩
    obtain ⟨s1, k1, r1⟩ := k.newTup hl h2 h3
    exact post _ _ _ s1 k1 r1
  · obtain ⟨v, rfl, rv⟩ := rps1 r
    obtain ⟨a, vs, rfl, h1, h2, h3⟩ := rp_tup_inv rv
    exact ⟨_, _, rfl, .inr ⟨sqT_same k.sub.same h1, post F H _ (Same.refl F) k rv⟩⟩
/-- all items are truths -/
def allBools : List D → Option (List Bool)
  | [] => some []
  | .bool b :: ds => (allBools ds).bind fun bs => some (b :: bs)
  | _ => none
theorem allBools_map : ∀ {ds : List D} {bs : List Bool}, allBools ds = some bs → ds = bs.map .bool
  | [], _, h => by cases h; rfl
  | .bool b :: ds, _, h => by
    obtain ⟨bs, h1, h2⟩ := bind_inv h
    cases h2
    rw [List.map_cons, allBools_map h1]
  | .none :: _, _, h => by simp [allBools] at h
  | .int _ :: _, _, h => by simp [allBools] at h
  | .str _ :: _, _, h => by simp [allBools] at h
  | .list _ :: _, _, h => by simp [allBools] at h
  | .tuple _ :: _, _, h => by simp [allBools] at h
  | .dict _ :: _, _, h => by simp [allBools] at h
theorem allBools_of : ∀ bs : List Bool, allBools (bs.map .bool) = some bs
  | [] => rfl
  | b :: bs => by
    show (allBools (bs.map .bool)).bind _ = _
    rw [allBools_of bs]; rfl
theorem rps_bools {F : Hp} : ∀ {vs : List V} {bs : List Bool}, Rps K F vs (bs.map .bool) → vs = bs.map V.bl
  | _, [], h => by cases h; rfl
  | _, b :: bs, h => by
    cases h with
    | cons h1 h2 => rw [rp_bool_inv h1, rps_bools h2]; rfl
def dAll : List D → Option D
  | [.list xs] => (allBools xs).bind fun bs => some (.bool (bs.all id))
  | _ => none
theorem rd_all : RdC K (rAll K) dAll := by
  intro A F H S σ xs ds z Q k r h post
  unfold dAll at h
  split at h
  · obtain ⟨bs, h1, h2⟩ := bind_inv h
    cases h2
    obtain ⟨v, rfl, rv⟩ := rps1 r
    obtain ⟨a, vs, rfl, g1, g2, g3⟩ := rp_list_inv rv
    rw [allBools_map h1] at g2
    rw [rps_bools g2] at g1
    exact ⟨a, bs, rfl, SqL.of (k.sub.same _ _ g1), post F H _ (Same.refl F) k (.bl _)⟩
  · cases h
end
section
variable {X : Cx} {pos p p2 : Pos} {e : Expr} {es : List Expr} {gs : M (List D)}
theorem e_len (hm : X.mg "len" = none) (ha : GA X [e] gs) (hg : Gl X "len" := by rfl) (he : starEach [e] X.env = (false, eval e X.env) :: starEach [] X.env := by rfl) : GE X (.Call (.Name "len" p) [e] [] pos) (gCall dLen gs) :=
  e_callB call_len rd_len hm PySem.boot_len ha hg (he := he) (hpl := by rfl)
theorem e_intOf (hm : X.mg "int" = none) (ha : GA X [e] gs) (hg : Gl X "int" := by rfl) (he : starEach [e] X.env = (false, eval e X.env) :: starEach [] X.env := by rfl) : GE X (.Call (.Name "int" p) [e] [] pos) (gCall dInt gs) :=
  e_callTy call_int1 rd_int hm (by decide +kernel) ha hg (he := he) (hpl := by rfl)
theorem e_tuple (hm : X.mg "tuple" = none) (ha : GA X [e] gs) (hg : Gl X "tuple" := by rfl) (he : starEach [e] X.env = (false, eval e X.env) :: starEach [] X.env := by rfl) : GE X (.Call (.Name "tuple" p) [e] [] pos) (gCall dTuple gs) :=
  e_callTy call_tuple_of rd_tuple hm (by decide +kernel) ha hg (he := he) (hpl := by rfl)
theorem e_all (hm : X.mg "all" = none) (ha : GA X [e] gs) (hc : X.calm = true := by rfl) (hg : Gl X "all" := by rfl) (he : starEach [e] X.env = (false, eval e X.env) :: starEach [] X.env := by rfl) : GE X (.Call (.Name "all" p) [e] [] pos) (gCall dAll gs) :=
  e_callB (cr_all hc) rd_all hm (by decide +kernel) ha hg (he := he) (hpl := by rfl)
variable {e2 : Expr}
theorem e_max2 (hm : X.mg "max" = none) (ha : GA X [e, e2] gs) (hc : X.calm = true := by rfl) (hg : Gl X "max" := by rfl) (he : starEach [e, e2] X.env = (false, eval e X.env) :: starEach [e2] X.env := by rfl) (hpl : (backTo pos (starEach [e2] X.env)).any (·.1) = false := by rfl) :
    GE X (.Call (.Name "max" p) [e, e2] [] pos) (gCall dMax2 gs) := e_callB (call_max2 hc) rd_max2 hm (by decide +kernel) ha hg (he := he) (hpl := hpl)
theorem e_min2 (hm : X.mg "min" = none) (ha : GA X [e, e2] gs) (hc : X.calm = true := by rfl) (hg : Gl X "min" := by rfl) (he : starEach [e, e2] X.env = (false, eval e X.env) :: starEach [e2] X.env := by rfl) (hpl : (backTo pos (starEach [e2] X.env)).any (·.1) = false := by rfl) :
    GE X (.Call (.Name "min" p) [e, e2] [] pos) (gCall dMin2 gs) := e_callB (call_min2 hc) rd_min2 hm (by decide +kernel) ha hg (he := he) (hpl := hpl)
end

/-! ### isinstance -/
def dTy : D → String
  | .none => "NoneType"
  | .bool _ => "bool"
  | .int _ => "int"
  | .str _ => "str"
  | .list _ => "list"
  | .tuple _ => "tuple"
  | .dict _ => "dict"
def isT (T : String) (d : D) : Bool := (dTy d == T) || (T == "int" && dTy d == "bool")
theorem kit_int (d : D) : kitB (dTy d) "int" = some (isT "int" d) := by cases d <;> simp only [dTy, isT] <;> decide +kernel
theorem kit_bool (d : D) : kitB (dTy d) "bool" = some (isT "bool" d) := by cases d <;> simp only [dTy, isT] <;> decide +kernel
theorem kit_str (d : D) : kitB (dTy d) "str" = some (isT "str" d) := by cases d <;> simp only [dTy, isT] <;> decide +kernel
theorem kit_list (d : D) : kitB (dTy d) "list" = some (isT "list" d) := by cases d <;> simp only [dTy, isT] <;> decide +kernel
theorem kit_tuple (d : D) : kitB (dTy d) "tuple" = some (isT "tuple" d) := by cases d <;> simp only [dTy, isT] <;> decide +kernel
def TyE (K : PySem.W.Frag) (H : Hp) (v : V) (t : Value) : Prop := TyX K H v t ∨ ∃ a, v = .ref a ∧ t = .type "dict" ∧ H a = some (dictO a)
theorem kit_ofE {X : Cx} {pins : List (Addr × Obj)} {σ : L2.St} {H : Hp} {s : Shared} {x : V} {u t : Value} (I : Inv X pins σ H s) (r : RelV x u) (ty : TyE X.K H x t) : ∃ P, PySem.W.KitX X.K u t P ∧ P s.heap ∧ u ≠ .builtin "__main__.__loader__#opaque" := by
  rcases ty with ty | ⟨a, rfl, rfl, h⟩
  · exact kit_of I r ty
  · cases r
    exact ⟨_, PySem.W.kitx_dict, (show ObjOk X.prog X.w H s.heap a (dictO a) from I.hok a _ h).1, (fun z => nomatch z)⟩
def rIsiE (K : PySem.W.Frag) : List V → Hp → VK → Prop := fun xs H Q => ∃ x c t u b, xs = [x, c] ∧ ClsV c u ∧ TyE K H x t ∧ PySem.W.kitOne K t u = some b ∧ Q (.bl b) H
theorem call_isiE {X : Cx} : CallR X (.builtin "isinstance") (rIsiE X.K) := by
  intro pins s σ H xs us Q I r ⟨x, c, t, u, b, e0, k, ty, e, q⟩
  subst e0
  obtain ⟨u1, u2, rfl, r1, r2⟩ := L2.vals2 r
  have e2 := ClsV.eq k r2
  subst e2
  obtain ⟨P, Z, p, hx⟩ := kit_ofE I r1 ty
  exact PySem.W.kia_one Z I.kIn p e hx fun tk => ⟨.bl b, H, I.tok tk, rfl, q⟩
def rIsiTE (K : PySem.W.Frag) : List V → Hp → VK → Prop := fun xs H Q => ∃ x tp cs t us b, xs = [x, .ref tp] ∧ H tp = some (.tup cs) ∧ Paired ClsV cs us ∧ TyE K H x t ∧ PySem.W.kitAny K t us = some b ∧ Q (.bl b) H
theorem cls_vals : ∀ {cs : List V} {us its : List Value}, Paired ClsV cs us → Vals cs its → its = us
  | [], _, _, .nil, .nil => rfl
  | _ :: _, _, _, .cons h1 h2, .cons g1 g2 => by rw [cls_vals h2 g2, ClsV.eq h1 g1]
theorem call_isiTE {X : Cx} : CallR X (.builtin "isinstance") (rIsiTE X.K) := by
  intro pins s σ H xs us Q I r ⟨x, tp, cs, t, ws, b, e0, hT, k, ty, e, q⟩
  subst e0
  obtain ⟨u1, u2, rfl, r1, r2⟩ := L2.vals2 r
  cases r2
  obtain ⟨P, Z, p, hx⟩ := kit_ofE I r1 ty
  obtain ⟨_, its, rv, ot, t1, t2, n, t3⟩ := (show ObjOk X.prog X.w H s.heap tp (.tup cs) from I.hok tp _ hT)
  have hi := cls_vals k rv
  subst hi
  obtain ⟨oc, od, oda, osl⟩ := ot
  dsimp only at t2 t3
  subst t2 t3
  exact PySem.W.kia_tup Z I.kIn p t1 e hx fun tk => ⟨.bl b, H, I.tok tk, rfl, q⟩
theorem rp_ty {K : PySem.W.Frag} {F H : Hp} {v : V} {d : D} (s : Same F H) (r : Rp K F v d) : TyE K H v (.type (dTy d)) := by
  cases r with
  | non => exact .inl (.base .non)
  | bl b => exact .inl (.base (.bl b))
  | int i => exact .inl (.base (.int i))
  | str _ => exact .inl (.base (.str _))
  | lst h1 _ _ => exact .inl (.base (.lst (s _ _ h1)))
  | tup h1 _ _ =>
    rcases sqT_same s h1 with (h | ⟨o, h⟩) | ⟨o, its, n, h, hc, _⟩
    · exact .inl (.base (.tup h))
    · exact .inl (.fTuple h)
    · exact .inl (.kTuple h hc)
  | dct h _ =>
    rcases h with ⟨es, h⟩ | ⟨es, h⟩ | h
    · exact .inl (.base (.dK (s _ _ h)))
    · exact .inl (.base (.dT (s _ _ h)))
    · exact .inr ⟨_, rfl, rfl, s _ _ h⟩
section
variable {X : Cx} {pos p p2 p3 p4 : Pos} {e : Expr} {g : M D} {x y : Str} {T U : String}
def gIsi (T : String) (g : M D) : M D := fun S => (g S).bind fun p => some (.bool (isT T p.1), p.2)
def gIsi2 (T U : String) (g : M D) : M D := fun S => (g S).bind fun p => some (.bool (isT T p.1 || isT U p.1), p.2)
theorem e_isi (hm : X.mg "isinstance" = none) (hmx : X.mg x = none) (hv : bootBuiltins x = some (.type T)) (kt : ∀ d, kitB (dTy d) T = some (isT T d)) (ha : GE X e g) (hg : Gl X "isinstance" := by rfl) (hgx : Gl X x := by rfl)
    (hnx : x ≠ "__name__" := by decide) (hdx : (x == ("__debug__" : Str)) = false := by decide)
    (he : starEach [e, .Name x p2] X.env = (false, eval e X.env) :: starEach [.Name x p2] X.env := by rfl) (he2 : starEach [.Name x p2] X.env = (false, eval (.Name x p2) X.env) :: starEach [] X.env := by rfl)
    (hpl : (backTo pos (starEach [.Name x p2] X.env)).any (·.1) = false := by rfl) :
    GE X (.Call (.Name "isinstance" p) [e, .Name x p2] [] pos) (gIsi T g) := by
  obtain ⟨t, pa, ra⟩ := ha.ex
  refine ⟨_, pe_callB call_isiE hg hm (by decide +kernel) (pa_cons pa (pa_cons (pe_bltn (v := .ty T) hgx hmx hv rfl hnx hdx) pa_nil he2) he) (by decide) (by decide) he hpl, fun A F H S σ d S' Q k h post => ?_⟩
  obtain ⟨⟨d1, S1⟩, h1, h⟩ := bind_inv h
  cases h
  refine ra A F H S σ d1 _ _ k h1 fun A1 F1 H1 v p1 s1 k1 r1 => ?_
  exact ⟨v, .ty T, _, _, _, rfl, .ty T, rp_ty k1.sub.same r1, kit_ty (kt d1), post A1 F1 H1 _ p1 s1 k1 (.bl _)⟩
theorem e_isi2 {kx} (hm : X.mg "isinstance" = none) (hmx : X.mg x = none) (hv : bootBuiltins x = some (.type T)) (kt : ∀ d, kitB (dTy d) T = some (isT T d)) (hmy : X.mg y = none) (hw : bootBuiltins y = some (.type U)) (ku : ∀ d, kitB (dTy d) U = some (isT U d))
    (ha : GE X e g) (hg : Gl X "isinstance" := by rfl) (hgx : Gl X x := by rfl) (hgy : Gl X y := by rfl)
    (hnx : x ≠ "__name__" := by decide) (hdx : (x == ("__debug__" : Str)) = false := by decide) (hny : y ≠ "__name__" := by decide) (hdy : (y == ("__debug__" : Str)) = false := by decide)
    (he : starEach [e, .Tuple [.Name x p2, .Name y p3] kx p4] X.env = (false, eval e X.env) :: starEach [.Tuple [.Name x p2, .Name y p3] kx p4] X.env := by rfl)
    (he2 : starEach [.Tuple [.Name x p2, .Name y p3] kx p4] X.env = (false, eval (.Tuple [.Name x p2, .Name y p3] kx p4) X.env) :: starEach [] X.env := by rfl)
    (he3 : starEach [.Name x p2, .Name y p3] X.env = (false, eval (.Name x p2) X.env) :: starEach [.Name y p3] X.env := by rfl)
    (he4 : starEach [.Name y p3] X.env = (false, eval (.Name y p3) X.env) :: starEach [] X.env := by rfl)
    (hpl : (backTo pos (starEach [.Tuple [.Name x p2, .Name y p3] kx p4] X.env)).any (·.1) = false := by rfl) :
    GE X (.Call (.Name "isinstance" p) [e, .Tuple [.Name x p2, .Name y p3] kx p4] [] pos) (gIsi2 T U g) := by
  obtain ⟨t, pa, ra⟩ := ha.ex
  refine ⟨_, pe_callB call_isiTE hg hm (by decide +kernel) (pa_cons pa (pa_cons (pe_tup (pa_cons (pe_bltn (v := .ty T) hgx hmx hv rfl hnx hdx) (pa_cons (pe_bltn (v := .ty U) hgy hmy hw rfl hny hdy) pa_nil he4) he3)) pa_nil he2) he) (by decide) (by decide) he hpl, fun A F H S σ d S' Q k h post => ?_⟩
  obtain ⟨⟨d1, S1⟩, h1, h⟩ := bind_inv h
  cases h
  refine ra A F H S σ d1 _ _ k h1 fun A1 F1 H1 v p1 s1 k1 r1 => ?_
  refine ⟨by show 2 ≤ sizeLine; decide, fun q hq => ?_⟩
  have k2 := k1.laid (o := .tup [.ty T, .ty U]) hq
  have s2 : Same F1 (upd F1 q (.tup [.ty T, .ty U])) := same_upd (k1.sub.none hq)
  refine ⟨v, q, _, _, _, _, rfl, upd_same, .cons (.ty T) (.cons (.ty U) .nil), rp_ty k2.sub.same (r1.mono s2 _ _), ?_, post A1 _ _ _ p1 (s1.trans s2) k2 (.bl _)⟩
  refine kitAny_cons (kit_ty (kt d1)) (fun e1 => ?_) (fun e1 => by rw [e1]; rfl)
  rw [e1]
  exact kitAny_cons (kit_ty (ku d1)) (fun e2 => by rw [e2]; exact kitAny_nil) (fun e2 => by rw [e2]; rfl)
end

/-! ### the calls of the text's own defs -/
/-- a def that writes nothing that was there: its value by data -/
def spF (K : PySem.W.Frag) (n : Nat) (f : List D → Option D) : Sp := fun vs H Q _ => ∃ ds z, ds.length = n ∧ Rps K H vs ds ∧ f ds = some z ∧ ∀ H' v, Same H H' → Rp K H' v z → Q v H'
theorem spF_len {K : PySem.W.Frag} {n : Nat} {f : List D → Option D} {ps : List Str} (h : ps.length = n) : ∀ vs H Q E, spF K n f vs H Q E → vs.length = ps.length := by
  intro vs H Q E ⟨ds, z, e, r, _⟩
  rw [r.length, e, h]
theorem same_mix {G H G' : Hp} (lost : ∀ b o, H b = some o → G b = none → G' b = none) : Same G' (mixH G H G') := fun b o e => by
  cases q : G b with
  | some u => rw [mix_held q]; exact e
  | none =>
    cases r : H b with
    | none => rw [mix_free r]; exact e
    | some u => rw [lost b u r q] at e; cases e
theorem Ok.mix {K : PySem.W.Frag} {A : List Addr} {F H G' : Hp} {S : Sx} {σ : L2.St} (k : Ok K A F H S σ) (s : Same F G') (lost : ∀ b o, H b = some o → F b = none → G' b = none) : Ok K A G' (mixH F H G') S σ := by
  refine k.grow ⟨same_mix lost, fun b o e n => ?_⟩ s (fun a ha o e => ?_) fun a ha e => ?_
  · cases q : F b with
    | some u => rw [mix_held q, n] at e; cases e
    | none =>
      cases r : H b with
      | none => rw [mix_free r, n] at e; cases e
      | some u => rw [mix_lost q r] at e; cases e; exact k.sub.loose b _ r q
  · cases q : F a with
    | some u =>
      rw [mix_held q]
      have e2 := k.sub.same a u q
      rw [e] at e2; cases e2
      exact s a _ q
    | none => exact mix_lost q e
  · obtain ⟨o, ho⟩ := k.trk a ha
    exact lost a o ho e
def gCallF (n : Nat) (f : List D → Option D) (g : M (List D)) : M D := fun S => (g S).bind fun p => if p.1.length = n then (f p.1).bind fun z => some (z, p.2) else none
section
variable {X : Cx} {pos p p2 : Pos} {x : Str} {e : Expr} {es : List Expr} {gs : M (List D)} {f : List D → Option D} {CX : CXT} {k n : Nat} {fa : Addr} {fd : FuncData} {ps : List Str} {E : XK}
theorem e_call (F : FnOk X.prog X.w X.K X.mg X.base CX k fa fd ps (spF X.K n f)) (hr : Room k X.A) (hm : X.mg x = some (.ref fa)) (hk : PySem.W.keepIn X.K (.ref fa) = true) (hb : L2.Binds X.K fd ps []) (hx : Passes CX X E) (ha : GA X (e :: es) gs)
    (hg : Gl X x := by rfl) (hdb : (x == ("__debug__" : Str)) = false := by decide) (he : starEach (e :: es) X.env = (false, eval e X.env) :: starEach es X.env := by rfl) (hpl : (backTo pos (starEach es X.env)).any (·.1) = false := by rfl) :
    GE X (.Call (.Name x p) (e :: es) [] pos) (gCallF n f gs) := by
  obtain ⟨t, pa, ra⟩ := ha.ex
  refine ⟨_, pe_callF F hr hg hm hk hb .nil hx pa hdb he hpl, fun A F H S σ d S' Q k h post => ?_⟩
  obtain ⟨⟨ds, S1⟩, h1, h⟩ := bind_inv h
  simp only at h
  split at h
  · rename_i hn
    obtain ⟨z, h2, h⟩ := bind_inv h
    cases h
    refine ra A F H S σ ds _ _ k h1 fun A1 F1 H1 vs p1 s1 k1 r1 => ⟨F1, k1.sub, ds, _, hn, by rw [List.append_nil]; exact r1, h2, fun G' v sm rv => ⟨fun b xs q => sm b _ q, fun lost => ?_⟩⟩
    exact post A1 G' _ v p1 (s1.trans sm) (k1.mix sm lost) rv
  · cases h
/-- a def that writes one list that is handed in, the first argument -/
def spIO (K : PySem.W.Frag) (n : Nat) (f : List D → List D → Option (D × List D)) : Sp := fun vs H Q _ => ∃ (a : Addr) (xs : List V) (rest : List V) (F : Hp) (cs ds : List D) (r : D) (cs' : List D), vs = .ref a :: rest ∧ F a = none ∧ H = upd F a (.lst xs) ∧ cs.length ≤ sizeLine ∧
  Rps K F xs cs ∧ Rps K F rest ds ∧ ds.length = n ∧ f cs ds = some (r, cs') ∧ ∀ F' xs' v, Same F F' → F' a = none → Rps K F' xs' cs' → cs'.length ≤ sizeLine → Rp K F' v r → Q v (upd F' a (.lst xs'))
theorem spIO_len {K : PySem.W.Frag} {n : Nat} {f : List D → List D → Option (D × List D)} {ps : List Str} (h : ps.length = n + 1) : ∀ vs H Q E, spIO K n f vs H Q E → vs.length = ps.length := by
  intro vs H Q E ⟨a, xs, rest, F, cs, ds, r, cs', e, _, _, _, _, hr, hn, _⟩
  rw [e, List.length_cons, hr.length, hn, h]
def gIO (i n : Nat) (f : List D → List D → Option (D × List D)) (g : M (List D)) : M D := fun S => match S.sl[i]? with
  | some (some (.own j)) => (g S).bind fun p => match p.2.os[j]? with
    | some (some (.lst cs)) => if p.1.length = n then (f cs p.1).bind fun z => some (z.1, ⟨p.2.sl, p.2.os.set j (some (.lst z.2))⟩) else none
    | _ => none
  | _ => none
theorem prefix_at {α : Type} {A B : List α} {j : Nat} {a : α} (p : A <+: B) (h : A[j]? = some a) : B[j]? = some a := by
  obtain ⟨C, rfl⟩ := p
  rw [List.getElem?_append_left (List.getElem?_eq_some_iff.mp h).1]; exact h
theorem e_callIO {f : List D → List D → Option (D × List D)} {y : Str} {py : Pos} (i : Nat) (F : FnOk X.prog X.w X.K X.mg X.base CX k fa fd ps (spIO X.K n f)) (hr : Room k X.A) (hm : X.mg x = some (.ref fa)) (hk : PySem.W.keepIn X.K (.ref fa) = true) (hb : L2.Binds X.K fd ps []) (hx : Passes CX X E) (ha : GA X es gs)
    (hN : X.N[i]? = some y := by rfl) (hv : Vis X.env.scope y := by first | exact Or.inl rfl | exact Or.inr (Or.inl rfl) | exact Or.inr (Or.inr rfl)) (hdy : (y == ("__debug__" : Str)) = false := by decide) (hcd : (y == ("__classdict__" : Str)) = false := by decide)
    (hg : Gl X x := by rfl) (hdb : (x == ("__debug__" : Str)) = false := by decide) (he : starEach (.Name y py :: es) X.env = (false, eval (.Name y py) X.env) :: starEach es X.env := by rfl) (hpl : (backTo pos (starEach es X.env)).any (·.1) = false := by rfl) :
    GE X (.Call (.Name x p) (.Name y py :: es) [] pos) (gIO i n f gs) := by
  obtain ⟨t, pa, ra⟩ := ha.ex
  refine ⟨_, pe_callF F hr hg hm hk hb .nil hx (pa_cons (pe_var hN hv hdy hcd) pa he) hdb he hpl, fun A F H S σ d S' Q k h post => ?_⟩
  unfold gIO at h
  split at h
  · rename_i j ej
    obtain ⟨⟨ds, S1⟩, h1, h⟩ := bind_inv h
    simp only at h
    split at h
    · rename_i cs ec
      split at h
      · rename_i hn
        obtain ⟨⟨r, cs'⟩, h2, h⟩ := bind_inv h
        cases h
        obtain ⟨a, ea, ev⟩ := k.oslot i j ej
        refine ⟨_, ev, ra A F H S σ ds S1 _ k h1 fun A1 F1 H1 vs p1 s1 k1 r1 => ?_⟩
        obtain ⟨a', ea', fa', xs, hxs, rxs, hz⟩ := k1.cell j _ ec
        rw [prefix_at p1 ea] at ea'; cases ea'
        have sub1 : Sub (upd F1 a (.lst xs)) H1 := ⟨fun b u q => by
            by_cases hb : b = a
            · subst hb; rw [upd_same] at q; cases q; exact hxs
            · rw [upd_ne hb] at q; exact k1.sub.same b u q, fun b u q n => by
            by_cases hb : b = a
            · subst hb; rw [upd_same] at n; cases n
            · rw [upd_ne hb] at n; exact k1.sub.loose b u q n⟩
        refine ⟨upd F1 a (.lst xs), sub1, a, xs, vs, F1, cs, ds, r, cs', by rw [List.append_nil], fa', rfl, hz, rxs, r1, hn, h2, fun F' xs' v sm fa2 rx hz' rv => ⟨fun b ys q => ?_, fun lost => ?_⟩⟩
        · by_cases hb : b = a
          · subst hb; rw [upd_same] at q; cases q
          · rw [upd_ne hb] at q ⊢; exact sm b _ q
        · have lostF : ∀ b o, b ≠ a → H1 b = some o → F1 b = none → F' b = none := fun b o hb ho hf => by
            have := lost b o ho (by rw [upd_ne hb]; exact hf)
            rwa [upd_ne hb] at this
          have ma : mixH (upd F1 a (.lst xs)) H1 (upd F' a (.lst xs')) a = some (.lst xs') := by rw [mix_held upd_same, upd_same]
          have mb : ∀ b, b ≠ a → mixH (upd F1 a (.lst xs)) H1 (upd F' a (.lst xs')) b = mixH F1 H1 F' b := fun b hb => by
            unfold mixH
            rw [upd_ne hb, upd_ne hb]
          have km : Ok X.K A1 F' (upd (mixH F1 H1 F') a (.lst xs')) ⟨S1.sl, S1.os.set j (some (.lst cs'))⟩ σ := by
            have e1 : Ok X.K A1 F' (mixH F1 H1 F') S1 σ := by
              refine k1.mix sm fun b o ho hf => ?_
              by_cases hb : b = a
              · subst hb; exact fa2
              · exact lostF b o hb ho hf
            exact e1.cellSet ec (prefix_at p1 ea) trivial ⟨xs', upd_same, rx, hz'⟩
          have em : mixH (upd F1 a (.lst xs)) H1 (upd F' a (.lst xs')) = upd (mixH F1 H1 F') a (.lst xs') := by
            funext b
            by_cases hb : b = a
            · subst hb; rw [ma, upd_same]
            · rw [mb b hb, upd_ne hb]
          rw [em]
          exact post A1 F' _ v p1 (s1.trans sm) km rv
      · cases h
    · cases h
  · cases h
end
end Fu

set_option maxHeartbeats 4000000
namespace Fu
open PySem PySem.Spec PyProof.Rows L2 RZ

/-! ### what is walked -/
/-- J yields the data ds, one by one, wherever F stands -/
structure Walk (K : PySem.W.Frag) (F : Hp) (J : It) (ds : List D) : Prop where
  stop : ∀ i H, Same F H → ds.length ≤ i → J.stop i H
  go : ∀ i H, Same F H → i < ds.length → J.go i H
  yld : ∀ (i : Nat) d H x H', Same F H → ds[i]? = some d → J.yld i H x H' → (H' = H ∧ Rp K F x d) ∨ ∃ T vs es, x = .ref T ∧ H T = none ∧ H' = upd H T (.tup vs) ∧ d = .tuple es ∧ Rps K F vs es ∧ es.length ≤ sizeLine
def RdI (K : PySem.W.Frag) (t : TI) (g : M (List D)) : Prop := ∀ A F H S σ ds S' (R : It → Hp → Prop), Ok K A F H S σ → g S = some (ds, S') →
  (∀ A' F' H' J, A <+: A' → Same F F' → Ok K A' F' H' S' σ → Walk K F' J ds → ds.length ≤ sizeLine → R J H') → t σ H R
structure GI (X : Cx) (tg iter : Expr) (g : M (List D)) : Prop where
  ex : ∃ t, PI X tg iter t ∧ RdI X.K t g
/-- .. of numbers alone: they stand in any heap -/
structure GI0 (X : Cx) (tg iter : Expr) (g : M (List D)) : Prop where
  ex : ∃ t, PI X tg iter t ∧ ∀ A F H S σ ds S' (R : It → Hp → Prop), Ok X.K A F H S σ → g S = some (ds, S') →
    (∀ A' F' H' J, A <+: A' → Same F F' → Ok X.K A' F' H' S' σ → Walk X.K (fun _ => none) J ds → R J H') → t σ H R
theorem PI.or {X : Cx} {tg iter : Expr} {t u : TI} (h1 : PI X tg iter t) (h2 : PI X tg iter u) : PI X tg iter (fun σ H R => t σ H R ∨ u σ H R) :=
  ⟨fun pins s σ H R I h => h.elim (h1.run pins s σ H R I) (h2.run pins s σ H R I)⟩
section
variable {K : PySem.W.Frag} {F : Hp}
theorem walk_list {a : Addr} {vs : List V} {ds : List D} (h : F a = some (.lst vs)) (r : Rps K F vs ds) : Walk K F (Itl K a) ds where
  stop := fun i H s hi => ⟨vs, SqL.of (s _ _ h), by rw [r.length]; exact hi⟩
  go := fun i H s hi => by
    obtain ⟨v, e, _⟩ := r.get (List.getElem?_eq_getElem hi)
    exact ⟨vs, v, SqL.of (s _ _ h), e⟩
  yld := fun i d H x H' s hd y => by
    obtain ⟨e, y⟩ := y
    obtain ⟨v, ev, rv⟩ := r.get hd
    have := y vs (SqL.of (s _ _ h))
    rw [ev] at this; cases this
    exact .inl ⟨e, rv⟩
theorem walk_tup {a : Addr} {vs : List V} {ds : List D} (h : SqT K F a vs) (r : Rps K F vs ds) : Walk K F (Itt K a) ds where
  stop := fun i H s hi => ⟨vs, sqT_same s h, by rw [r.length]; exact hi⟩
  go := fun i H s hi => by
    obtain ⟨v, e, _⟩ := r.get (List.getElem?_eq_getElem hi)
    exact ⟨vs, v, sqT_same s h, e⟩
  yld := fun i d H x H' s hd y => by
    obtain ⟨e, y⟩ := y
    obtain ⟨v, ev, rv⟩ := r.get hd
    have := y vs (sqT_same s h)
    rw [ev] at this; cases this
    exact .inl ⟨e, rv⟩
def chars (x : Str) : List D := x.cps.toList.map fun c => .str ⟨#[c]⟩
theorem walk_str (x : Str) : Walk K F (Its x) (chars x) where
  stop := fun i H s hi => by
    have : x.cps.size ≤ i := by simpa [chars] using hi
    exact this
  go := fun i H s hi => by
    have : i < x.cps.size := by simpa [chars] using hi
    exact this
  yld := fun i d H v H' s hd y => by
    obtain ⟨e, c, hc, rfl⟩ := y
    have h2 : x.cps.toList[i]? = some c := by rw [Array.getElem?_toList]; exact hc
    unfold chars at hd
    rw [List.getElem?_map, h2] at hd
    cases hd
    exact .inl ⟨e, .str (one_len c)⟩
def rng (lo : Int) (n : Nat) : List D := (List.range n).map fun i : Nat => .int (lo + (i : Int))
theorem walk_range (lo : Int) (n : Nat) : Walk K F (Itr lo n) (rng lo n) where
  stop := fun i H s hi => by
    have : n ≤ i := by simpa [rng] using hi
    exact this
  go := fun i H s hi => by
    have : i < n := by simpa [rng] using hi
    exact this
  yld := fun i d H v H' s hd y => by
    obtain ⟨e, rfl⟩ := y
    unfold rng at hd
    rw [List.getElem?_map] at hd
    obtain ⟨j, hj, rfl⟩ := Option.map_eq_some_iff.mp hd
    rw [List.getElem?_range (by
      have := (List.getElem?_eq_some_iff.mp hj).1
      simpa using this)] at hj
    cases hj
    exact .inl ⟨e, .int _⟩
end
def itemsOf : D → Option (List D)
  | .list xs => some xs
  | .tuple xs => some xs
  | .str x => some (chars x)
  | _ => none
/-- the items of a list, a tuple, a text -/
def gItems (g : M D) : M (List D) := fun S => (g S).bind fun p => (itemsOf p.1).bind fun xs => some (xs, p.2)
section
variable {X : Cx} {tg e e2 e3 : Expr} {ge ge2 : M D} {pos p p2 : Pos} {gs : M (List D)}
theorem chars_len {x : Str} (h : x.length ≤ sizeLine) : (chars x).length ≤ sizeLine := by
  unfold chars
  rw [List.length_map, Array.length_toList]
  exact h
theorem i_any (h : GE X e ge) : GI X tg e (gItems ge) := by
  obtain ⟨t, pe, re⟩ := h.ex
  refine ⟨_, PI.or (pi_list pe) (PI.or (pi_tup pe) (pi_str pe)), fun A F H S σ ds S' R k e post => ?_⟩
  obtain ⟨⟨d, S1⟩, h1, e⟩ := bind_inv e
  obtain ⟨xs, h2, e⟩ := bind_inv e
  cases e
  cases d <;> simp only [itemsOf] at h2 <;> cases h2
  · refine .inr (.inr (re A F H S σ _ _ _ k h1 fun A1 F1 H1 v p1 s1 k1 r1 => ?_))
    obtain ⟨rfl, hz⟩ := rp_str_inv r1
    exact ⟨_, rfl, post A1 F1 H1 _ p1 s1 k1 (walk_str _) (chars_len hz)⟩
  · refine .inl (re A F H S σ _ _ _ k h1 fun A1 F1 H1 v p1 s1 k1 r1 => ?_)
    obtain ⟨a, vs, rfl, g1, g2, g3⟩ := rp_list_inv r1
    exact ⟨a, rfl, ⟨vs, SqL.of (k1.sub.same _ _ g1)⟩, post A1 F1 H1 _ p1 s1 k1 (walk_list g1 g2) g3⟩
  · refine .inr (.inl (re A F H S σ _ _ _ k h1 fun A1 F1 H1 v p1 s1 k1 r1 => ?_))
    obtain ⟨a, vs, rfl, g1, g2, g3⟩ := rp_tup_inv r1
    exact ⟨a, rfl, ⟨vs, sqT_same k1.sub.same g1⟩, post A1 F1 H1 _ p1 s1 k1 (walk_tup g1 g2) g3⟩
/-- range(n), range(a, b) -/
def gRng1 (g : M (List D)) : M (List D) := fun S => (g S).bind fun p => match p.1 with
  | [.int j] => if -(2 ^ 62) ≤ j ∧ j ≤ sizeLine then some (rng 0 j.toNat, p.2) else none
  | _ => none
def gRng2 (g : M (List D)) : M (List D) := fun S => (g S).bind fun p => match p.1 with
  | [.int i, .int j] => if -(2 ^ 32) ≤ i ∧ i ≤ 2 ^ 32 ∧ -(2 ^ 32) ≤ j ∧ j ≤ 2 ^ 32 ∧ j - i ≤ sizeLine then some (rng i (j - i).toNat, p.2) else none
  | _ => none
theorem rng_len (lo : Int) (n : Nat) : (rng lo n).length = n := by simp [rng]
theorem rps_int1 {K : PySem.W.Frag} {F : Hp} {vs : List V} {i : Int} (r : Rps K F vs [.int i]) : vs = [.int i] := by
  obtain ⟨v, rfl, q⟩ := rps1 r
  cases rp_int_inv q; rfl
theorem line_int : (sizeLine : Int) < 2 ^ 32 := by rw [sizeLine_eq]; decide
theorem rd_rng1 {K : PySem.W.Frag} {ta : TA} (ra : RdA K ta gs) : ∀ A F H S σ ds S' (R : It → Hp → Prop), Ok K A F H S σ → gRng1 gs S = some (ds, S') →
    (∀ A' F' H' J, A <+: A' → Same F F' → Ok K A' F' H' S' σ → (∀ G, Walk K G J ds) → ds.length ≤ sizeLine → R J H') → iRng1 ta σ H R := by
  intro A F H S σ ds S' R k e post
  obtain ⟨⟨xs, S1⟩, h1, e⟩ := bind_inv e
  simp only at e
  split at e
  · split at e
    · rename_i j hj
      cases e
      refine ra A F H S σ _ _ _ k h1 fun A1 F1 H1 vs p1 s1 k1 r1 => ?_
      have hl := line_int
      exact ⟨j, rps_int1 r1, hj.1, by omega, post A1 F1 H1 _ p1 s1 k1 (fun G => walk_range 0 _) (by rw [rng_len]; omega)⟩
    · cases e
  · cases e
theorem i_range1 (hm : X.mg "range" = none) (ha : GA X [e] gs) (hg : Gl X "range" := by rfl) (hs : starEach [e] X.env = [(false, eval e X.env)] := by rfl) : GI X tg (.Call (.Name "range" p) [e] [] pos) (gRng1 gs) := by
  obtain ⟨t, pa, ra⟩ := ha.ex
  exact ⟨_, pi_range1 hg hm pa hs, fun A F H S σ ds S' R k e post => rd_rng1 ra A F H S σ ds S' R k e fun A1 F1 H1 J p1 s1 k1 w hz => post A1 F1 H1 J p1 s1 k1 (w _) hz⟩
theorem i0_range1 (hm : X.mg "range" = none) (ha : GA X [e] gs) (hg : Gl X "range" := by rfl) (hs : starEach [e] X.env = [(false, eval e X.env)] := by rfl) : GI0 X tg (.Call (.Name "range" p) [e] [] pos) (gRng1 gs) := by
  obtain ⟨t, pa, ra⟩ := ha.ex
  exact ⟨_, pi_range1 hg hm pa hs, fun A F H S σ ds S' R k e post => rd_rng1 ra A F H S σ ds S' R k e fun A1 F1 H1 J p1 s1 k1 w hz => post A1 F1 H1 J p1 s1 k1 (w _)⟩
end

/-! ### targets: names, tuples of them -/
def RdG (K : PySem.W.Frag) (tgt : List Nat) (t : TG) (g : D → Sx → Option Sx) : Prop := ∀ A F H S σ v d S' (Q : L2.St → Hp → Prop), Ok K A F H S σ → Rp K F v d → g d S = some S' →
  (∀ A' F' H' σ', A <+: A' → Same F F' → Ok K A' F' H' S' σ' → (∀ vs, (∀ i ∈ tgt, i ∈ vs) → wipe σ' vs = wipe σ vs) → Q σ' H') → t v σ H Q
def RdGs (K : PySem.W.Frag) (tgt : List Nat) (t : TGs) (g : List D → Sx → Option Sx) : Prop := ∀ A F H S σ vs ds S' (Q : L2.St → Hp → Prop), Ok K A F H S σ → Rps K F vs ds → g ds S = some S' →
  (∀ A' F' H' σ', A <+: A' → Same F F' → Ok K A' F' H' S' σ' → (∀ vs, (∀ i ∈ tgt, i ∈ vs) → wipe σ' vs = wipe σ vs) → Q σ' H') → t vs σ H Q
structure GG (X : Cx) (tgt : List Nat) (e : Expr) (g : D → Sx → Option Sx) : Prop where
  ex : ∃ t, PG X e t ∧ RdG X.K tgt t g
structure GGs (X : Cx) (tgt : List Nat) (es : List Expr) (g : List D → Sx → Option Sx) : Prop where
  ex : ∃ t, PGs X es t ∧ RdGs X.K tgt t g
def sName (i : Nat) : D → Sx → Option Sx := fun d S => some ⟨S.sl.set i (some (.dat d)), S.os⟩
def sNil : List D → Sx → Option Sx := fun ds S => match ds with
  | [] => some S
  | _ => none
def sCons (g : D → Sx → Option Sx) (gs : List D → Sx → Option Sx) : List D → Sx → Option Sx := fun ds S => match ds with
  | d :: ds => (g d S).bind fun S1 => gs ds S1
  | [] => none
def sTup (n : Nat) (gs : List D → Sx → Option Sx) : D → Sx → Option Sx := fun d S => match d with
  | .tuple ds => if ds.length = n then gs ds S else none
  | _ => none
theorem wipe_set {σ : L2.St} {i : Nat} {x : Option V} : ∀ {vs : List Nat}, i ∈ vs → wipe (σ.set i x) vs = wipe σ vs
  | v :: vs, h => by
    unfold wipe
    by_cases hv : i = v
    · subst hv
      by_cases hm : i ∈ vs
      · rw [wipe_set hm]
      · have comm : ∀ ws : List Nat, i ∉ ws → wipe (σ.set i x) ws = (wipe σ ws).set i x := by
          intro ws
          induction ws with
          | nil => intro _; rfl
          | cons w ws ih =>
            intro hn
            simp only [List.mem_cons, not_or] at hn
            unfold wipe
            rw [ih hn.2, List.set_comm _ _ hn.1]
        rw [comm vs hm, List.set_set]
    · rcases List.mem_cons.mp h with e | h
      · exact absurd e hv
      · rw [wipe_set h]
section
variable {X : Cx} {pos : Pos} {e : Expr} {es : List Expr} {n : Nat} {tg ts : List Nat} {g : D → Sx → Option Sx} {gs : List D → Sx → Option Sx}
theorem g_name (i : Nat) {x : Str} (hN : X.N.Nodup) (hx : Loc X.env.scope x := by first | exact Or.inl rfl | exact Or.inr rfl) (hi : X.N[i]? = some x := by rfl) (hf : X.fn x = true ∨ X.env.scope.names.lookup x = some .local := by first | exact .inl rfl | exact .inr rfl | assumption) : GG X [i] (.Name x pos) (sName i) :=
  ⟨_, pg_name hN hi hx hf, fun A F H S σ v d S' Q k r e post => by
    cases e
    exact post A F H _ (List.prefix_refl _) (Same.refl F) (k.setDat r) fun vs h => wipe_set (h i (by simp))⟩
theorem gs_nil : GGs X [] [] sNil := ⟨_, pgs_nil, fun A F H S σ vs ds S' Q k r e post => by
  cases ds with
  | cons _ _ => cases e
  | nil => cases e; cases r; exact ⟨rfl, post A F H σ (List.prefix_refl _) (Same.refl F) k fun _ _ => rfl⟩⟩
theorem gs_cons (h1 : GG X tg e g) (h2 : GGs X ts es gs) (hs : (assignEach (e :: es) X.env).map (·.2) = assign e X.env :: (assignEach es X.env).map (·.2) := by rfl) : GGs X (tg ++ ts) (e :: es) (sCons g gs) := by
  obtain ⟨t, p1, r1⟩ := h1.ex
  obtain ⟨u, p2, r2⟩ := h2.ex
  refine ⟨_, pgs_cons p1 p2 hs, fun A F H S σ vs ds S' Q k r e post => ?_⟩
  cases ds with
  | nil => cases e
  | cons d ds =>
    cases r with
    | cons ra rb =>
      obtain ⟨S1, e1, e⟩ := bind_inv e
      refine ⟨_, _, rfl, r1 A F H S σ _ d S1 _ k ra e1 fun A1 F1 H1 σ1 q1 s1 k1 w1 => r2 A1 F1 H1 S1 σ1 _ ds S' Q k1 (Rps.mono s1 _ _ rb) e fun A2 F2 H2 σ2 q2 s2 k2 w2 => ?_⟩
      exact post A2 F2 H2 σ2 (q1.trans q2) (s1.trans s2) k2 fun vs h => (w2 vs fun i hi => h i (List.mem_append_right _ hi)).trans (w1 vs fun i hi => h i (List.mem_append_left _ hi))
theorem g_tup {k} (h : GGs X ts es gs) (hc : X.calm = true := by rfl) (hn : (assignEach es X.env).length = n := by rfl) (hst : (assignEach es X.env).findIdx? (·.1) = none := by rfl) : GG X ts (.Tuple es k pos) (sTup n gs) := by
  obtain ⟨t, p1, r1⟩ := h.ex
  refine ⟨_, pg_tup hc p1 hn hst, fun A F H S σ v d S' Q k r e post => ?_⟩
  cases d <;> simp only [sTup] at e <;> try cases e
  split at e
  · rename_i hl
    obtain ⟨a, vs, rfl, g1, g2, g3⟩ := rp_tup_inv r
    exact ⟨a, vs, rfl, sqT_same k.sub.same g1, by rw [g2.length]; exact hl, r1 A F H S σ vs _ S' Q k g2 e post⟩
  · cases e
end
end Fu

set_option maxHeartbeats 4000000
namespace Fu
open PySem PySem.Spec PyProof.Rows L2 RZ

/-! ### slots of a comprehension's own names -/
def wipeS (sl : List (Option R)) : List Nat → List (Option R)
  | [] => sl
  | v :: vs => (wipeS sl vs).set v none
def backS (old new : List (Option R)) : List Nat → List (Option R)
  | [] => new
  | v :: vs => match old[v]? with
    | some x => (backS old new vs).set v x
    | none => backS old new vs
theorem wipeS_len (sl : List (Option R)) : ∀ vs, (wipeS sl vs).length = sl.length
  | [] => rfl
  | v :: vs => by unfold wipeS; rw [List.length_set, wipeS_len sl vs]
theorem backS_len (old new : List (Option R)) : ∀ vs, (backS old new vs).length = new.length
  | [] => rfl
  | v :: vs => by
    unfold backS
    split
    · rw [List.length_set, backS_len old new vs]
    · exact backS_len old new vs
theorem wipeS_in {sl : List (Option R)} {i : Nat} {r : R} : ∀ {vs : List Nat}, (wipeS sl vs)[i]? = some (some r) → sl[i]? = some (some r) ∧ i ∉ vs
  | [], h => ⟨h, by simp⟩
  | v :: vs, h => by
    unfold wipeS at h
    by_cases hi : v = i
    · subst hi
      by_cases hv : v < (wipeS sl vs).length
      · rw [List.getElem?_set_self hv] at h; cases h
      · rw [List.getElem?_eq_none (by simpa using hv)] at h; cases h
    · rw [List.getElem?_set_ne hi] at h
      obtain ⟨h1, h2⟩ := wipeS_in h
      exact ⟨h1, by simp only [List.mem_cons, not_or]; exact ⟨fun e => hi e.symm, h2⟩⟩
theorem wipeS_out {sl : List (Option R)} {i : Nat} : ∀ {vs : List Nat}, i ∉ vs → (wipeS sl vs)[i]? = sl[i]?
  | [], _ => rfl
  | v :: vs, h => by
    simp only [List.mem_cons, not_or] at h
    unfold wipeS
    rw [List.getElem?_set_ne (Ne.symm h.1), wipeS_out h.2]
theorem wipe_outV {σ : L2.St} {i : Nat} : ∀ {vs : List Nat}, i ∉ vs → (wipe σ vs)[i]? = σ[i]?
  | [], _ => rfl
  | v :: vs, h => by
    simp only [List.mem_cons, not_or] at h
    unfold wipe
    rw [List.getElem?_set_ne (Ne.symm h.1), wipe_outV h.2]
theorem backS_in {old new : List (Option R)} {i : Nat} : ∀ {vs : List Nat}, old.length = new.length → (backS old new vs)[i]? = if i ∈ vs then old[i]? else new[i]?
  | [], _ => by simp [backS]
  | v :: vs, h => by
    have ih := backS_in (i := i) (vs := vs) h
    unfold backS
    by_cases hv : v = i
    · subst hv
      simp only [List.mem_cons, true_or, if_true]
      cases e : old[v]? with
      | none =>
        show (backS old new vs)[v]? = none
        rw [ih]
        have hl : new[v]? = none := List.getElem?_eq_none (by rw [← h]; exact List.getElem?_eq_none_iff.mp e)
        split
        · exact e
        · exact hl
      | some x =>
        show ((backS old new vs).set v x)[v]? = some x
        rw [List.getElem?_set_self]
        rw [backS_len, ← h]
        exact (List.getElem?_eq_some_iff.mp e).1
    · have e2 : (match old[v]? with | some x => (backS old new vs).set v x | none => backS old new vs)[i]? = (backS old new vs)[i]? := by
        split
        · rw [List.getElem?_set_ne hv]
        · rfl
      rw [e2, ih]
      have : (i ∈ v :: vs) ↔ i ∈ vs := by
        simp only [List.mem_cons]
        exact ⟨fun z => z.elim (fun e => absurd e.symm hv) id, .inr⟩
      by_cases hm : i ∈ vs
      · rw [if_pos hm, if_pos (this.mpr hm)]
      · rw [if_neg hm, if_neg (fun z => hm (this.mp z))]
section
variable {K : PySem.W.Frag} {A A' : List Addr} {F F' G H : Hp} {S S' : Sx} {σ τ : L2.St}
theorem Ok.wipe {vs : List Nat} (k : Ok K A F H S τ) (e : L2.wipe τ vs = L2.wipe σ vs) : Ok K A F H ⟨wipeS S.sl vs, S.os⟩ (L2.wipe σ vs) := by
  refine ⟨k.sub, by rw [wipeS_len, k.len, ← e, wipe_length], k.alen, k.nd, fun i r h => ?_, k.cell, k.trk⟩
  obtain ⟨h1, h2⟩ := wipeS_in h
  obtain ⟨v, e1, q⟩ := k.rslot i r h1
  exact ⟨v, by rw [← e, wipe_outV h2]; exact e1, q⟩
theorem Ok.back {vs : List Nat} (k0 : Ok K A F H S σ) (k : Ok K A' F' G ⟨wipeS S'.sl vs, S'.os⟩ (L2.wipe σ vs)) (p : A <+: A') (s : Same F F') : Ok K A' F' G ⟨backS S.sl S'.sl vs, S'.os⟩ σ := by
  have hl : S.sl.length = S'.sl.length := by
    have := k.len
    rw [wipeS_len, wipe_length] at this
    rw [k0.len, this]
  refine ⟨k.sub, by rw [backS_len, ← hl]; exact k0.len, k.alen, k.nd, fun i r h => ?_, k.cell, k.trk⟩
  simp only at h
  rw [backS_in hl] at h
  by_cases hi : i ∈ vs
  · rw [if_pos hi] at h
    obtain ⟨v, e1, q⟩ := k0.rslot i r h
    exact ⟨v, e1, q.mono p s _ _⟩
  · rw [if_neg hi] at h
    obtain ⟨v, e1, q⟩ := k.rslot i r (by simp only; rw [wipeS_out hi]; exact h)
    rw [wipe_outV hi] at e1
    exact ⟨v, e1, q⟩
/-- one list over a heap: what may be forgotten -/
theorem sub_one {p : Addr} {o : HO} (h : G p = none) (l : Loose o) : Sub G (upd G p o) := ⟨fun b u e => by rw [upd_ne (ne_of_none e h)]; exact e, fun b u e n => by
  by_cases hb : b = p
  · subst hb; rw [upd_same] at e; cases e; exact l
  · rw [upd_ne hb, n] at e; cases e⟩
theorem mix_one {G' : Hp} {p : Addr} {o : HO} (h : G p = none) (h' : G' p = none) : mixH G (upd G p o) G' = upd G' p o := by
  funext b
  by_cases hb : b = p
  · subst hb
    rw [mix_lost h upd_same, upd_same]
  · rw [upd_ne hb]
    cases q : G b with
    | some u => exact mix_held q
    | none => exact mix_free (by rw [upd_ne hb]; exact q)
end

/-! ### tests of a comprehension -/
structure GTs (X : Cx) (ifs : List Expr) (g : M Bool) : Prop where
  ex : ∃ t, PTs X ifs t ∧ RdT X.K t g
def gYes : M Bool := fun S => some (true, S)
theorem ts_nil {X : Cx} : GTs X [] gYes := ⟨_, pts_nil, fun A F H S σ b S' Q k e post => by cases e; exact post A F H (List.prefix_refl _) (Same.refl F) k⟩
theorem ts_one {X : Cx} {c : Expr} {g : M Bool} (h : GT X c g) : GTs X [c] g := let ⟨_, p, r⟩ := h.ex; ⟨_, pts_one p, r⟩

/-! ### the turns of a comprehension -/
def gTurns (gg : D → Sx → Option Sx) (gt : M Bool) (ge : M D) (vs : List Nat) : List D → Sx → Option (List D × Sx)
  | [], S => some ([], S)
  | d :: ds, S => (gg d ⟨wipeS S.sl vs, S.os⟩).bind fun S1 => (gt S1).bind fun p =>
    if p.1 = true then (ge p.2).bind fun q => (gTurns gg gt ge vs ds q.2).bind fun r => some (q.1 :: r.1, r.2)
    else gTurns gg gt ge vs ds p.2
def gLc (gi : M (List D)) (gg : D → Sx → Option Sx) (gt : M Bool) (ge : M D) (vs : List Nat) : M D := fun S => (gi S).bind fun p => (gTurns gg gt ge vs p.1 p.2).bind fun r => some (.list r.1, ⟨backS p.2.sl r.2.sl vs, r.2.os⟩)
section
variable {K : PySem.W.Frag}
/-- a new list that is nobody's yet -/
def RdN (K : PySem.W.Frag) (t : TE) (g : M D) : Prop := ∀ A F H S σ d S' (Q : VK), Ok K A F H S σ → g S = some (d, S') →
  (∀ A' F' G p vs ds, A <+: A' → Same F F' → Ok K A' F' G S' σ → G p = none → d = .list ds → Rps K F' vs ds → ds.length ≤ sizeLine → Q (.ref p) (upd G p (.lst vs))) → t σ H Q
theorem RdN.e {t : TE} {g : M D} (h : RdN K t g) : RdE K t g := by
  intro A F H S σ d S' Q k e post
  refine h A F H S σ d S' Q k e fun A1 F1 G p vs ds p1 s1 k1 hp ed r hz => ?_
  subst ed
  obtain ⟨s2, k2, r2⟩ := k1.newList hp r hz
  exact post A1 _ _ _ p1 (s1.trans s2) k2 r2
theorem rd_lc {wi : TI} {g : TG} {tt : TT} {te : TE} {gi : M (List D)} {gg : D → Sx → Option Sx} {gt : M Bool} {ge : M D} {tgt vs : List Nat} (hi : RdI K wi gi) (hg : RdG K tgt g gg) (ht : RdT K tt gt) (he : RdE K te ge) (hv : ∀ i ∈ tgt, i ∈ vs) :
    RdN K (tLc wi (gFr g) (tFrT tt) (tFr te) vs) (gLc gi gg gt ge vs) := by
  intro A F H S σ d S' Q k e post
  obtain ⟨⟨ds, S1⟩, e1, e⟩ := bind_inv e
  obtain ⟨⟨rs, S2⟩, e2, e⟩ := bind_inv e
  cases e
  refine hi A F H S σ ds S1 _ k e1 fun A1 F1 H1 J p1 s1 k1 w hz => fun L hL => ?_
  refine ⟨fun i m H => m = ds.length - i ∧ i ≤ ds.length ∧ ∃ A F G S acc us rest, Same F1 F ∧ A1 <+: A ∧ Ok K A F G ⟨wipeS S.sl vs, S.os⟩ (wipe σ vs) ∧ G L = none ∧ H = upd G L (.lst us) ∧ Rps K F us acc ∧ acc.length ≤ i ∧
    gTurns gg gt ge vs (ds.drop i) S = some (rest, S2) ∧ acc ++ rest = rs, ⟨ds.length, by simp, Nat.zero_le _, A1, F1, H1, S1, [], [], rs, Same.refl _, List.prefix_refl _, k1.wipe rfl, hL, rfl, .nil, Nat.le_refl _, by simpa using e2, rfl⟩, ?_⟩
  rintro i m H ⟨rfl, hil, A2, F2, G2, S3, acc, us, rest, s2, p2, k2, hG, rfl, ru, hla, et, ea⟩
  have sFH : Same F1 (upd G2 L (.lst us)) := (s2.trans k2.sub.same).trans (same_upd hG)
  by_cases hlt : i < ds.length
  · refine .inr ⟨w.go i _ sFH hlt, fun H' => i + 1 ≤ ds.length ∧ ∃ A F G S acc us rest, Same F1 F ∧ A1 <+: A ∧ Ok K A F G ⟨wipeS S.sl vs, S.os⟩ (wipe σ vs) ∧ G L = none ∧ H' = upd G L (.lst us) ∧ Rps K F us acc ∧ acc.length ≤ i + 1 ∧
      gTurns gg gt ge vs (ds.drop (i + 1)) S = some (rest, S2) ∧ acc ++ rest = rs, fun H' h => ⟨ds.length - (i + 1), by omega, rfl, h⟩, fun x H' hy => ?_⟩
    rw [List.drop_eq_getElem_cons hlt] at et
    obtain ⟨S4, e4, et⟩ := bind_inv (show (gg ds[i] ⟨wipeS S3.sl vs, S3.os⟩).bind _ = _ from et)
    obtain ⟨⟨b, S5⟩, e5, et⟩ := bind_inv et
    -- the item
    have key : ∃ F3 G3, Same F2 F3 ∧ Ok K A2 F3 G3 ⟨wipeS S3.sl vs, S3.os⟩ (wipe σ vs) ∧ G3 L = none ∧ H' = upd G3 L (.lst us) ∧ Rp K F3 x ds[i] := by
      rcases w.yld i ds[i] _ x H' sFH (List.getElem?_eq_getElem hlt) hy with ⟨rfl, r⟩ | ⟨T, ws, es, rfl, hT, rfl, ed, r, hz2⟩
      · exact ⟨F2, G2, Same.refl _, k2, hG, rfl, r.mono s2 _ _⟩
      · have hTL : T ≠ L := fun z => by subst z; rw [upd_same] at hT; cases hT
        have gT : G2 T = none := by rwa [upd_ne hTL] at hT
        obtain ⟨s3, k3, r3⟩ := k2.newTup gT (Rps.mono s2 _ _ r) hz2
        refine ⟨_, _, s3, k3, by rw [upd_ne (Ne.symm hTL)]; exact hG, ?_, by rw [ed]; exact r3⟩
        funext c
        by_cases h1 : c = T
        · subst h1; rw [upd_same, upd_ne hTL, upd_same]
        · rw [upd_ne h1]
          by_cases h2 : c = L
          · subst h2; rw [upd_same, upd_same]
          · rw [upd_ne h2, upd_ne h2, upd_ne h1]
    obtain ⟨F3, G3, s3, k3, hG3, rfl, rx⟩ := key
    refine ⟨G3, sub_one hG3 trivial, hg A2 F3 G3 _ _ x ds[i] S4 _ k3 rx e4 fun A4 F4 G4 σ4 p4 s4 k4 w4 => ⟨fun c xs q => ?_, fun lost => ?_⟩⟩
    · exact k4.sub.keep (k4.sub.same c _ (by
        have := k3.sub.keep q (fun z => z)
        exact s4 c _ this)) (fun z => z) |> fun z => k4.sub.same c _ z
    · have hG4 : G4 L = none := lost L _ upd_same hG3
      rw [mix_one hG3 hG4]
      refine ⟨(w4 vs hv).trans (by
        have : ∀ ws : List Nat, wipe (wipe σ ws) ws = wipe σ ws := by
          intro ws
          apply List.ext_getElem?
          intro n
          by_cases hn : n ∈ ws
          · have h1 : ∀ {τ : L2.St} {n : Nat} {ws : List Nat}, n ∈ ws → (wipe τ ws)[n]? = if n < τ.length then some none else none := by
              intro τ n ws
              induction ws with
              | nil => intro h; cases h
              | cons v ws ih =>
                intro h
                unfold wipe
                by_cases hv : v = n
                · subst hv
                  by_cases hl : v < τ.length
                  · rw [List.getElem?_set_self (by rw [wipe_length]; exact hl), if_pos hl]
                  · rw [List.getElem?_eq_none (by rw [List.length_set, wipe_length]; omega), if_neg hl]
                · rw [List.getElem?_set_ne hv]
                  exact ih ((List.mem_cons.mp h).resolve_left fun z => hv z.symm)
            rw [h1 hn, h1 hn, wipe_length]
          · rw [wipe_outV hn]
        exact this vs), G4, sub_one hG4 trivial, ht A4 F4 G4 S4 σ4 b S5 _ k4 e5 fun A5 F5 G5 p5 s5 k5 => ⟨fun c xs q => ?_, fun lost => ?_⟩⟩
      · exact k5.sub.same c _ (s5 c _ (k4.sub.keep q (fun z => z)))
      · have hG5 : G5 L = none := lost L _ upd_same hG4
        rw [mix_one hG4 hG5]
        have w5 : wipe σ4 vs = wipe σ vs := (w4 vs hv).trans (by
          have h1 : ∀ {τ : L2.St} {n : Nat} {ws : List Nat}, n ∈ ws → (wipe τ ws)[n]? = if n < τ.length then some none else none := by
            intro τ n ws
            induction ws with
            | nil => intro h; cases h
            | cons v ws ih =>
              intro h
              unfold wipe
              by_cases hv : v = n
              · subst hv
                by_cases hl : v < τ.length
                · rw [List.getElem?_set_self (by rw [wipe_length]; exact hl), if_pos hl]
                · rw [List.getElem?_eq_none (by rw [List.length_set, wipe_length]; omega), if_neg hl]
              · rw [List.getElem?_set_ne hv]
                exact ih ((List.mem_cons.mp h).resolve_left fun z => hv z.symm)
          apply List.ext_getElem?
          intro n
          by_cases hn : n ∈ vs
          · rw [h1 hn, h1 hn, wipe_length]
          · rw [wipe_outV hn])
        cases b with
        | false =>
          rw [if_neg Bool.false_ne_true] at et
          show if false = true then _ else _
          rw [if_neg Bool.false_ne_true]
          exact ⟨hlt, A5, F5, G5, S5, acc, us, rest, s2.trans (s3.trans (s4.trans s5)), p2.trans (p4.trans p5), k5.wipe w5, hG5, rfl, Rps.mono (s3.trans (s4.trans s5)) _ _ ru, Nat.le_succ_of_le hla, et, ea⟩
        | true =>
          rw [if_pos rfl] at et
          show if true = true then _ else _
          rw [if_pos rfl]
          obtain ⟨⟨y, S6⟩, e6, et⟩ := bind_inv et
          obtain ⟨⟨rest', S7⟩, e7, et⟩ := bind_inv et
          cases et
          refine ⟨G5, sub_one hG5 trivial, he A5 F5 G5 S5 σ4 y S6 _ k5 e6 fun A6 F6 G6 v p6 s6 k6 r6 => ⟨fun c xs q => ?_, fun lost => ?_⟩⟩
          · exact k6.sub.same c _ (s6 c _ (k5.sub.keep q (fun z => z)))
          · have hG6 : G6 L = none := lost L _ upd_same hG5
            rw [mix_one hG5 hG6]
            have ru' : Rps K F6 us acc := Rps.mono (s3.trans (s4.trans (s5.trans s6))) _ _ ru
            refine ⟨us, upd_same, ?_, hlt, A6, F6, G6, S6, acc ++ [y], us ++ [v], rest', s2.trans (s3.trans (s4.trans (s5.trans s6))), p2.trans (p4.trans (p5.trans p6)), k6.wipe w5, hG6, upd_upd, ru'.append (.cons r6 .nil), ?_, e7, ?_⟩
            · rw [ru'.length]
              omega
            · rw [List.length_append, List.length_singleton]
              omega
            · rw [← ea, List.append_assoc]; rfl
  · have ei : i = ds.length := by omega
    subst ei
    rw [List.drop_length] at et
    cases et
    refine .inl ⟨w.stop _ _ sFH (Nat.le_refl _), ?_⟩
    rw [List.append_nil] at ea
    subst ea
    exact post A2 F2 G2 L us acc (p1.trans p2) (s1.trans s2) (k1.back k2 p2 s2) hG rfl ru (Nat.le_trans hla hz)
end

/-! ### the one reading of each judgement -/
def tOf (K : PySem.W.Frag) (g : M D) : TE := fun σ H Q => ∃ A F S d S', Ok K A F H S σ ∧ g S = some (d, S') ∧ ∀ A' F' H' v, A <+: A' → Same F F' → Ok K A' F' H' S' σ → Rp K F' v d → Q v H'
def ttOf (K : PySem.W.Frag) (g : M Bool) : TT := fun σ H Q => ∃ A F S d S', Ok K A F H S σ ∧ g S = some (d, S') ∧ ∀ A' F' H', A <+: A' → Same F F' → Ok K A' F' H' S' σ → Q d H'
def gOf (K : PySem.W.Frag) (tgt : List Nat) (g : D → Sx → Option Sx) : TG := fun v σ H Q => ∃ A F S d S', Ok K A F H S σ ∧ Rp K F v d ∧ g d S = some S' ∧ ∀ A' F' H' σ', A <+: A' → Same F F' → Ok K A' F' H' S' σ' → (∀ vs, (∀ i ∈ tgt, i ∈ vs) → wipe σ' vs = wipe σ vs) → Q σ' H'
def iOf (K : PySem.W.Frag) (g : M (List D)) : TI := fun σ H R => ∃ A F S ds S', Ok K A F H S σ ∧ g S = some (ds, S') ∧ ∀ A' F' H' J, A <+: A' → Same F F' → Ok K A' F' H' S' σ → Walk K F' J ds → ds.length ≤ sizeLine → R J H'
theorem GE.pe {X : Cx} {e : Expr} {g : M D} (h : GE X e g) : PE X e (tOf X.K g) := by
  obtain ⟨t, p, r⟩ := h.ex
  exact ⟨fun pins s σ H Q I ⟨A, F, S, d, S', k, e, post⟩ => p.run pins s σ H Q I (r A F H S σ d S' Q k e post)⟩
theorem rd_of {K : PySem.W.Frag} {g : M D} : RdE K (tOf K g) g := fun A F H S σ d S' Q k e post => ⟨A, F, S, d, S', k, e, post⟩
theorem GTs.pts {X : Cx} {es : List Expr} {g : M Bool} (h : GTs X es g) : PTs X es (ttOf X.K g) := by
  obtain ⟨t, p, r⟩ := h.ex
  exact ⟨fun pins s σ H Q I ⟨A, F, S, d, S', k, e, post⟩ => p.run pins s σ H Q I (r A F H S σ d S' Q k e post)⟩
theorem rd_tof {K : PySem.W.Frag} {g : M Bool} : RdT K (ttOf K g) g := fun A F H S σ d S' Q k e post => ⟨A, F, S, d, S', k, e, post⟩
theorem GG.pg {X : Cx} {tgt : List Nat} {e : Expr} {g : D → Sx → Option Sx} (h : GG X tgt e g) : PG X e (gOf X.K tgt g) := by
  obtain ⟨t, p, r⟩ := h.ex
  exact ⟨fun pins s σ H v u Q I rv ⟨A, F, S, d, S', k, rd, e, post⟩ => p.run pins s σ H v u Q I rv (r A F H S σ v d S' Q k rd e post)⟩
theorem rd_gof {K : PySem.W.Frag} {tgt : List Nat} {g : D → Sx → Option Sx} : RdG K tgt (gOf K tgt g) g := fun A F H S σ v d S' Q k r e post => ⟨A, F, S, d, S', k, r, e, post⟩
theorem GI.pi {X : Cx} {tg e : Expr} {g : M (List D)} (h : GI X tg e g) : PI X tg e (iOf X.K g) := by
  obtain ⟨t, p, r⟩ := h.ex
  exact ⟨fun pins s σ H R I ⟨A, F, S, d, S', k, e, post⟩ => p.run pins s σ H R I (r A F H S σ d S' R k e post)⟩
theorem rd_iof {K : PySem.W.Frag} {g : M (List D)} : RdI K (iOf K g) g := fun A F H S σ d S' Q k e post => ⟨A, F, S, d, S', k, e, post⟩

/-! ### comprehensions -/
section
variable {X : Cx} {pos : Pos} {elt tg iter : Expr} {ifs : List Expr} {scope : Scope} {gi : M (List D)} {gg : D → Sx → Option Sx} {gt : M Bool} {ge : M D} {tgt : List Nat}
/-- the block of a comprehension, wherever it stands -/
abbrev InBlk (X : Cx) (scope : Scope) (P : Cx → Prop) : Prop := ∀ (s : Shared) (H : Hp) (C : Addr) (cl : List (Str × Addr)) (fp : List Addr), P (X.blk s H scope (compEnvC scope cl C X.env) fp)
structure GN (X : Cx) (e : Expr) (g : M D) : Prop where
  ex : ∃ t, PE X e t ∧ RdN X.K t g
theorem GN.e {X : Cx} {e : Expr} {g : M D} (h : GN X e g) : GE X e g := let ⟨_, p, r⟩ := h.ex; ⟨_, p, r.e⟩
theorem n_lc (own : List (Str × Nat)) (hN : X.N.Nodup) (hi : GI X tg iter gi) (ok : BlkOk X.N X.env.scope scope own) (hg : InBlk X scope fun Y => GG Y tgt tg gg) (ht : InBlk X scope fun Y => GTs Y ifs gt) (he : InBlk X scope fun Y => GE Y elt ge)
    (hv : ∀ i ∈ tgt, i ∈ own.map (·.2) := by decide) (hc : X.calm = true := by rfl) (hs : ∀ x, foldedSetIterable iter X.env x = pure x := by intro _; rfl) : GN X (.ListComp elt [⟨tg, iter, ifs, 0⟩] scope pos) (gLc gi gg gt ge (own.map (·.2))) :=
  ⟨_, pe_lc hc hN hi.pi ok (fun s H C cl fp => pg_fr (hg s H C cl fp).pg) (fun s H C cl fp => pts_fr (ht s H C cl fp).pts) (fun s H C cl fp => pe_fr (he s H C cl fp).pe) hs, rd_lc rd_iof rd_gof rd_tof rd_of hv⟩
end
end Fu

set_option maxHeartbeats 4000000
namespace Fu
open PySem PySem.Spec PyProof.Rows L2 RZ

section
variable {K : PySem.W.Frag}
end
/-! ### two clauses -/
section
variable {K : PySem.W.Frag}
end
section
variable {X : Cx} {pos : Pos} {elt tg iter tg1 iter1 : Expr} {ifs ifs1 : List Expr} {scope : Scope} {gi gi1 : M (List D)} {gg gg1 : D → Sx → Option Sx} {gt gt1 : M Bool} {ge : M D} {tgt tgt1 : List Nat}
end
end Fu

set_option maxHeartbeats 4000000
namespace Fu
open PySem PySem.Spec PyProof.Rows L2 RZ

/-! ### statements -/
inductive Out where
  | nx (S : Sx)
  | rt (d : D) (S : Sx)
  | bk (S : Sx)
  | ct (S : Sx)
  | ro (j : Nat) (S : Sx)
/-- what a statement's end hands on; B: what stands for good, A0: the cells that were there -/
def OutP (K : PySem.W.Frag) (B : Hp) (A0 : List Addr) (o : Out) (E : Ends) : Prop := match o with
  | .nx S' => ∀ A F H σ, Same B F → A0 <+: A → Ok K A F H S' σ → E.nx σ H
  | .rt d S' => ∀ A F H σ v, Same B F → A0 <+: A → Ok K A F H S' σ → Rp K F v d → E.rt v H
  | .bk S' => ∀ A F H σ, Same B F → A0 <+: A → Ok K A F H S' σ → E.bk σ H
  | .ct S' => ∀ A F H σ, Same B F → A0 <+: A → Ok K A F H S' σ → E.ct σ H
  | .ro j S' => ∀ A F H σ a, Same B F → A0 <+: A → Ok K A F H S' σ → A[j]? = some a → E.rt (.ref a) H
def RdS (K : PySem.W.Frag) (P : Hp → Prop) (t : TS) (g : Sx → Option Out) : Prop := ∀ B A0 A F H S σ o (E : Ends), P B → Same B F → A0 <+: A → Ok K A F H S σ → g S = some o → OutP K B A0 o E → t E σ H
structure GS (X : Cx) (P : Hp → Prop) (st : Stmt) (g : Sx → Option Out) : Prop where
  ex : ∃ t, PS X st t ∧ RdS X.K P t g
structure GSs (X : Cx) (P : Hp → Prop) (st : List Stmt) (g : Sx → Option Out) : Prop where
  ex : ∃ t, PSs X st t ∧ RdS X.K P t g
def qNx : Sx → Option Out := fun S => some (.nx S)
def qSeq (g h : Sx → Option Out) : Sx → Option Out := fun S => (g S).bind fun o => match o with
  | .nx S1 => h S1
  | o => some o
def qDrop (g : M D) : Sx → Option Out := fun S => (g S).bind fun p => some (.nx p.2)
def qRet (g : M D) : Sx → Option Out := fun S => (g S).bind fun p => some (.rt p.1 p.2)
def qRetN : Sx → Option Out := fun S => some (.rt .none S)
def qIf (t : M Bool) (g h : Sx → Option Out) : Sx → Option Out := fun S => (t S).bind fun p => if p.1 = true then g p.2 else h p.2
def qSet (i : Nat) (g : M D) : Sx → Option Out := fun S => (g S).bind fun p => some (.nx ⟨p.2.sl.set i (some (.dat p.1)), p.2.os⟩)
def qAsg (gg : D → Sx → Option Sx) (g : M D) : Sx → Option Out := fun S => (g S).bind fun p => (gg p.1 p.2).bind fun S1 => some (.nx S1)
/-- a new list of one's own -/
def qOwn (i : Nat) (g : M D) : Sx → Option Out := fun S => (g S).bind fun p => match p.1 with
  | .list ds => some (.nx ⟨p.2.sl.set i (some (.own p.2.os.length)), p.2.os ++ [some (.lst ds)]⟩)
  | _ => none
def qNone : Sx → Option Out := fun _ => none
section
variable {X : Cx} {P : Hp → Prop} {st : Stmt} {sts : List Stmt} {g h : Sx → Option Out} {e : Expr} {ge : M D} {pos : Pos}
theorem ss_nil : GSs X P [] qNx := ⟨_, pss_nil, fun B A0 A F H S σ o E hP s p k e post => by cases e; exact post A F H σ s p k⟩
theorem rd_seq {K : PySem.W.Frag} {t u : TS} (hg : RdS K P t g) (hh : RdS K P u h) : RdS K P (tSeq t u) (qSeq g h) := by
  intro B A0 A F H S σ o E hP s p k e post
  obtain ⟨o1, e1, e⟩ := bind_inv e
  refine hg B A0 A F H S σ o1 _ hP s p k e1 ?_
  cases o1 with
  | nx S1 => exact fun A1 F1 H1 σ1 s1 p1 k1 => hh B A0 A1 F1 H1 S1 σ1 o E hP s1 p1 k1 e post
  | rt d S1 => cases e; exact post
  | bk S1 => cases e; exact post
  | ct S1 => cases e; exact post
  | ro j S1 => cases e; exact post
theorem ss_cons (h1 : GS X P st g) (h2 : GSs X P sts h) : GSs X P (st :: sts) (qSeq g h) :=
  let ⟨_, p1, r1⟩ := h1.ex; let ⟨_, p2, r2⟩ := h2.ex; ⟨_, pss_cons p1 p2, rd_seq r1 r2⟩
theorem ss_one (h1 : GS X P st g) : GSs X P [st] g := let ⟨_, p1, r1⟩ := h1.ex; ⟨_, pss_one p1, r1⟩
theorem s_never : GS X P st qNone := ⟨_, ps_never, fun B A0 A F H S σ o E hP s p k e post => by cases e⟩
theorem s_expr (he : GE X e ge) (hs : swapsWith e none pos.line X.env = pure false := by rfl) : GS X P (.Expr e pos) (qDrop ge) := by
  obtain ⟨t, p1, r1⟩ := he.ex
  refine ⟨_, ps_expr p1 hs, fun B A0 A F H S σ o E hP s p k e post => ?_⟩
  obtain ⟨⟨d, S1⟩, e1, e⟩ := bind_inv e
  cases e
  exact r1 A F H S σ d S1 _ k e1 fun A1 F1 H1 v p1 s1 k1 _ => post A1 F1 H1 σ (s.trans s1) (p.trans p1) k1
theorem s_ret (he : GE X e ge) : GS X P (.Return (some e) pos) (qRet ge) := by
  obtain ⟨t, p1, r1⟩ := he.ex
  refine ⟨_, ps_ret p1, fun B A0 A F H S σ o E hP s p k e post => ?_⟩
  obtain ⟨⟨d, S1⟩, e1, e⟩ := bind_inv e
  cases e
  exact r1 A F H S σ d S1 _ k e1 fun A1 F1 H1 v p1 s1 k1 rv => post A1 F1 H1 σ v (s.trans s1) (p.trans p1) k1 rv
theorem s_if {c : Expr} {a b : List Stmt} {gt : M Bool} (hc : GT X c gt) (ha : GSs X P a g) (hb : GSs X P b h) : GS X P (.If c a b pos) (qIf gt g h) := by
  obtain ⟨t, pc, rc⟩ := hc.ex
  obtain ⟨_, pa, ra⟩ := ha.ex
  obtain ⟨_, pb, rb⟩ := hb.ex
  refine ⟨_, ps_if pc pa pb, fun B A0 A F H S σ o E hP s p k e post => ?_⟩
  obtain ⟨⟨x, S1⟩, e1, e⟩ := bind_inv e
  refine rc A F H S σ x S1 _ k e1 fun A1 F1 H1 p1 s1 k1 => ?_
  cases x with
  | true => exact ra B A0 A1 F1 H1 S1 σ o E hP (s.trans s1) (p.trans p1) k1 e post
  | false => exact rb B A0 A1 F1 H1 S1 σ o E hP (s.trans s1) (p.trans p1) k1 e post
theorem rd_asgN {K : PySem.W.Frag} {t : TE} (i : Nat) (r : RdE K t ge) : RdS K P (tAsg t (gName i)) (qSet i ge) := by
  intro B A0 A F H S σ o E hP s p k e post
  obtain ⟨⟨d, S1⟩, e1, e⟩ := bind_inv e
  cases e
  exact r A F H S σ d S1 _ k e1 fun A1 F1 H1 v p1 s1 k1 rv => post A1 F1 H1 _ (s.trans s1) (p.trans p1) (k1.setDat rv)
theorem s_set {x : Str} {pos' : Pos} (i : Nat) (hN : X.N.Nodup) (he : GE X e ge) (hx : Loc X.env.scope x := by first | exact Or.inl rfl | exact Or.inr rfl) (hi : X.N[i]? = some x := by rfl) (hs : swapsWith e (some (.Name x pos')) pos.line X.env = pure false := by rfl)
    (hf : X.fn x = true ∨ X.env.scope.names.lookup x = some .local := by first | exact .inl rfl | exact .inr rfl | assumption) : GS X P (.Assign [.Name x pos'] e pos) (qSet i ge) :=
  let ⟨_, p1, r1⟩ := he.ex; ⟨_, ps_set hN hi hx p1 hs hf, rd_asgN i r1⟩
theorem s_asg {tg : Expr} {tgt : List Nat} {gg : D → Sx → Option Sx} (hg : GG X tgt tg gg) (he : GE X e ge) (hs : swapsWithSole [tg] e pos.line X.env = pure false := by rfl) (hw : swappedStores [tg] e X.env = pure none := by rfl)
    (h1 : (assignEach [tg] X.env).map (·.2) = [assign tg X.env] := by rfl) : GS X P (.Assign [tg] e pos) (qAsg gg ge) := by
  obtain ⟨t, pa, ra⟩ := he.ex
  obtain ⟨u, pb, rb⟩ := hg.ex
  refine ⟨_, ps_asg pa pb hs hw h1, fun B A0 A F H S σ o E hP s p k e post => ?_⟩
  obtain ⟨⟨d, S1⟩, e1, e⟩ := bind_inv e
  obtain ⟨S2, e2, e⟩ := bind_inv e
  cases e
  exact ra A F H S σ d S1 _ k e1 fun A1 F1 H1 v p1 s1 k1 rv => rb A1 F1 H1 S1 σ v d S2 _ k1 rv e2 fun A2 F2 H2 σ2 p2 s2 k2 _ => post A2 F2 H2 σ2 (s.trans (s1.trans s2)) (p.trans (p1.trans p2)) k2
/-- a, b = x, y -/
def qPar (i j : Nat) (g : M (List D)) : Sx → Option Out := fun S => (g S).bind fun p => match p.1 with
  | [d, e] => some (.nx ⟨(p.2.sl.set i (some (.dat d))).set j (some (.dat e)), p.2.os⟩)
  | _ => none
theorem s_par {x y : Str} {a b : Expr} {gs : M (List D)} {px py pt : Pos} {kt k2 pt2} (i j : Nat) (hN : X.N.Nodup) (ha : GA X [a, b] gs) (hi : X.N[i]? = some x := by rfl) (hj : X.N[j]? = some y := by rfl) (hij : i ≠ j := by decide)
    (hx : X.env.scope.names.lookup x = some .local := by rfl) (hy : X.env.scope.names.lookup y = some .local := by rfl) (hc : X.calm = true := by rfl)
    (hw : swappedStores [.Tuple [.Name x px, .Name y py] kt pt] (.Tuple [a, b] k2 pt2) X.env = pure (some [x, y]) := by rfl)
    (hs : swapsWithSole [.Tuple [.Name x px, .Name y py] kt pt] (.Tuple [a, b] k2 pt2) pos.line X.env = pure false := by rfl) :
    GS X P (.Assign [.Tuple [.Name x px, .Name y py] kt pt] (.Tuple [a, b] k2 pt2) pos) (qPar i j gs) := by
  obtain ⟨t, pa, ra⟩ := ha.ex
  refine ⟨_, ps_par hc hN hi hj hij hx hy pa hw hs, fun B A0 A F H S σ o E hP s p k e post => ?_⟩
  obtain ⟨⟨ds, S1⟩, e1, e⟩ := bind_inv e
  simp only at e
  split at e
  · cases e
    refine ra A F H S σ _ S1 _ k e1 fun A1 F1 H1 vs p1 s1 k1 rv => ?_
    obtain ⟨v, u, rfl, r1, r2⟩ := rps2 rv
    exact ⟨v, u, rfl, post A1 F1 H1 _ (s.trans s1) (p.trans p1) ((k1.setDat r1).setDat r2)⟩
  · cases e
/-- a list that stands in the heap and is nobody's becomes a cell -/
theorem Ok.adopt {K : PySem.W.Frag} {A : List Addr} {F G : Hp} {S : Sx} {σ : L2.St} (k : Ok K A F G S σ) {p : Addr} {vs : List V} {ds : List D} (hp : G p = none) (r : Rps K F vs ds) (hz : ds.length ≤ sizeLine) :
    Ok K (A ++ [p]) F (upd G p (.lst vs)) ⟨S.sl, S.os ++ [some (.lst ds)]⟩ σ := k.cellNew hp trivial ⟨vs, upd_same, r, hz⟩
theorem rd_asgO {K : PySem.W.Frag} {t : TE} (i : Nat) (r : RdN K t ge) : RdS K P (tAsg t (gName i)) (qOwn i ge) := by
  intro B A0 A F H S σ o E hP s p k e post
  obtain ⟨⟨d, S1⟩, e1, e⟩ := bind_inv e
  refine r A F H S σ d S1 _ k e1 fun A1 F1 G1 L vs ds p1 s1 k1 hL ed rv hz => ?_
  subst ed
  cases e
  have k2 := k1.adopt hL rv hz
  exact post _ F1 _ _ (s.trans s1) (p.trans (p1.trans (List.prefix_append _ _))) (k2.setOwn (j := S1.os.length) (by rw [k1.alen]; simp))
/-- a new list goes out, nobody's yet -/
def qRetO (g : M D) : Sx → Option Out := fun S => (g S).bind fun p => match p.1 with
  | .list ds => some (.ro p.2.os.length ⟨p.2.sl, p.2.os ++ [some (.lst ds)]⟩)
  | _ => none
theorem s_retNew (he : GN X e ge) : GS X P (.Return (some e) pos) (qRetO ge) := by
  obtain ⟨t, p1, r1⟩ := he.ex
  refine ⟨_, ps_ret p1, fun B A0 A F H S σ o E hP s p k e post => ?_⟩
  obtain ⟨⟨d, S1⟩, e1, e⟩ := bind_inv e
  refine r1 A F H S σ d S1 _ k e1 fun A1 F1 G1 L vs ds p1 s1 k1 hL ed rv hz => ?_
  subst ed
  cases e
  exact post _ F1 _ σ L (s.trans s1) (p.trans (p1.trans (List.prefix_append _ _))) (k1.adopt hL rv hz) (by rw [k1.alen]; simp)
theorem s_own {x : Str} {pos' : Pos} (i : Nat) (hN : X.N.Nodup) (he : GN X e ge) (hx : Loc X.env.scope x := by first | exact Or.inl rfl | exact Or.inr rfl) (hi : X.N[i]? = some x := by rfl) (hs : swapsWith e (some (.Name x pos')) pos.line X.env = pure false := by rfl)
    (hf : X.fn x = true ∨ X.env.scope.names.lookup x = some .local := by first | exact .inl rfl | exact .inr rfl | assumption) : GS X P (.Assign [.Name x pos'] e pos) (qOwn i ge) :=
  let ⟨_, p1, r1⟩ := he.ex; ⟨_, ps_set hN hi hx p1 hs hf, rd_asgO i r1⟩
end
section
variable {X : Cx} {P : Hp → Prop} {pos spos py : Pos} {y : Str} {elt tg iter tg1 iter1 : Expr} {ifs ifs1 : List Expr} {scope : Scope} {gi gi1 : M (List D)} {gg gg1 : D → Sx → Option Sx} {gt gt1 : M Bool} {ge : M D} {tgt tgt1 : List Nat}
/-- name = [..], on one line -/
structure Lc1 (X : Cx) (i : Nat) (st : Stmt) (g : M D) : Prop where
  ex : ∃ t, PS X st (tAsg t (gName i)) ∧ RdN X.K t g
theorem lc1 (i : Nat) (own : List (Str × Nat)) (hN : X.N.Nodup) (hi : GI X tg iter gi) (ok : BlkOk X.N X.env.scope scope own) (hg : InBlk X scope fun Y => GG Y tgt tg gg) (ht : InBlk X scope fun Y => GTs Y ifs gt) (he : InBlk X scope fun Y => GE Y elt ge)
    (hy : X.N[i]? = some y := by rfl) (hyl : X.env.scope.names.lookup y = some .local := by rfl) (hv : ∀ i ∈ tgt, i ∈ own.map (·.2) := by decide) (hc : X.calm = true := by rfl) (hs : ∀ x, foldedSetIterable iter X.env x = pure x := by intro _; rfl)
    (hsw : swapsWith (.ListComp elt [⟨tg, iter, ifs, 0⟩] scope pos) (some (.Name y py)) spos.line X.env = pure true := by exact sw_true rfl rfl rfl (by decide +kernel)) :
    Lc1 X i (.Assign [.Name y py] (.ListComp elt [⟨tg, iter, ifs, 0⟩] scope pos) spos) (gLc gi gg gt ge (own.map (·.2))) :=
  ⟨_, ps_setLc hc hN hy hyl hsw hi.pi ok (fun s H C cl fp => pg_fr (hg s H C cl fp).pg) (fun s H C cl fp => pts_fr (ht s H C cl fp).pts) (fun s H C cl fp => pe_fr (he s H C cl fp).pe) hs, rd_lc rd_iof rd_gof rd_tof rd_of hv⟩
theorem s_setLc {i : Nat} {st : Stmt} (h : Lc1 X i st ge) : GS X P st (qSet i ge) := let ⟨_, p, r⟩ := h.ex; ⟨_, p, rd_asgN i r.e⟩
end

/-! ### new lists -/
section
variable {X : Cx} {pos p : Pos} {a b e : Expr} {es : List Expr} {ga gb : M D} {gs : M (List D)}
theorem n_lst (hs : GA X es gs) : GN X (.List es pos) (gLst gs) := by
  obtain ⟨u, pb, rb⟩ := hs.ex
  refine ⟨_, pe_lst pb, fun A F H S σ d S' Q k e post => ?_⟩
  obtain ⟨⟨x, S1⟩, h1, e⟩ := bind_inv e
  simp only at e
  split at e
  · rename_i hz
    cases e
    exact rb A F H S σ x _ _ k h1 fun A1 F1 H1 vs p1 s1 k1 r1 => ⟨by rw [r1.length]; exact hz, fun p hp => post A1 F1 H1 p vs x p1 s1 k1 hp rfl r1 hz⟩
  · cases e
/-- [x] * n -/
def gRep (f : D → D → Option D) (ga gb : M D) : M D := fun S => (gBin f ga gb S).bind fun p => match p.1 with
  | .list ds => some (.list ds, p.2)
  | _ => none
end
end Fu

set_option maxHeartbeats 4000000
namespace Fu
open PySem PySem.Spec PyProof.Rows L2 RZ

/-! ### lists that are written: items, length, comparisons -/
def ownOf (S : Sx) (i : Nat) : Option (Nat × List D) := match S.sl[i]? with
  | some (some (.own j)) => match S.os[j]? with
    | some (some (.lst cs)) => some (j, cs)
    | _ => none
  | _ => none
theorem own_at {K : PySem.W.Frag} {A : List Addr} {F H : Hp} {S : Sx} {σ : L2.St} {i j : Nat} {cs : List D} (k : Ok K A F H S σ) (h : ownOf S i = some (j, cs)) :
    ∃ a vs, S.sl[i]? = some (some (.own j)) ∧ S.os[j]? = some (some (.lst cs)) ∧ A[j]? = some a ∧ σ[i]? = some (some (.ref a)) ∧ F a = none ∧ H a = some (.lst vs) ∧ Rps K F vs cs ∧ cs.length ≤ sizeLine := by
  unfold ownOf at h
  split at h
  · rename_i j' ej
    split at h
    · rename_i cs' ec
      cases h
      obtain ⟨a, ha, ev⟩ := k.oslot i _ ej
      obtain ⟨a', ha', fa, vs, hv, r, hz⟩ := k.cell _ _ ec
      rw [ha] at ha'; cases ha'
      exact ⟨a, vs, ej, ec, ha, ev, fa, hv, r, hz⟩
    · cases h
  · cases h
/-- behind an expression: the cell as it stands by then -/
def cellOf (S : Sx) (j : Nat) : Option (List D) := match S.os[j]? with
  | some (some (.lst cs)) => some cs
  | _ => none
theorem cell_at {K : PySem.W.Frag} {A : List Addr} {F H : Hp} {S : Sx} {σ : L2.St} {j : Nat} {cs : List D} {a : Addr} (k : Ok K A F H S σ) (h : cellOf S j = some cs) (ha : A[j]? = some a) :
    ∃ vs, S.os[j]? = some (some (.lst cs)) ∧ F a = none ∧ H a = some (.lst vs) ∧ Rps K F vs cs ∧ cs.length ≤ sizeLine := by
  unfold cellOf at h
  split at h
  · rename_i cs' ec
    cases h
    obtain ⟨a', ha', fa, vs, hv, r, hz⟩ := k.cell _ _ ec
    rw [ha] at ha'; cases ha'
    exact ⟨vs, ec, fa, hv, r, hz⟩
  · cases h
section
variable {X : Cx} {P : Hp → Prop} {pos py p p2 apos : Pos} {y : Str} {b e : Expr} {es : List Expr} {gb ge : M D} {gs : M (List D)}
def gIxO (i : Nat) (gb : M D) : M D := fun S => (ownOf S i).bind fun o => (gb S).bind fun p => match p.1 with
  | .int n => (cellOf p.2 o.1).bind fun cs => (atI cs n).bind fun d => some (d, p.2)
  | _ => none
theorem e_ixO (i : Nat) (hb : GE X b gb) (hN : X.N[i]? = some y := by rfl) (hv : Vis X.env.scope y := by first | exact Or.inl rfl | exact Or.inr (Or.inl rfl) | exact Or.inr (Or.inr rfl)) (hs : PlainIx b := by exact fun _ _ => rfl) (hdy : (y == ("__debug__" : Str)) = false := by decide) (hcd : (y == ("__classdict__" : Str)) = false := by decide) :
    GE X (.Subscript (.Name y py) b pos) (gIxO i gb) := by
  obtain ⟨u, pb, rb⟩ := hb.ex
  refine ⟨_, pe_ix ix_list (pe_var hN hv hdy hcd) pb hs, fun A F H S σ d S' Q k h post => ?_⟩
  obtain ⟨⟨j, cs0⟩, e0, h⟩ := bind_inv h
  obtain ⟨⟨x, S1⟩, e1, h⟩ := bind_inv h
  obtain ⟨a, vs0, _, _, ha, ev, _⟩ := own_at k e0
  refine ⟨_, ev, rb A F H S σ x S1 _ k e1 fun A1 F1 H1 v p1 s1 k1 r1 => ?_⟩
  cases x <;> simp only at h <;> try cases h
  rename_i n
  obtain ⟨cs, e2, h⟩ := bind_inv h
  obtain ⟨d', e3, h⟩ := bind_inv h
  cases h
  obtain ⟨vs, _, _, hv', r, _⟩ := cell_at k1 e2 (prefix_at p1 ha)
  cases rp_int_inv r1
  obtain ⟨w, ew, rw'⟩ := rps_atI r e3
  exact ⟨a, vs, _, w, rfl, rfl, SqL.of hv', ew, post A1 F1 H1 w p1 s1 k1 rw'⟩
def gLenO (i : Nat) : M D := fun S => (ownOf S i).bind fun o => some (.int o.2.length, S)
/-- own on the left, own on the right -/
def gOL (f : D → D → Option D) (i : Nat) (gb : M D) : M D := fun S => (ownOf S i).bind fun o => (gb S).bind fun p => (cellOf p.2 o.1).bind fun cs => match f (.list cs) p.1 with
  | some (.bool b) => some (.bool b, p.2)
  | _ => none
def gOR (f : D → D → Option D) (gb : M D) (i : Nat) : M D := fun S => (gb S).bind fun p => (ownOf p.2 i).bind fun o => match f p.1 (.list o.2) with
  | some (.bool b) => some (.bool b, p.2)
  | _ => none
/-! ### lists that are written: append, extend, pop, xs[k] = v -/
def setCell (S : Sx) (j : Nat) (cs : List D) : Sx := ⟨S.sl, S.os.set j (some (.lst cs))⟩
/-- xs.append(e), its value None -/
def gApp (i : Nat) (ge : M D) : M D := fun S => (ownOf S i).bind fun o => (ge S).bind fun p => (cellOf p.2 o.1).bind fun cs => if cs.length < sizeLine then some (.none, setCell p.2 o.1 (cs ++ [p.1])) else none
theorem e_append (i : Nat) (he : GE X e ge) (hN : X.N[i]? = some y := by rfl) (hv : Vis X.env.scope y := by first | exact Or.inl rfl | exact Or.inr (Or.inl rfl) | exact Or.inr (Or.inr rfl)) (hdy : (y == ("__debug__" : Str)) = false := by decide) (hcd : (y == ("__classdict__" : Str)) = false := by decide)
    (hbase : attributeBase (.Name y py) "append" X.env (eval (.Name y py) X.env) = eval (.Name y py) X.env := by rfl)
    (hfew : ((backTo pos (starEach [e] X.env)).all (fun x => !x.1) && (backToKw pos (keywordEach [] X.env)).all (fun x => x.1.isSome) && decide (([e] : List Expr).length + ([] : List Keyword).length + (if ([] : List Keyword).isEmpty then 0 else 1) < 30)) = true := by rfl)
    (hline : (apos.endLine == pos.line) = true := by rfl) (hst : starEach [e] X.env = (false, eval e X.env) :: starEach [] X.env := by rfl) : GE X (.Call (.Attribute (.Name y py) "append" apos) [e] [] pos) (gApp i ge) := by
  obtain ⟨t, pa, ra⟩ := he.ex
  refine ⟨_, pe_bm PySem.F.plainAttrs_list PySem.F.slot_list_append PySem.F.type_list_append mt_append (pe_var hN hv hdy hcd) (pa_cons pa pa_nil hst) hbase hfew hline hst (by rfl), fun A F H S σ d S' Q k h post => ?_⟩
  obtain ⟨⟨j, cs0⟩, e0, h⟩ := bind_inv h
  obtain ⟨⟨x, S1⟩, e1, h⟩ := bind_inv h
  obtain ⟨cs, e2, h⟩ := bind_inv h
  simp only at h
  split at h
  · rename_i hlt
    cases h
    obtain ⟨a, vs0, _, _, ha, ev, _, hv0, _, _⟩ := own_at k e0
    refine ⟨_, ev, .inl ⟨rfl, _, SqL.of hv0⟩, ra A F H S σ x S1 _ k e1 fun A1 F1 H1 v p1 s1 k1 r1 => ?_⟩
    obtain ⟨vs, ec, fa, hv', rr, hz⟩ := cell_at k1 e2 (prefix_at p1 ha)
    refine ⟨a, vs, v, rfl, rfl, hv', by rw [rr.length]; exact hlt, ?_⟩
    exact post A1 F1 _ _ p1 s1 (k1.cellSet ec (prefix_at p1 ha) trivial ⟨_, upd_same, rr.append (.cons r1 .nil), by rw [List.length_append]; exact hlt⟩) .non
  · cases h
/-- xs[k] = v -/
def qSetO (i : Nat) (gb ge : M D) : Sx → Option Out := fun S => (ge S).bind fun p => (ownOf p.2 i).bind fun o => (gb p.2).bind fun q => match q.1 with
  | .int n => (cellOf q.2 o.1).bind fun cs => (ixN cs.length n).bind fun m => some (.nx (setCell q.2 o.1 (cs.set m p.1)))
  | _ => none
theorem s_setO {spos : Pos} (i : Nat) (hb : GE X b gb) (he : GE X e ge) (hN : X.N[i]? = some y := by rfl) (hv : Vis X.env.scope y := by first | exact Or.inl rfl | exact Or.inr (Or.inl rfl) | exact Or.inr (Or.inr rfl)) (hdy : (y == ("__debug__" : Str)) = false := by decide) (hcd : (y == ("__classdict__" : Str)) = false := by decide)
    (ha : ∀ v, assign (.Subscript (.Name y py) b pos) X.env v = (do
      let ov ← holding [v] (eval (.Name y py) X.env)
      let iv ← holding [v, ov] (eval b X.env)
      standAt pos
      holding [v, ov, iv] (setItem ov iv v)
      release [v, ov, iv] []) := by intro _; rfl)
    (hs : swapsWithSole [.Subscript (.Name y py) b pos] e spos.line X.env = pure false := by rfl) (hw : swappedStores [.Subscript (.Name y py) b pos] e X.env = pure none := by rfl)
    (h1 : (assignEach [.Subscript (.Name y py) b pos] X.env).map (·.2) = [assign (.Subscript (.Name y py) b pos) X.env] := by rfl) : GS X P (.Assign [.Subscript (.Name y py) b pos] e spos) (qSetO i gb ge) := by
  obtain ⟨t, pe, re⟩ := he.ex
  obtain ⟨u, pb, rb⟩ := hb.ex
  refine ⟨_, ps_asg pe (pg_sub (pe_var hN hv hdy hcd) pb set_list ha) hs hw h1, fun B A0 A F H S σ o E hP s p k h post => ?_⟩
  obtain ⟨⟨d, S1⟩, e1, h⟩ := bind_inv h
  obtain ⟨⟨j, cs0⟩, e0, h⟩ := bind_inv h
  obtain ⟨⟨x, S2⟩, e2, h⟩ := bind_inv h
  cases x <;> simp only at h <;> try cases h
  rename_i n
  obtain ⟨cs, e3, h⟩ := bind_inv h
  obtain ⟨m, e4, h⟩ := bind_inv h
  cases h
  refine re A F H S σ d S1 _ k e1 fun A1 F1 H1 v p1 s1 k1 r1 => ?_
  obtain ⟨a, vs0, _, _, ha', ev, _, hv0, _, _⟩ := own_at k1 e0
  refine ⟨_, ev, rb A1 F1 H1 S1 σ _ S2 _ k1 e2 fun A2 F2 H2 w p2 s2 k2 r2 => ?_⟩
  cases rp_int_inv r2
  obtain ⟨vs, ec, fa, hv', rr, hz⟩ := cell_at k2 e3 (prefix_at p2 ha')
  refine ⟨a, vs, n, m, rfl, rfl, hv', by rw [rr.length]; exact e4, ?_⟩
  exact post A2 F2 _ _ (s.trans (s1.trans s2)) (p.trans (p1.trans p2)) (k2.cellSet ec (prefix_at p2 ha') trivial ⟨_, upd_same, Rps.set _ (r1.mono s2 _ _) rr, by rw [List.length_set]; exact hz⟩)

/-! ### x += e of numbers -/
end

/-! ### loops -/
def gLoop (gg : D → Sx → Option Sx) (body : Sx → Option Out) : List D → Sx → Option Out
  | [], S => some (.nx S)
  | d :: ds, S => (gg d S).bind fun S1 => (body S1).bind fun o => match o with
    | .nx S2 => gLoop gg body ds S2
    | .ct S2 => gLoop gg body ds S2
    | .bk S2 => some (.nx S2)
    | .rt d S2 => some (.rt d S2)
    | .ro j S2 => some (.ro j S2)
def qFor (gi : M (List D)) (gg : D → Sx → Option Sx) (body : Sx → Option Out) : Sx → Option Out := fun S => (gi S).bind fun p => gLoop gg body p.1 p.2
section
variable {K : PySem.W.Frag} {P : Hp → Prop}
/-- the loop, its walk over a heap W that B holds -/
theorem rd_loop {g : TG} {tb : TS} {gg : D → Sx → Option Sx} {body : Sx → Option Out} {tgt : List Nat} (hg : RdG K tgt g gg) (hb : RdS K P tb body) {B W : Hp} {A0 : List Addr} {J : It} {ds : List D} {E : Ends} {o : Out} (hP : P B) (w : Walk K W J ds) (hW : Same W B)
    (post : OutP K B A0 o E) {A : List Addr} {F H : Hp} {S : Sx} {σ : L2.St} (s : Same B F) (p : A0 <+: A) (k : Ok K A F H S σ) (e : gLoop gg body ds S = some o) :
    ∃ Wi : Nat → Nat → L2.St → Hp → Prop, (∃ m, Wi 0 m σ H) ∧ ∀ i m σ H, Wi i m σ H →
      (J.stop i H ∧ E.nx σ H) ∨ (J.go i H ∧ ∃ N : L2.St → Hp → Prop, (∀ σ' H', N σ' H' → ∃ m', m' < m ∧ Wi (i + 1) m' σ' H') ∧ ∀ x H', J.yld i H x H' → g x σ H' fun σ2 H2 => tb { E with nx := N, ct := N, bk := E.nx } σ2 H2) := by
  refine ⟨fun i m σ H => m = ds.length - i ∧ i ≤ ds.length ∧ ∃ A F S, Same B F ∧ A0 <+: A ∧ Ok K A F H S σ ∧ gLoop gg body (ds.drop i) S = some o, ⟨ds.length, by simp, Nat.zero_le _, A, F, S, s, p, k, by simpa using e⟩, ?_⟩
  rintro i m σ1 H1 ⟨rfl, hil, A1, F1, S1, s1, p1, k1, e1⟩
  have sWH : Same W H1 := (hW.trans s1).trans k1.sub.same
  by_cases hlt : i < ds.length
  · refine .inr ⟨w.go i _ sWH hlt, fun σ' H' => i + 1 ≤ ds.length ∧ ∃ A F S, Same B F ∧ A0 <+: A ∧ Ok K A F H' S σ' ∧ gLoop gg body (ds.drop (i + 1)) S = some o, fun σ' H' h => ⟨ds.length - (i + 1), by omega, rfl, h⟩, fun x H' hy => ?_⟩
    rw [List.drop_eq_getElem_cons hlt] at e1
    obtain ⟨S2, e2, e1⟩ := bind_inv (show (gg ds[i] S1).bind _ = _ from e1)
    obtain ⟨o2, e3, e1⟩ := bind_inv e1
    have key : ∃ F2, Same F1 F2 ∧ Ok K A1 F2 H' S1 σ1 ∧ Rp K F2 x ds[i] := by
      rcases w.yld i ds[i] _ x H' sWH (List.getElem?_eq_getElem hlt) hy with ⟨rfl, r⟩ | ⟨T, ws, es, rfl, hT, rfl, ed, r, hz2⟩
      · exact ⟨F1, Same.refl _, k1, (r.mono hW _ _).mono s1 _ _⟩
      · obtain ⟨s3, k3, r3⟩ := k1.newTup hT (Rps.mono s1 _ _ (Rps.mono hW _ _ r)) hz2
        exact ⟨_, s3, k3, by rw [ed]; exact r3⟩
    obtain ⟨F2, s2, k2, rx⟩ := key
    refine hg A1 F2 H' S1 σ1 x ds[i] S2 _ k2 rx e2 fun A3 F3 H3 σ3 p3 s3 k3 _ => ?_
    refine hb B A0 A3 F3 H3 S2 σ3 o2 _ hP (s1.trans (s2.trans s3)) (p1.trans p3) k3 e3 ?_
    cases o2 with
    | nx S4 => exact fun A4 F4 H4 σ4 s4 p4 k4 => ⟨hlt, A4, F4, S4, s4, p4, k4, e1⟩
    | ct S4 => exact fun A4 F4 H4 σ4 s4 p4 k4 => ⟨hlt, A4, F4, S4, s4, p4, k4, e1⟩
    | bk S4 => cases e1; exact post
    | rt d S4 => cases e1; exact post
    | ro j S4 => cases e1; exact post
  · have ei : i = ds.length := by omega
    subst ei
    rw [List.drop_length] at e1
    cases e1
    exact .inl ⟨w.stop _ _ sWH (Nat.le_refl _), post A1 F1 H1 σ1 s1 p1 k1⟩
end
section
variable {X : Cx} {P : Hp → Prop} {pos : Pos} {tg iter : Expr} {body : List Stmt} {gi : M (List D)} {gg : D → Sx → Option Sx} {g : Sx → Option Out} {tgt : List Nat}
theorem same_outp {K : PySem.W.Frag} {B B' : Hp} {A0 A0' : List Addr} {o : Out} {E : Ends} (s : Same B B') (p : A0 <+: A0') (h : OutP K B A0 o E) : OutP K B' A0' o E := by
  cases o with
  | nx S => exact fun A F H σ s1 p1 k => h A F H σ (s.trans s1) (p.trans p1) k
  | rt d S => exact fun A F H σ v s1 p1 k => h A F H σ v (s.trans s1) (p.trans p1) k
  | bk S => exact fun A F H σ s1 p1 k => h A F H σ (s.trans s1) (p.trans p1) k
  | ct S => exact fun A F H σ s1 p1 k => h A F H σ (s.trans s1) (p.trans p1) k
  | ro j S => exact fun A F H σ a s1 p1 k => h A F H σ a (s.trans s1) (p.trans p1) k
/-- over data that stand: the body may be judged over any base -/
theorem s_for (hp : PassesOwn (model X.prog X.w) X.A X.env X.xe) (hi : GI X tg iter gi) (hg : GG X tgt tg gg) (hb : GSs X P body g) (hPall : ∀ B, P B) (hc : X.calm = true := by rfl) (hs : ∀ x, foldedSetIterable iter X.env x = pure x := by intro _; rfl) : GS X P (.For tg iter body [] pos) (qFor gi gg g) := by
  obtain ⟨t, pi, ri⟩ := hi.ex
  obtain ⟨u, pg, rg⟩ := hg.ex
  obtain ⟨v, pb, rb⟩ := hb.ex
  refine ⟨_, ps_for hp hc pi pg pb hs, fun B A0 A F H S σ o E hP s p k e post => ?_⟩
  obtain ⟨⟨ds, S1⟩, e1, e⟩ := bind_inv e
  exact ri A F H S σ ds S1 _ k e1 fun A1 F1 H1 J p1 s1 k1 w _ => rd_loop rg rb (hPall F1) w (Same.refl F1) (same_outp (s.trans s1) p post) (Same.refl F1) (p1) k1 e
/-- over numbers -/
theorem s_for0 (hp : PassesOwn (model X.prog X.w) X.A X.env X.xe) (hi : GI0 X tg iter gi) (hg : GG X tgt tg gg) (hb : GSs X P body g) (hc : X.calm = true := by rfl) (hs : ∀ x, foldedSetIterable iter X.env x = pure x := by intro _; rfl) : GS X P (.For tg iter body [] pos) (qFor gi gg g) := by
  obtain ⟨t, pi, ri⟩ := hi.ex
  obtain ⟨u, pg, rg⟩ := hg.ex
  obtain ⟨v, pb, rb⟩ := hb.ex
  refine ⟨_, ps_for hp hc pi pg pb hs, fun B A0 A F H S σ o E hP s p k e post => ?_⟩
  obtain ⟨⟨ds, S1⟩, e1, e⟩ := bind_inv e
  exact ri A F H S σ ds S1 _ k e1 fun A1 F1 H1 J p1 s1 k1 w => rd_loop rg rb hP w (fun b o q => nomatch q) post (s.trans s1) (p.trans p1) k1 e
end
end Fu

set_option maxHeartbeats 4000000
namespace Fu
open PySem PySem.Spec PyProof.Rows L2 RZ

/-! ### defs -/
def initS (n : Nat) (ds : List D) : List (Option R) := ds.map (fun d => some (.dat d)) ++ List.replicate (n - ds.length) none
/-- a def's value by data -/
def mF (n : Nat) (g : Sx → Option Out) : List D → Option D := fun ds => (g ⟨initS n ds, []⟩).bind fun o => match o with
  | .nx _ => some .none
  | .rt d _ => some d
  | _ => none
/-- .. where the first argument is a list that it writes -/
def mIO (n : Nat) (g : Sx → Option Out) : List D → List D → Option (D × List D) := fun cs ds => (g ⟨some (.own 0) :: initS (n - 1) ds, [some (.lst cs)]⟩).bind fun o => match o with
  | .nx S => (cellOf S 0).bind fun c => some (.none, c)
  | .rt d S => (cellOf S 0).bind fun c => some (d, c)
  | _ => none
theorem initS_in {n : Nat} {ds : List D} {i : Nat} {r : R} (h : (initS n ds)[i]? = some (some r)) : ∃ d, ds[i]? = some d ∧ r = .dat d := by
  unfold initS at h
  by_cases hi : i < ds.length
  · rw [List.getElem?_append_left (by simpa using hi), List.getElem?_map] at h
    obtain ⟨d', e1, e2⟩ := Option.map_eq_some_iff.mp h
    cases e2
    exact ⟨d', e1, rfl⟩
  · rw [List.getElem?_append_right (by simp; omega)] at h
    have := List.mem_of_getElem? h
    rw [List.mem_replicate] at this
    exact nomatch this.2
theorem start_at {N : List Str} {vs : List V} {i : Nat} {v : V} (h : vs[i]? = some v) : (L2.start N vs)[i]? = some (some v) := by
  unfold L2.start
  rw [List.getElem?_append_left (by rw [List.length_map]; exact (List.getElem?_eq_some_iff.mp h).1), List.getElem?_map, h]
  rfl
theorem start_dat {K : PySem.W.Frag} {H : Hp} {N : List Str} {vs : List V} {ds : List D} (r : Rps K H vs ds) (hl : vs.length ≤ N.length) {H' : Hp} (s : Sub H H') : Ok K [] H H' ⟨initS N.length ds, []⟩ (L2.start N vs) := by
  refine ⟨s, ?_, rfl, List.nodup_nil, fun i q h => ?_, fun j c h => by simp at h, fun a h => by simp at h⟩
  · simp [initS, L2.start, r.length]
  · obtain ⟨d, e1, rfl⟩ := initS_in h
    obtain ⟨v, ev, rv⟩ := r.get e1
    exact ⟨v, start_at ev, .dat rv⟩
section
variable {P : Program} {w : World} {K : PySem.W.Frag} {mg : Str → Option Value} {base : Heap} {x qual : Str} {st : Stmt} {f : Addr} {fd : FuncData} {N ps : List Str} {k n : Nat} {g : Sx → Option Out}
abbrev AnyB : Hp → Prop := fun _ => True
/-- the context of the def's body -/
abbrev cxF (P : Program) (w : World) (K : PySem.W.Frag) (mg : Str → Option Value) (base : Heap) (N : List Str) (qual : Str) (st : Stmt) (f : Addr) (cdv : Value) (A : Around) (outer : List Env) (s : Shared) (H : Hp) (E : XK) : Cx := (cxOf CX0 P w K mg base N qual (defScope st) f cdv A outer s H E).nox
theorem fn_pure (F : Fun K x qual st f fd) (S : FnScope N ps (defScope st)) (hn : ps.length = n) (hN : n ≤ N.length)
    (body : ∀ (cdv : Value) (A : Around) (outer : List Env) (s : Shared) (H : Hp) (E : XK), Room k (A.deeper (envOfC qual (defScope st) s.heap.objs.size f cdv)) → GSs (cxF P w K mg base N qual st f cdv A outer s H E) AnyB (defBody st) g) :
    FnOk P w K mg base CX0 (k + 1) f fd ps (spF K n (mF N.length g)) := by
  refine F.ok S (spF_len hn) fun cdv A outer s H vs Q E hr h => ?_
  obtain ⟨ds, z, hd, r, e, post⟩ := h
  obtain ⟨t, p, rd⟩ := (body cdv A outer s H E hr).ex
  refine ⟨t, p, ?_⟩
  obtain ⟨o, e1, e⟩ := bind_inv e
  have hl : vs.length ≤ N.length := by rw [r.length, hd]; exact hN
  refine rd H [] [] H H _ (L2.start N vs) o _ trivial (Same.refl H) (List.prefix_refl _) (start_dat r hl (Sub.refl H)) e1 ?_
  cases o with
  | nx S => cases e; exact fun A1 F1 H1 σ1 s1 p1 k1 => post H1 .non (s1.trans k1.sub.same) .non
  | rt d S => cases e; exact fun A1 F1 H1 σ1 v s1 p1 k1 rv => post H1 v (s1.trans k1.sub.same) (rv.mono k1.sub.same _ _)
  | bk S => cases e
  | ct S => cases e
  | ro j S => cases e
theorem start_own {K : PySem.W.Frag} {F : Hp} {N : List Str} {a : Addr} {xs vs : List V} {cs ds : List D} (fa : F a = none) (rc : Rps K F xs cs) (hz : cs.length ≤ sizeLine) (r : Rps K F vs ds) (hl : vs.length + 1 ≤ N.length) :
    Ok K [a] F (upd F a (.lst xs)) ⟨some (.own 0) :: initS (N.length - 1) ds, [some (.lst cs)]⟩ (L2.start N (.ref a :: vs)) := by
  obtain ⟨m, M, rfl⟩ : ∃ m M, N = m :: M := by
    cases N with
    | nil => simp at hl
    | cons m M => exact ⟨m, M, rfl⟩
  have hl' : vs.length ≤ M.length := by simpa using hl
  have k := start_dat (N := M) r hl' (sub_one fa (o := .lst xs) trivial)
  have es : L2.start (m :: M) (.ref a :: vs) = some (.ref a) :: L2.start M vs := by
    unfold L2.start
    simp
  rw [es]
  simp only [List.length_cons, Nat.add_sub_cancel]
  refine ⟨k.sub, by simpa using k.len, rfl, by simp, fun i r h => ?_, fun j c h => ?_, fun b h => ?_⟩
  · cases i with
    | zero =>
      simp at h
      subst h
      exact ⟨_, rfl, .own rfl⟩
    | succ i =>
      obtain ⟨v, e1, r1⟩ := k.rslot i r (by simpa using h)
      exact ⟨v, by simpa using e1, r1.mono (List.nil_prefix) (Same.refl _) _ _⟩
  · cases j with
    | zero =>
      simp at h
      subst h
      exact ⟨a, rfl, fa, xs, upd_same, rc, hz⟩
    | succ j => simp at h
  · simp at h
    subst h
    exact ⟨_, upd_same⟩
theorem fn_io (F : Fun K x qual st f fd) (S : FnScope N ps (defScope st)) (hn : ps.length = n + 1) (hN : n + 1 ≤ N.length)
    (body : ∀ (cdv : Value) (A : Around) (outer : List Env) (s : Shared) (H : Hp) (E : XK), Room k (A.deeper (envOfC qual (defScope st) s.heap.objs.size f cdv)) → GSs (cxF P w K mg base N qual st f cdv A outer s H E) AnyB (defBody st) g) :
    FnOk P w K mg base CX0 (k + 1) f fd ps (spIO K n (mIO N.length g)) := by
  refine F.ok S (spIO_len hn) fun cdv A outer s H vs Q E hr h => ?_
  obtain ⟨a, xs, rest, F0, cs, ds, r, cs', rfl, fa, rfl, hz, rc, rr, hd, e, post⟩ := h
  obtain ⟨t, p, rd⟩ := (body cdv A outer s _ E hr).ex
  refine ⟨t, p, ?_⟩
  obtain ⟨o, e1, e⟩ := bind_inv e
  have hl : rest.length + 1 ≤ N.length := by rw [rr.length, hd]; exact hN
  have fin : ∀ (A1 : List Addr) (F1 H1 : Hp) (σ1 : L2.St) (S1 : Sx) (v : V) (d : D) (c : List D), Same F0 F1 → [a] <+: A1 → Ok K A1 F1 H1 S1 σ1 → Rp K F1 v d → cellOf S1 0 = some c → (d, c) = (r, cs') → Q v H1 := by
    intro A1 F1 H1 σ1 S1 v d c s1 p1 k1 rv hc ee
    cases ee
    have ha : A1[0]? = some a := prefix_at p1 rfl
    obtain ⟨us, ec, fa1, hv, rc1, hz1⟩ := cell_at k1 hc ha
    have s2 : Same F1 (fun b => if b = a then none else H1 b) := fun b o q => by
      show (if b = a then none else H1 b) = some o
      rw [if_neg (ne_of_none q fa1)]
      exact k1.sub.same b o q
    have := post (fun b => if b = a then none else H1 b) us v (s1.trans s2) (if_pos rfl) (Rps.mono s2 _ _ rc1) hz1 (rv.mono s2 _ _)
    rwa [show upd (fun b => if b = a then none else H1 b) a (.lst us) = H1 from ?_] at this
    funext b
    by_cases hb : b = a
    · subst hb; rw [upd_same, hv]
    · rw [upd_ne hb]; exact if_neg hb
  refine rd F0 [a] [a] F0 _ _ _ o _ trivial (Same.refl F0) (List.prefix_refl _) (start_own fa rc hz rr hl) e1 ?_
  cases o with
  | nx S =>
    obtain ⟨c, hc, e⟩ := bind_inv e
    exact fun A1 F1 H1 σ1 s1 p1 k1 => fin A1 F1 H1 σ1 S .non .none c s1 p1 k1 .non hc (by cases e; rfl)
  | rt d S =>
    obtain ⟨c, hc, e⟩ := bind_inv e
    exact fun A1 F1 H1 σ1 v s1 p1 k1 rv => fin A1 F1 H1 σ1 S v d c s1 p1 k1 rv hc (by cases e; rfl)
  | bk S => cases e
  | ct S => cases e
  | ro j S => cases e
end
theorem hu65 {A : Around} {k : Nat} (hr : Room k A) : A.units + 65 < cLine := by have := hr.un; omega


/-! ### defs that hand back a new list -/
/-- the heap without the list at a -/
def lessH (H : Hp) (a : Addr) : Hp := fun b => if b = a then none else H b
theorem less_upd {H : Hp} {a : Addr} {o : HO} (h : H a = some o) : upd (lessH H a) a o = H := by
  funext b
  by_cases hb : b = a
  · subst hb; rw [upd_same, h]
  · rw [upd_ne hb]; exact if_neg hb
theorem less_same {K : PySem.W.Frag} {A : List Addr} {F H : Hp} {S : Sx} {σ : L2.St} (k : Ok K A F H S σ) {a : Addr} (fa : F a = none) : Same F (lessH H a) := fun b o q => by
  show (if b = a then none else H b) = some o
  rw [if_neg (ne_of_none q fa)]
  exact k.sub.same b o q
section
variable {P : Program} {w : World} {K : PySem.W.Frag} {mg : Str → Option Value} {base : Heap} {x qual : Str} {st : Stmt} {f : Addr} {fd : FuncData} {N ps : List Str} {k n : Nat} {g : Sx → Option Out}
end
/-! ### the script -/
section
variable {X : Cx} {pos p p2 py : Pos} {y : Str} {lo hi : Option Expr} {gl gh : M (Option Int)}
def scrOf (S : Sx) (i : Nat) : Option (List Int) := match S.sl[i]? with
  | some (some (.scr ns)) => some ns
  | _ => none
theorem scr_at {K : PySem.W.Frag} {A : List Addr} {F H : Hp} {S : Sx} {σ : L2.St} {i : Nat} {ns : List Int} (k : Ok K A F H S σ) (h : scrOf S i = some ns) : ns.length ≤ 63 ∧ ∃ a, σ[i]? = some (some (.ref a)) ∧ SqL K F a (ns.map V.int) := by
  unfold scrOf at h
  split at h
  · rename_i ns' e
    cases h
    exact k.sslot i _ e
  · cases h
def gScrSl (i : Nat) (gl gh : M (Option Int)) : M D := fun S => (scrOf S i).bind fun ns => (gl S).bind fun q => (gh q.2).bind fun r => some (.list ((cutL ns q.1 r.1).map .int), r.2)
theorem cut_map {α β : Type} (f : α → β) (xs : List α) (lo hi : Option Int) : cutL (xs.map f) lo hi = (cutL xs lo hi).map f := by
  unfold cutL
  rw [List.length_map, List.map_take, List.map_drop]
theorem e_scrSl (i : Nat) (hl : GO X lo gl) (hh : GO X hi gh) (hN : X.N[i]? = some y := by rfl) (hv : Vis X.env.scope y := by first | exact Or.inl rfl | exact Or.inr (Or.inl rfl) | exact Or.inr (Or.inr rfl)) (hdy : (y == ("__debug__" : Str)) = false := by decide) (hcd : (y == ("__classdict__" : Str)) = false := by decide) :
    GE X (.Subscript (.Name y py) (.Slice lo hi none p2) pos) (gScrSl i gl gh) := by
  obtain ⟨_, pl, rl⟩ := hl.ex
  obtain ⟨_, ph, rh⟩ := hh.ex
  refine ⟨_, pe_slice sl_list (pe_var hN hv hdy hcd) pl ph, fun A F H S σ d S' Q k e post => ?_⟩
  obtain ⟨ns, e0, e⟩ := bind_inv e
  obtain ⟨⟨l, S2⟩, h2, e⟩ := bind_inv e
  obtain ⟨⟨u, S3⟩, h3, e⟩ := bind_inv e
  cases e
  obtain ⟨hz, a, ev, hs⟩ := scr_at k e0
  refine ⟨_, ev, rl A F H S σ l _ _ k h2 fun A2 F2 H2 p2 s2 k2 => rh A2 F2 H2 _ σ u _ _ k2 h3 fun A3 F3 H3 p3 s3 k3 => ⟨a, _, rfl, k3.sub.same.seq (s3.seq (s2.seq hs)), fun p hp => ?_⟩⟩
  have e2 : cutV (ns.map V.int) l u = (cutL ns l u).map V.int := cut_map V.int ns l u
  rw [e2]
  obtain ⟨s4, k4, r4⟩ := k3.newList hp (Rps.ints (cutL ns l u)) (by
    rw [List.length_map]
    have h1 := cutL_le ns l u
    have h2 : (63 : Nat) ≤ sizeLine := by decide
    omega)
  exact post A3 _ _ _ (p2.trans p3) (s2.trans (s3.trans s4)) k4 r4
def gScrLen (i : Nat) : M D := fun S => (scrOf S i).bind fun ns => some (.int ns.length, S)
theorem e_scrLen (i : Nat) (hm : X.mg "len" = none) (hN : X.N[i]? = some y := by rfl) (hv : Vis X.env.scope y := by first | exact Or.inl rfl | exact Or.inr (Or.inl rfl) | exact Or.inr (Or.inr rfl)) (hdy : (y == ("__debug__" : Str)) = false := by decide) (hcd : (y == ("__classdict__" : Str)) = false := by decide)
    (hg : Gl X "len" := by rfl) (he : starEach [.Name y py] X.env = (false, eval (.Name y py) X.env) :: starEach [] X.env := by rfl) : GE X (.Call (.Name "len" p) [.Name y py] [] pos) (gScrLen i) := by
  refine ⟨_, pe_callB call_len hg hm PySem.boot_len (pa_cons (pe_var hN hv hdy hcd) pa_nil he) (by decide) (by decide) he (by rfl), fun A F H S σ d S' Q k h post => ?_⟩
  obtain ⟨ns, e0, h⟩ := bind_inv h
  cases h
  obtain ⟨hz, a, ev, hs⟩ := scr_at k e0
  exact ⟨_, ev, _, _, rfl, .inl ⟨_, k.sub.same.seq hs, (List.length_map _).symm⟩, post A F H _ (List.prefix_refl _) (Same.refl F) k (.int _)⟩
end
/-- a def of the script that hands back a new list -/
def spScrN (K : PySem.W.Frag) (f : List Int → Option (List D)) : Sp := fun vs H Q _ => ∃ a ns zs, vs = [.ref a] ∧ SqL K H a (ns.map V.int) ∧ ns.length ≤ 63 ∧ f ns = some zs ∧
  ∀ F p us, Same H F → F p = none → Rps K F us zs → zs.length ≤ sizeLine → Q (.ref p) (upd F p (.lst us))
def mScrN (n : Nat) (g : Sx → Option Out) : List Int → Option (List D) := fun ns => (g ⟨some (.scr ns) :: List.replicate (n - 1) none, []⟩).bind fun o => match o with
  | .ro j S => cellOf S j
  | _ => none
/-- the law: True -/
def mScr (n : Nat) (g : Sx → Option Out) : List Int → Option D := fun ns => (g ⟨some (.scr ns) :: List.replicate (n - 1) none, []⟩).bind fun o => match o with
  | .rt d _ => some d
  | _ => none
/-- nothing that is written stands there -/
def NoLst (B : Hp) : Prop := ∀ b xs, B b ≠ some (.lst xs)
def spLaw (K : PySem.W.Frag) (f : List Int → Option D) : Sp := fun vs H Q _ => ∃ a ns, vs = [.ref a] ∧ SqL K H a (ns.map V.int) ∧ ns.length ≤ 63 ∧ NoLst H ∧ f ns = some (.bool true) ∧ ∀ H', Q (.bl true) H'
theorem start_scr {K : PySem.W.Frag} {H : Hp} {N : List Str} {a : Addr} {ns : List Int} (h : SqL K H a (ns.map V.int)) (hz : ns.length ≤ 63) (hN : 1 ≤ N.length) : Ok K [] H H ⟨some (.scr ns) :: List.replicate (N.length - 1) none, []⟩ (L2.start N [.ref a]) := by
  refine ⟨Sub.refl H, ?_, rfl, List.nodup_nil, fun i r e => ?_, fun j c e => by simp at e, fun b e => by simp at e⟩
  · simp [L2.start]
  · cases i with
    | zero =>
      simp at e
      subst e
      exact ⟨_, rfl, .scr hz h⟩
    | succ i =>
      have := List.mem_of_getElem? (show (List.replicate (N.length - 1) (none : Option R))[i]? = some (some r) by simpa using e)
      rw [List.mem_replicate] at this
      exact nomatch this.2
section
variable {P : Program} {w : World} {K : PySem.W.Frag} {mg : Str → Option Value} {base : Heap} {x qual : Str} {st : Stmt} {f : Addr} {fd : FuncData} {N ps : List Str} {k n : Nat} {g : Sx → Option Out}
theorem fn_scrN (F : Fun K x qual st f fd) (S : FnScope N ps (defScope st)) (hn : ps.length = 1) (hN : 1 ≤ N.length)
    (body : ∀ (cdv : Value) (A : Around) (outer : List Env) (s : Shared) (H : Hp) (E : XK), Room k (A.deeper (envOfC qual (defScope st) s.heap.objs.size f cdv)) → GSs (cxF P w K mg base N qual st f cdv A outer s H E) AnyB (defBody st) g) :
    FnOk P w K mg base CX0 (k + 1) f fd ps (spScrN K (mScrN N.length g)) := by
  refine F.ok S (fun vs H Q E h => by obtain ⟨a, ns, zs, rfl, _⟩ := h; exact hn.symm) fun cdv A outer s H vs Q E hr h => ?_
  obtain ⟨a, ns, zs, rfl, hs, hz, e, post⟩ := h
  obtain ⟨t, p, rd⟩ := (body cdv A outer s H E hr).ex
  refine ⟨t, p, ?_⟩
  obtain ⟨o, e1, e⟩ := bind_inv e
  refine rd H [] [] H H _ _ o _ trivial (Same.refl H) (List.prefix_refl _) (start_scr hs hz hN) e1 ?_
  cases o with
  | nx S => cases e
  | rt d S => cases e
  | bk S => cases e
  | ct S => cases e
  | ro j S =>
    intro A1 F1 H1 σ1 a s1 p1 k1 ha
    obtain ⟨us, ec, fa, hv, rc, hz⟩ := cell_at k1 e ha
    have := post (lessH H1 a) a us (s1.trans (less_same k1 fa)) (if_pos rfl) (Rps.mono (less_same k1 fa) _ _ rc) hz
    rwa [less_upd hv] at this
theorem fn_law {Pb : Hp → Prop} (hPb : ∀ B, NoLst B → Pb B) (F : Fun K x qual st f fd) (S : FnScope N ps (defScope st)) (hn : ps.length = 1) (hN : 1 ≤ N.length)
    (body : ∀ (cdv : Value) (A : Around) (outer : List Env) (s : Shared) (H : Hp) (E : XK), Room k (A.deeper (envOfC qual (defScope st) s.heap.objs.size f cdv)) → GSs (cxF P w K mg base N qual st f cdv A outer s H E) Pb (defBody st) g) :
    FnOk P w K mg base CX0 (k + 1) f fd ps (spLaw K (mScr N.length g)) := by
  refine F.ok S (fun vs H Q E h => by obtain ⟨a, ns, rfl, _⟩ := h; exact hn.symm) fun cdv A outer s H vs Q E hr h => ?_
  obtain ⟨a, ns, rfl, hs, hz, hB, e, post⟩ := h
  obtain ⟨t, p, rd⟩ := (body cdv A outer s H E hr).ex
  refine ⟨t, p, ?_⟩
  obtain ⟨o, e1, e⟩ := bind_inv e
  refine rd H [] [] H H _ _ o _ (hPb H hB) (Same.refl H) (List.prefix_refl _) (start_scr hs hz hN) e1 ?_
  cases o with
  | nx S => cases e
  | rt d S =>
    cases e
    intro A1 F1 H1 σ1 v s1 p1 k1 rv
    cases rv
    exact post H1
  | bk S => cases e
  | ct S => cases e
  | ro j S => cases e
end

/-! ### a def by its name -/
def Has (P : Program) (w : World) (K : PySem.W.Frag) (mg : Str → Option Value) (base : Heap) (x : Str) (k : Nat) (ps : List Str) (sp : Sp) : Prop :=
  ∃ f fd, mg x = some (.ref f) ∧ PySem.W.keepIn K (.ref f) = true ∧ L2.Binds K fd ps [] ∧ FnOk P w K mg base CX0 k f fd ps sp
def DefAt (K : PySem.W.Frag) (mg : Str → Option Value) (x : Str) (st : Stmt) (ps : List Str) : Prop := ∃ f fd, mg x = some (.ref f) ∧ Fun K x x st f fd ∧ L2.Binds K fd ps []
section
variable {P : Program} {w : World} {K : PySem.W.Frag} {mg : Str → Option Value} {base : Heap} {x : Str} {st : Stmt} {N ps : List Str} {k n : Nat} {g : Sx → Option Out}
abbrev Body (P : Program) (w : World) (K : PySem.W.Frag) (mg : Str → Option Value) (base : Heap) (N : List Str) (x : Str) (st : Stmt) (k : Nat) (Pb : Hp → Prop) (g : Sx → Option Out) : Prop :=
  ∀ (f : Addr) (cdv : Value) (A : Around) (outer : List Env) (s : Shared) (H : Hp) (E : XK), Room k (A.deeper (envOfC x (defScope st) s.heap.objs.size f cdv)) → GSs (cxF P w K mg base N x st f cdv A outer s H E) Pb (defBody st) g
theorem has_pure (D : DefAt K mg x st ps) (S : FnScope N ps (defScope st)) (hn : ps.length = n) (hN : n ≤ N.length) (body : Body P w K mg base N x st k AnyB g) : Has P w K mg base x (k + 1) ps (spF K n (mF N.length g)) :=
  let ⟨f, fd, m, F, b⟩ := D; ⟨f, fd, m, F.kp, b, fn_pure F S hn hN (body f)⟩
theorem has_io (D : DefAt K mg x st ps) (S : FnScope N ps (defScope st)) (hn : ps.length = n + 1) (hN : n + 1 ≤ N.length) (body : Body P w K mg base N x st k AnyB g) : Has P w K mg base x (k + 1) ps (spIO K n (mIO N.length g)) :=
  let ⟨f, fd, m, F, b⟩ := D; ⟨f, fd, m, F.kp, b, fn_io F S hn hN (body f)⟩
theorem has_scrN (D : DefAt K mg x st ps) (S : FnScope N ps (defScope st)) (hn : ps.length = 1) (hN : 1 ≤ N.length) (body : Body P w K mg base N x st k AnyB g) : Has P w K mg base x (k + 1) ps (spScrN K (mScrN N.length g)) :=
  let ⟨f, fd, m, F, b⟩ := D; ⟨f, fd, m, F.kp, b, fn_scrN F S hn hN (body f)⟩
end
section
variable {X : Cx} {pos p p2 py : Pos} {x y : Str} {e : Expr} {es : List Expr} {gs : M (List D)} {k n : Nat} {ps : List Str}
theorem e_callH {f : List D → Option D} (h : Has X.prog X.w X.K X.mg X.base x k ps (spF X.K n f)) (hr : Room k X.A) (ha : GA X (e :: es) gs) (hg : Gl X x := by rfl) (hdb : (x == ("__debug__" : Str)) = false := by decide)
    (he : starEach (e :: es) X.env = (false, eval e X.env) :: starEach es X.env := by rfl) (hpl : (backTo pos (starEach es X.env)).any (·.1) = false := by rfl) : GE X (.Call (.Name x p) (e :: es) [] pos) (gCallF n f gs) :=
  let ⟨fa, fd, m, kp, b, F⟩ := h; e_call F hr m kp b pass0 ha hg hdb he hpl
theorem e_callHIO {f : List D → List D → Option (D × List D)} (i : Nat) (h : Has X.prog X.w X.K X.mg X.base x k ps (spIO X.K n f)) (hr : Room k X.A) (ha : GA X es gs)
    (hN : X.N[i]? = some y := by rfl) (hv : Vis X.env.scope y := by first | exact Or.inl rfl | exact Or.inr (Or.inl rfl) | exact Or.inr (Or.inr rfl)) (hdy : (y == ("__debug__" : Str)) = false := by decide) (hcd : (y == ("__classdict__" : Str)) = false := by decide)
    (hg : Gl X x := by rfl) (hdb : (x == ("__debug__" : Str)) = false := by decide) (he : starEach (.Name y py :: es) X.env = (false, eval (.Name y py) X.env) :: starEach es X.env := by rfl) (hpl : (backTo pos (starEach es X.env)).any (·.1) = false := by rfl) :
    GE X (.Call (.Name x p) (.Name y py :: es) [] pos) (gIO i n f gs) :=
  let ⟨fa, fd, m, kp, b, F⟩ := h; e_callIO i F hr m kp b pass0 ha hN hv hdy hcd hg hdb he hpl
theorem mix_new {F1 H1 F' : Hp} {p : Addr} {o : HO} (hp : mixH F1 H1 (upd F' p o) p = some o) (hn : F' p = none) : mixH F1 H1 (upd F' p o) = upd (mixH F1 H1 F') p o := by
  funext b
  by_cases hb : b = p
  · subst hb; rw [upd_same, hp]
  · rw [upd_ne hb]
    unfold mixH
    rw [upd_ne hb]
def gCallScr (i : Nat) (f : List Int → Option (List D)) : M D := fun S => (scrOf S i).bind fun ns => (f ns).bind fun z => some (.list z, S)
theorem n_callScr {f : List Int → Option (List D)} (i : Nat) (h : Has X.prog X.w X.K X.mg X.base x k ps (spScrN X.K f)) (hr : Room k X.A)
    (hN : X.N[i]? = some y := by rfl) (hv : Vis X.env.scope y := by first | exact Or.inl rfl | exact Or.inr (Or.inl rfl) | exact Or.inr (Or.inr rfl)) (hdy : (y == ("__debug__" : Str)) = false := by decide) (hcd : (y == ("__classdict__" : Str)) = false := by decide)
    (hg : Gl X x := by rfl) (hdb : (x == ("__debug__" : Str)) = false := by decide) (he : starEach [.Name y py] X.env = (false, eval (.Name y py) X.env) :: starEach [] X.env := by rfl) : GN X (.Call (.Name x p) [.Name y py] [] pos) (gCallScr i f) := by
  obtain ⟨fa, fd, m, kp, b, F⟩ := h
  refine ⟨_, pe_callF F hr hg m kp b .nil pass0 (pa_cons (pe_var hN hv hdy hcd) pa_nil he) hdb he (by rfl), fun A F H S σ d S' Q k h post => ?_⟩
  obtain ⟨ns, h1, h⟩ := bind_inv h
  obtain ⟨z, h2, h⟩ := bind_inv h
  cases h
  obtain ⟨hz, a, ev, hs⟩ := scr_at k h1
  refine ⟨_, ev, F, k.sub, a, ns, z, by rfl, hs, hz, h2, fun F' L us sm hL ru hz => ⟨fun b xs q => by
      rw [upd_ne (ne_of_none (sm b _ q) hL)]; exact sm b _ q, fun lost => ?_⟩⟩
  have lostF : ∀ b o, H b = some o → F b = none → F' b = none := fun b o ho hf => by
    have := lost b o ho hf
    by_cases hb : b = L
    · subst hb; exact hL
    · rwa [upd_ne hb] at this
  have hLH : H L = none := by
    cases q : H L with
    | none => rfl
    | some u =>
      cases q2 : F L with
      | none => have := lost L u q q2; rw [upd_same] at this; cases this
      | some v => rw [sm L v q2] at hL; cases hL
  rw [mix_new (by rw [mix_free hLH, upd_same]) hL]
  exact post A F' _ L us z (List.prefix_refl _) sm (k.mix sm lostF) (by rw [mix_free hLH]; exact hL) rfl ru hz
theorem e_gintE {i : Int} (hm : ∃ t, X.mg x = some (.int i t)) (hg : Gl X x := by rfl) (hd : (x == ("__debug__" : Str)) = false := by decide) : GE X (.Name x pos) (gC (.int i)) := let ⟨_, m⟩ := hm; e_gint m hg hd
theorem e_gstrE {z : Str} (hm : ∃ t, X.mg x = some (.str z t)) (hg : Gl X x := by rfl) (hz : z.length ≤ sizeLine := by decide) (hd : (x == ("__debug__" : Str)) = false := by decide) : GE X (.Name x pos) (gC (.str z)) := let ⟨_, m⟩ := hm; e_gstr m hg hz hd
end
end Fu

set_option maxHeartbeats 4000000
namespace Fu
open PySem PySem.Spec PyProof.Rows L2 RZ

section
variable {K : PySem.W.Frag} {F H : Hp}
end

/-! ### sorted(xs) of data -/
/-! ### max(xs), min(xs) of data -/
/-! ### sum(xs) of ints -/
section
variable {X : Cx} {pos p p2 : Pos} {e : Expr} {es : List Expr} {gs : M (List D)} {k : Nat}
end
end Fu

set_option maxHeartbeats 4000000
namespace Fu
open PySem PySem.Spec PyProof.Rows L2
/-! ### list(range(..)), xs[::-1], len(set(ints)) -/
section
variable {X : Cx} {pos p p2 p3 p4 : Pos} {a b e e2 : Expr} {ga gb ge ge2 : M D}
def gListRng1 (g : M D) : M D := fun S => (g S).bind fun q => match q.1 with
  | .int j => if -4611686018427387904 ≤ j ∧ j ≤ 16777216 then some (.list (rng 0 j.toNat), q.2) else none
  | _ => none
/-- how many unlike ones -/
def unlike (ns : List Int) : Nat := (PyProof.Rows.firstMet (fun i => ns.getD i 0) ns.length).length
end
end Fu

set_option maxHeartbeats 4000000
namespace Fu
open PySem PySem.Spec PyProof.Rows L2
/-! ### promises of functions that may ask what is being shown: with no show under way around them -/
structure FnG (P : Program) (w : World) (K : PySem.W.Frag) (mg : Str → Option Value) (base : Heap) (k : Nat) (fa : Addr) (fd : FuncData) (ps : List Str) (sp : Sp) : Prop where
  len : ∀ vs H Q E, sp vs H Q E → vs.length = ps.length
  go : ∀ (A : Around) (out : List Env) (t : Shared) (H : Hp) (ar : Args) (us : List Value) (vs : List V) (Q : VK) (E : XK), Room k A → A.guards = some [] → Env0 P w K mg base A out t H → BindsTo t fd ar (ps.zip us) → Vals vs us → sp vs H Q E →
    codeAny (model P w) A (.call (.ref fa) ar) (CR CX0 out P w H t Q E) t
section
variable {P : Program} {w : World} {K : PySem.W.Frag} {mg : Str → Option Value} {base : Heap} {x qual : Str} {st : Stmt} {f : Addr} {fd : FuncData} {N ps : List Str} {k n : Nat} {sp : Sp}
theorem FnG.of (F : FnOk P w K mg base CX0 k f fd ps sp) : FnG P w K mg base k f fd ps sp := ⟨F.len, fun A out t H ar us vs Q E hr _ => F.run A out t H ar us vs Q E hr⟩
end
section
variable {X : Cx} {k : Nat} {f : Addr} {fd : FuncData} {ps : List Str} {sp : Sp} {E : XK} {x : Str} {p pos : Pos} {e : Expr} {es : List Expr} {t : TA}
end
/-! ### the law's call, from such a promise -/
end Fu

set_option maxHeartbeats 4000000
namespace Fu
open PySem PySem.Spec PyProof.Rows L2
/-! ### defs whose promise wants that no show is under way -/
section
variable {P : Program} {w : World} {K : PySem.W.Frag} {mg : Str → Option Value} {base : Heap} {x qual : Str} {st : Stmt} {f : Addr} {fd : FuncData} {N ps : List Str} {k n : Nat} {g : Sx → Option Out}
end
section
variable {X : Cx} {pos p p2 : Pos} {x : Str} {e : Expr} {es : List Expr} {gs : M (List D)} {f : List D → Option D} {k n : Nat} {fa : Addr} {fd : FuncData} {ps : List Str} {E : XK}
end
section
variable {P : Program} {w : World} {K : PySem.W.Frag} {mg : Str → Option Value} {base : Heap} {x : Str} {st : Stmt} {N ps : List Str} {k n : Nat} {g : Sx → Option Out}
end
section
variable {X : Cx} {pos p p2 py : Pos} {x y : Str} {e : Expr} {es : List Expr} {gs : M (List D)} {k n : Nat} {ps : List Str}
end
end Fu

set_option maxHeartbeats 4000000
namespace Fu
open PySem PySem.Spec PyProof.Rows L2
/-! ### repr of lists and tuples -/
def showOk (d : D) : Bool := d.showable && !d.hasDict && d.canLay0 && decide (d.depth ≤ 60) && decide (d.shown.length ≤ 16777216)
section
variable {X : Cx} {pos p p2 : Pos} {e : Expr} {es : List Expr} {gs : M (List D)} {k : Nat}
end
end Fu

set_option maxHeartbeats 4000000
namespace Fu
open PySem PySem.Spec PyProof.Rows L2
/-! ### a < b < c, list + list as a new list -/
section
variable {X : Cx} {pos p p2 : Pos} {a b c e : Expr} {ga gb gc : M D} {op op' : CmpOp}
end
end Fu

set_option maxHeartbeats 4000000
namespace Fu
open PySem PySem.Spec PyProof.Rows L2
/-! ### xs.count(x), slices as new lists -/
section
variable {X : Cx} {pos p p2 apos : Pos} {a b e o : Expr} {ga gb ge go : M D} {k : Nat} {gl gh : M (Option Int)} {lo hi : Option Expr}
end
end Fu

set_option maxHeartbeats 4000000
namespace Fu
open PySem PySem.Spec PyProof.Rows L2
/-! ### an item of an own list as a target among others -/
section
variable {X : Cx} {pos p p2 py : Pos} {y : Str} {b : Expr} {gb : M D} {tgt : List Nat}
end
end Fu

set_option maxHeartbeats 4000000
namespace Fu
open PySem PySem.Spec PyProof.Rows L2
/-! ### a def that calls itself, where it may go no deeper: nothing is promised -/
section
variable {P : Program} {w : World} {K : PySem.W.Frag} {mg : Str → Option Value} {base : Heap} {x : Str} {st : Stmt} {ps : List Str} {k n : Nat}
end
end Fu

set_option maxHeartbeats 4000000
namespace Fu
open PySem PySem.Spec PyProof.Rows L2 RZ
/-! ### slices of a list that is written: the list stays one's own -/
section
variable {X : Cx} {P : Hp → Prop} {pos py p p2 p3 p4 apos : Pos} {x y : Str} {a b c d e : Expr} {es : List Expr} {ga gb gc gd ge : M D} {gs : M (List D)} {lo hi : Option Expr} {gl gh : M (Option Int)}
/-! ### xs += e, a list that is written -/
/-! ### the script: walked, as a list -/
/-! ### enumerate(xs) -/
/-! ### a < b <= c < d -/
end
end Fu

set_option maxHeartbeats 4000000
namespace Fu
open PySem PySem.Spec PyProof.Rows L2 RZ
section
variable {X : Cx} {P : Hp → Prop} {pos py p p2 p3 p4 apos : Pos} {x y : Str} {a b c d e e2 e3 o : Expr} {es : List Expr} {ga gb gc gd ge go g2 : M D} {gs : M (List D)} {k : Nat}
/-! ### xs[::c], c is 1 or -1 -/
/-! ### xs.index(x) -/
/-! ### max(a, b, c) -/
end
end Fu

set_option maxHeartbeats 4000000
namespace Fu
open PySem PySem.Spec PyProof.Rows L2 RZ
/-! ### calls that look at lists of one's own: they stay one's own, the answer holds no list -/
section
variable {X : Cx} {pos py p p2 : Pos} {x y : Str} {e : Expr} {es : List Expr} {ge : M D} {gs : M (List D)} {k n : Nat} {ps : List Str}
end
end Fu

set_option maxHeartbeats 4000000
namespace Fu
open PySem PySem.Spec PyProof.Rows L2 RZ
/-! ### looks: an expression that writes nothing sees one's own lists as data; they stay one's own -/
def mapO {α β : Type} (f : α → Option β) : List α → Option (List β)
  | [] => some []
  | x :: xs => (f x).bind fun y => (mapO f xs).map fun ys => y :: ys
def snapR (os : List (Option Cell)) : Nat → R → Option D
  | 0, .dat d => some d
  | 0, _ => none
  | _ + 1, .dat d => some d
  | _ + 1, .scr _ => none
  | _ + 1, .exc _ => none
  | n + 1, .tup rs => (mapO (snapR os n) rs).map .tuple
  | n + 1, .own j => match os[j]? with
    | some (some (.lst ds)) => some (.list ds)
    | some (some (.lR rs)) => (mapO (snapR os n) rs).map .list
    | _ => none
def sealS (os : List (Option Cell)) : Option R → Option R
  | some (.scr ns) => some (.scr ns)
  | some (.exc c) => some (.exc c)
  | some r => (snapR os 8 r).map .dat
  | none => none
def sealAll (S : Sx) : Sx := ⟨S.sl.map (sealS S.os), S.os.map fun _ => none⟩
section
variable {K : PySem.W.Frag} {A : List Addr} {F H H' : Hp} {S : Sx} {σ : L2.St}
end
section
variable {X : Cx} {e : Expr} {g : M D} {gt : M Bool}
end
end Fu

set_option maxHeartbeats 4000000
namespace L2
open PySem PySem.Spec PyProof.Rows
open Fu (XO)
/-! ### an exception that is looked at behind its suite: it is tracked from the suite's end on -/
section
variable {X : Cx} {pins : List (Addr × Obj)} {σ : St} {H : Hp} {s : Shared}
/-- an object that came to stand since the frame began, and that nobody tracks, is tracked -/
theorem adopt {a : Addr} {cls : Value} {o : Obj} {fs : Array Value} (I : Inv X pins σ H s) (na : H a = none) (ha : s.heap.get? a = some o) (hz : Zc cls none o) (hf : o.data = .fields fs) (h0 : X.s_0.heap.get? a = none) (nL : a ≠ X.env.locals)
    (hp : ∀ p ∈ X.pn ++ pins, p.1 ≠ a) : Inv X pins σ (upd H a (XO cls a)) s := by
  have ne : ∀ b u, H b = some u → b ≠ a := fun b u e z => by rw [z, na] at e; cases e
  have ne0 : ∀ b u, X.s_0.heap.get? b = some u → b ≠ a := fun b u e z => by rw [z, h0] at e; cases e
  have nc : ∀ x c, X.env.cells.lookup x = some c → c ≠ a := fun x c e z => by
    obtain ⟨v, o', ho', hd'⟩ := I.cell x c e
    rw [z, ha] at ho'; cases ho'
    rw [hf] at hd'; cases hd'
  refine ⟨I.ok, I.os, I.bare, ⟨I.base.keep, I.base.slot, fun b u e n hx => ?_, I.base.there, fun b xs e => ?_, fun b u xs e => ?_, fun b ps e => ?_⟩, I.loc, I.cell, ?_, fun x c e => ?_, fun p hm => ?_, fun b u e => ?_, I.len⟩
  · rw [upd_ne (ne0 b u e)]; exact I.base.free b u e n hx
  · have := I.base.tups b xs e
    rw [upd_ne (ne b _ this)]; exact this
  · have := I.base.frzs b u xs e
    rw [upd_ne (ne b _ this)]; exact this
  · obtain ⟨more, q⟩ := I.base.tbls b ps e
    exact ⟨more, by rw [upd_ne (ne b _ q)]; exact q⟩
  · rw [upd_ne (Ne.symm nL)]; exact I.free
  · rw [upd_ne (nc x c e)]; exact I.freeC x c e
  · obtain ⟨k1, k2, k3, k4, k5⟩ := I.pin p hm
    exact ⟨k1, by rw [upd_ne (hp p hm)]; exact k2, k3, k4, k5⟩
  · by_cases hb : b = a
    · subst hb
      rw [upd_same] at e
      cases e
      exact ⟨⟨o, fs, ha, hz, hf⟩, ⟨o, ha⟩, fun _ _ ⟨o', f', q, r⟩ k => ⟨o', f', k o' q, r⟩⟩
    · rw [upd_ne hb] at e
      exact (I.hok b u e).stay (fun _ _ _ q => q) (fun c q => by rw [upd_ne (ne c _ q)]; exact q) (fun c xs q => by rw [upd_ne (ne c _ q)]; exact q)
end
section
variable {X : Cx} {x n : Str} {c : Value} {i : Nat} {body suite : List Stmt} {b0 : Stmt} {np p1 p2 : Pos} {tb : WX → TS} {ts : Addr → Value → TS} {Wout : WX}
end
end L2

set_option maxHeartbeats 4000000
namespace L2
open PySem PySem.Spec PyProof.Rows
open Fu (Sub lpins forget remember lost_of mixH loose_there mix_held mix_free)
section
variable {X : Cx} {k : Nat} {f : Addr} {fd : FuncData} {ps : List Str} {sp : Sp} {W : WX} {x : Str} {p pos : Pos} {e : Expr} {es : List Expr} {t : TA}
end
end L2

set_option maxHeartbeats 4000000
namespace Fu
open PySem PySem.Spec PyProof.Rows L2 RZ
/-! ### what may raise: mirrored with its refusals -/
def ClsD (K : PySem.W.Frag) (c : Str) (D : Addr) : Prop := PySem.W.nsIn K mainGlobals c = some (some (.ref D))
abbrev Zr (α : Type) := Except (Str × Sx) α
def ZErr (K : PySem.W.Frag) (W : WX) (A : List Addr) (F : Hp) (e : Str × Sx) : Prop := ∀ A' F' H' σ' D, A <+: A' → Same F F' → Ok K A' F' H' e.2 σ' → ClsD K e.1 D → W (.ref D) none σ' H'
theorem ZErr.mono {K : PySem.W.Frag} {W : WX} {A A1 : List Addr} {F F1 : Hp} {e : Str × Sx} (p : A <+: A1) (s : Same F F1) (h : ZErr K W A F e) : ZErr K W A1 F1 e := fun A' F' H' σ' D p' s' k c => h A' F' H' σ' D (p.trans p') (s.trans s') k c
section
variable {X : Cx} {W : WX} {pos p p2 : Pos} {x : Str} {e : Expr} {es : List Expr} {gs : M (List D)} {k n : Nat} {ps : List Str}
end
/-! ### statements that may raise -/
section
variable {X : Cx} {P : Hp → Prop} {W : WX} {st : Stmt} {sts : List Stmt} {g h : Sx → Option (Zr Out)} {e : Expr} {ge : Sx → Option (Zr (D × Sx))} {pos : Pos}
end
/-! ### a def that may raise -/
section
variable {P : Program} {w : World} {K : PySem.W.Frag} {mg : Str → Option Value} {base : Heap} {x qual : Str} {st : Stmt} {f : Addr} {fd : FuncData} {N ps : List Str} {k n : Nat} {g : Sx → Option (Zr Out)}
end
end Fu

set_option maxHeartbeats 4000000
namespace L2
open PySem PySem.Spec PyProof.Rows
open Fu (XO)
end L2
namespace Fu
open PySem PySem.Spec PyProof.Rows L2 RZ
/-! ### an exception in a slot -/
/-- what an exception of the class c is, seen by cv -/
def ExcIs (K : PySem.W.Frag) (c : Str) (cv : Value) (b : Bool) : Prop := ∀ D, ClsD K c D → ExcC K D ∧ PySem.W.kitOne K (.ref D) cv = some b
section
variable {X : Cx} {pos p p2 p3 : Pos} {y x : Str} {k : Nat}
end
/-! ### a def of one exception -/
section
variable {P : Program} {w : World} {K : PySem.W.Frag} {mg : Str → Option Value} {base : Heap} {x qual : Str} {st : Stmt} {f : Addr} {fd : FuncData} {N ps : List Str} {k n : Nat} {g : Sx → Option Out}
end
section
variable {X : Cx} {pos p py : Pos} {x y : Str} {k : Nat} {ps : List Str}
end
/-! ### try: .. except C as n: y = n -/
section
variable {X : Cx} {P : Hp → Prop} {body : List Stmt} {g : Sx → Option (Zr Out)} {pos p p1 p2 p3 p4 p5 : Pos} {x n y : Str} {W : WX}
end
end Fu

set_option maxHeartbeats 4000000
namespace Fu
open PySem PySem.Spec PyProof.Rows L2 RZ
/-! ### the facts of the classes -/
theorem cls_same {K : PySem.W.Frag} {c : Str} {f D : Addr} (a : PySem.W.nsIn K mainGlobals c = some (some (.ref f))) (d : ClsD K c D) : D = f := by
  unfold ClsD at d
  rw [a] at d
  cases d; rfl
theorem ExcIs.mk {K : PySem.W.Frag} {c : Str} {f : Addr} {cv : Value} {b b' : Bool} (a : PySem.W.nsIn K mainGlobals c = some (some (.ref f))) (e : ExcC K f) (k : PySem.W.kitOne K (.ref f) cv = some b') (h : b' = b) : ExcIs K c cv b := fun D d => by
  cases cls_same a d
  exact ⟨e, h ▸ k⟩
theorem sub_self {K : PySem.W.Frag} {C : Addr} {bm : List Value} {n : String} (x : PySem.W.excIn K C bm n = true) : PySem.W.subIn K (.ref C) (.ref C) = some true := by
  unfold PySem.W.excIn at x
  split at x
  · rename_i dict cd sl e
    split at x
    · rename_i C' bm' h1 h2 h3 n' h4 em _
      simp only [Bool.and_eq_true, beq_iff_eq] at x
      obtain ⟨⟨⟨⟨⟨rfl, _⟩, _⟩, _⟩, _⟩, _⟩ := x
      simp only [PySem.W.subIn, PySem.W.mroIn, PySem.W.clsIn, e, Option.bind_some, em]
      simp
    · cases x
  · cases x
section
variable {X : Cx} {pos p p2 p3 p1 p4 p5 : Pos} {y x n : Str} {P : Hp → Prop} {body : List Stmt} {g : Sx → Option (Zr Out)}
end
end Fu

set_option maxHeartbeats 4000000
namespace L2
open PySem PySem.Spec PyProof.Rows
open Fu (XO)
end L2
namespace Fu
open PySem PySem.Spec PyProof.Rows L2 RZ
/-! ### looks by many classes at once -/
section
variable {X : Cx} {pos p p2 p3 p4 : Pos} {y x : Str} {es : List Expr} {cs : List Str} {b b2 : Str → Bool}
end
/-! ### two new lists at once -/
section
variable {X : Cx} {P : Hp → Prop} {pos py : Pos} {x y : Str} {a b : Expr} {ga gb ge : M D}
end
/-! ### more of what may raise -/
section
variable {X : Cx} {W : WX} {pos p : Pos} {x : Str} {e : Expr} {es : List Expr} {id : String} {k : Nat}
end
end Fu

set_option maxHeartbeats 4000000
namespace L2
open PySem PySem.Spec PyProof.Rows
open Fu (dictO)
/-! ### {t: v}, t a tuple of ints and texts: a dict, what it holds is not told -/
end L2
namespace Fu
open PySem PySem.Spec PyProof.Rows L2 RZ
section
variable {X : Cx} {pos : Pos} {e v : Expr} {ge gv : M D} {k : Nat}
end
end Fu

set_option maxHeartbeats 4000000
namespace Fu
open PySem PySem.Spec PyProof.Rows L2
section
variable {X : Cx} {pos apos p p2 sp c0 c1 : Pos} {a e o : Expr} {ga ge go : M D} {k : Nat} {y z : Str} {i : Int} {j j0 j1 : Nat}
/-! ### line[2].replace("b", "a"): the index gives out a token -/
/-! ### letters.index(sign) of a text -/
def dSIndex : D → D → Option D
  | .str a, .str b => (Builtin.Str.occurrences a b 0 a.length 1).head?.map fun i : Nat => PyData.int (i : Int)
  | _, _ => none
theorem e_sindex (ho : GE X o go) (he : GE X e ge) (hbase : attributeBase o "index" X.env (eval o X.env) = eval o X.env := by rfl)
    (hfew : ((backTo pos (starEach [e] X.env)).all (fun x => !x.1) && (backToKw pos (keywordEach [] X.env)).all (fun x => x.1.isSome) && decide (([e] : List Expr).length + ([] : List Keyword).length + (if ([] : List Keyword).isEmpty then 0 else 1) < 30)) = true := by rfl)
    (hline : (apos.endLine == pos.line) = true := by rfl) (hst : starEach [e] X.env = (false, eval e X.env) :: starEach [] X.env := by rfl) : GE X (.Call (.Attribute o "index" apos) [e] [] pos) (gBin dSIndex go ge) := by
  obtain ⟨_, po, ro⟩ := ho.ex
  obtain ⟨_, pe, re⟩ := he.ex
  refine ⟨_, pe_bm PySem.F.plainAttrs_str PySem.F.slot_str_index PySem.F.type_str_index mt_sindex po (pa_cons pe pa_nil hst) hbase hfew hline hst (by rfl), fun A F H S σ z S' Q k h post => ?_⟩
  obtain ⟨⟨x, S1⟩, h1, h⟩ := bind_inv h
  obtain ⟨⟨y, S2⟩, h2, h⟩ := bind_inv h
  obtain ⟨w, h3, h⟩ := bind_inv h
  cases h
  obtain ⟨a, rfl⟩ : ∃ a, x = .str a := by
    cases x <;> simp only [dSIndex] at h3 <;> first | cases h3 | exact ⟨_, rfl⟩
  obtain ⟨b, rfl⟩ : ∃ b, y = .str b := by
    cases y <;> simp only [dSIndex] at h3 <;> first | cases h3 | exact ⟨_, rfl⟩
  simp only [dSIndex] at h3
  · obtain ⟨i, hi, rfl⟩ := Option.map_eq_some_iff.mp h3
    obtain ⟨rest, hr⟩ : ∃ rest, Builtin.Str.occurrences a b 0 a.length 1 = i :: rest := by
      cases hq : Builtin.Str.occurrences a b 0 a.length 1 with
      | nil => rw [hq] at hi; cases hi
      | cons c rest => rw [hq] at hi; cases hi; exact ⟨_, rfl⟩
    refine ro A F H S σ _ _ _ k h1 fun A1 F1 H1 v p1 s1 k1 r1 => ?_
    obtain ⟨rfl, _⟩ := rp_str_inv r1
    refine ⟨rfl, re A1 F1 H1 _ σ _ _ _ k1 h2 fun A2 F2 H2 v2 p2 s2 k2 r2 => ?_⟩
    obtain ⟨rfl, _⟩ := rp_str_inv r2
    exact ⟨a, b, i, rest, rfl, rfl, hr, post A2 F2 H2 _ (p1.trans p2) (s1.trans s2) k2 (.int _)⟩
end
end Fu

set_option maxHeartbeats 4000000
namespace PySem
open Sem (wp)
set_option maxHeartbeats 4000000 in
section
variable {prog : Program} {w : World} {A : Around} {E : Value → Shared → Prop} {s : Shared}
end
end PySem
namespace L2
open PySem PySem.Spec PyProof.Rows
end L2
namespace Fu
open PySem PySem.Spec PyProof.Rows L2
section
variable {X : Cx} {p pos : Pos} {e : Expr} {gs : M (List D)}
end
end Fu

set_option maxHeartbeats 4000000
namespace Fu
open PySem PySem.Spec PyProof.Rows L2
/-! ### set & set -/
section
variable {P : Program} {w : World} {A : Around} {E : Value → Shared → Prop} {s : Shared}
end
end Fu

set_option maxHeartbeats 4000000
namespace Fu
open PySem PySem.Spec PyProof.Rows L2
section
variable {P : Program} {w : World} {A : Around} {E : Value → Shared → Prop} {s : Shared}
end
/-! ### tracked sets of whole numbers -/
section
variable {X : Cx} {pos p p1 p2 p3 p4 p5 p6 p7 : Pos} {e e2 : Expr} {ge ge2 : M D}
section
variable {k : Nat} (hr : Room k X.A) (m1 : X.mg "set" = none) (ha : GE X e ge) (hb : GE X e2 ge2)
include hr m1 ha hb in
include hr m1 ha hb in
end
end
end Fu

set_option maxHeartbeats 4000000
namespace Fu
open PySem PySem.Spec PyProof.Rows L2
section
variable {X : Cx} {pos apos p p2 : Pos} {a e o : Expr} {es : List Expr} {ga ge go : M D} {gs : M (List D)}
/-! ### str(n), int(text) -/
def numS (i : Int) : Str := toString i
def dStrI : List D → Option D
  | [.int i] => if i.natAbs.log2 < 1920 ∧ (numS i).length ≤ sizeLine then some (.str (numS i)) else none
  | _ => none
theorem rd_strI {K : PySem.W.Frag} : RdC K (fun xs H Q => ∃ i, xs = [.int i] ∧ i.natAbs.log2 < 1920 ∧ Q (.str (toString i)) H) dStrI := by
  intro A F H S σ xs ds z Q k r h post
  unfold dStrI at h
  split at h
  · split at h
    · rename_i hz
      cases h
      obtain ⟨v, rfl, rv⟩ := rps1 r
      cases rp_int_inv rv
      exact ⟨_, rfl, hz.1, post F H _ (Same.refl F) k (.str hz.2)⟩
    · cases h
  · cases h
theorem e_strI (hm : X.mg "str" = none) (ha : GA X [e] gs) (hg : Gl X "str" := by rfl) (he : starEach [e] X.env = (false, eval e X.env) :: starEach [] X.env := by rfl) : GE X (.Call (.Name "str" p) [e] [] pos) (gCall dStrI gs) :=
  e_callTy call_str_int rd_strI hm (by decide +kernel) ha hg (he := he) (hpl := by rfl)
def dIntT : List D → Option D
  | [.str x] => if x.length ≤ 640 then (PySem.intText? x).map PyData.int else none
  | _ => none
theorem rd_intT {K : PySem.W.Frag} : RdC K (fun xs H Q => ∃ a n, xs = [.str a] ∧ PySem.intText? a = some n ∧ a.length ≤ 640 ∧ Q (.int n) H) dIntT := by
  intro A F H S σ xs ds z Q k r h post
  unfold dIntT at h
  split at h
  · split at h
    · rename_i hz
      obtain ⟨n, hn, rfl⟩ := Option.map_eq_some_iff.mp h
      obtain ⟨v, rfl, rv⟩ := rps1 r
      obtain ⟨rfl, _⟩ := rp_str_inv rv
      exact ⟨_, n, rfl, hn, hz, post F H _ (Same.refl F) k (.int _)⟩
    · cases h
  · cases h
theorem e_intT (hm : X.mg "int" = none) (ha : GA X [e] gs) (hg : Gl X "int" := by rfl) (he : starEach [e] X.env = (false, eval e X.env) :: starEach [] X.env := by rfl) : GE X (.Call (.Name "int" p) [e] [] pos) (gCall dIntT gs) :=
  e_callTy call_int_str rd_intT hm (by decide +kernel) ha hg (he := he) (hpl := by rfl)
/-! ### split, partition, join -/
theorem rps_strs {K : PySem.W.Frag} {F : Hp} : ∀ {ys : List Str}, (∀ y ∈ ys, y.length ≤ sizeLine) → Rps K F (ys.map V.str) (ys.map PyData.str)
  | [], _ => .nil
  | y :: ys, h => .cons (.str (h y (List.mem_cons_self ..))) (rps_strs fun z hz => h z (List.mem_cons_of_mem _ hz))
theorem strs_rps {K : PySem.W.Frag} {F : Hp} : ∀ {ys : List Str} {vs : List V}, Rps K F vs (ys.map PyData.str) → vs = ys.map V.str
  | [], _, h => by cases h; rfl
  | y :: ys, _, h => by
    cases h with
    | cons h1 h2 => rw [(rp_str_inv h1).1, strs_rps h2]; rfl
def allStrs : List D → Option (List Str)
  | [] => some []
  | .str b :: ds => (allStrs ds).bind fun bs => some (b :: bs)
  | _ => none
theorem allStrs_map : ∀ {ds : List D} {bs : List Str}, allStrs ds = some bs → ds = bs.map .str
  | [], _, h => by cases h; rfl
  | .str b :: ds, _, h => by
    obtain ⟨bs, h1, h2⟩ := bind_inv h
    cases h2
    rw [List.map_cons, allStrs_map h1]
  | .none :: _, _, h => by simp [allStrs] at h
  | .int _ :: _, _, h => by simp [allStrs] at h
  | .bool _ :: _, _, h => by simp [allStrs] at h
  | .list _ :: _, _, h => by simp [allStrs] at h
  | .tuple _ :: _, _, h => by simp [allStrs] at h
  | .dict _ :: _, _, h => by simp [allStrs] at h
theorem allStrs_of : ∀ bs : List Str, allStrs (bs.map .str) = some bs
  | [] => rfl
  | b :: bs => by
    show (allStrs (bs.map .str)).bind _ = _
    rw [allStrs_of bs]; rfl
def dSplit : D → D → Option D
  | .str a, .str b => if ((b.length == 0) = false ∧ a.length + 2 ≤ sizeLine) ∧ (∀ y ∈ Txt.split a b, y.length ≤ sizeLine) ∧ (Txt.split a b).length ≤ sizeLine then some (.list ((Txt.split a b).map .str)) else none
  | _, _ => none
def dPart : D → D → Option D
  | .str a, .str b => if ((b.length == 0) = false ∧ a.length ≤ sizeLine) ∧ (Txt.partition a b).1.length ≤ sizeLine ∧ (Txt.partition a b).2.1.length ≤ sizeLine ∧ (Txt.partition a b).2.2.length ≤ sizeLine then
      some (.tuple [.str (Txt.partition a b).1, .str (Txt.partition a b).2.1, .str (Txt.partition a b).2.2]) else none
  | _, _ => none
def dJoin : D → D → Option D
  | .str a, .list xs => (allStrs xs).bind fun ys => if (ys.map (·.length)).sum + ys.length * a.length ≤ 16777216 ∧ (Txt.join a ys).length ≤ sizeLine then some (.str (Txt.join a ys)) else none
  | _, _ => none
theorem n_split (ho : GE X o go) (he : GE X e ge) (hs : starEach [e] X.env = [(false, eval e X.env)] := by rfl) (hbase : attributeBase o "split" X.env (eval o X.env) = eval o X.env := by rfl) (hline : (apos.endLine == pos.line) = true := by rfl) :
    GN X (.Call (.Attribute o "split" apos) [e] [] pos) (gBin dSplit go ge) := by
  obtain ⟨_, po, ro⟩ := ho.ex
  obtain ⟨_, pe, re⟩ := he.ex
  refine ⟨_, pe_split po pe hs hbase hline, fun A F H S σ z S' Q k h post => ?_⟩
  obtain ⟨⟨x, S1⟩, h1, h⟩ := bind_inv h
  obtain ⟨⟨y, S2⟩, h2, h⟩ := bind_inv h
  obtain ⟨w, h3, h⟩ := bind_inv h
  cases h
  obtain ⟨a, rfl⟩ : ∃ a, x = .str a := by
    cases x <;> simp only [dSplit] at h3 <;> first | cases h3 | exact ⟨_, rfl⟩
  obtain ⟨b, rfl⟩ : ∃ b, y = .str b := by
    cases y <;> simp only [dSplit] at h3 <;> first | cases h3 | exact ⟨_, rfl⟩
  simp only [dSplit] at h3
  split at h3
  · rename_i hz
    cases h3
    refine ro A F H S σ _ _ _ k h1 fun A1 F1 H1 v p1 s1 k1 r1 => ?_
    obtain ⟨rfl, _⟩ := rp_str_inv r1
    refine ⟨⟨_, rfl⟩, re A1 F1 H1 _ σ _ _ _ k1 h2 fun A2 F2 H2 v2 p2 s2 k2 r2 => ?_⟩
    obtain ⟨rfl, _⟩ := rp_str_inv r2
    exact ⟨a, b, rfl, rfl, hz.1.1, hz.1.2, fun l hl => post A2 F2 H2 l _ _ (p1.trans p2) (s1.trans s2) k2 hl rfl (rps_strs hz.2.1) (by rw [List.length_map]; exact hz.2.2)⟩
  · cases h3
theorem e_part (ho : GE X o go) (he : GE X e ge) (hs : starEach [e] X.env = [(false, eval e X.env)] := by rfl) (hbase : attributeBase o "partition" X.env (eval o X.env) = eval o X.env := by rfl) (hline : (apos.endLine == pos.line) = true := by rfl) :
    GE X (.Call (.Attribute o "partition" apos) [e] [] pos) (gBin dPart go ge) := by
  obtain ⟨_, po, ro⟩ := ho.ex
  obtain ⟨_, pe, re⟩ := he.ex
  refine ⟨_, pe_partition po pe hs hbase hline, fun A F H S σ z S' Q k h post => ?_⟩
  obtain ⟨⟨x, S1⟩, h1, h⟩ := bind_inv h
  obtain ⟨⟨y, S2⟩, h2, h⟩ := bind_inv h
  obtain ⟨w, h3, h⟩ := bind_inv h
  cases h
  obtain ⟨a, rfl⟩ : ∃ a, x = .str a := by
    cases x <;> simp only [dPart] at h3 <;> first | cases h3 | exact ⟨_, rfl⟩
  obtain ⟨b, rfl⟩ : ∃ b, y = .str b := by
    cases y <;> simp only [dPart] at h3 <;> first | cases h3 | exact ⟨_, rfl⟩
  simp only [dPart] at h3
  split at h3
  · rename_i hz
    cases h3
    refine ro A F H S σ _ _ _ k h1 fun A1 F1 H1 v p1 s1 k1 r1 => ?_
    obtain ⟨rfl, _⟩ := rp_str_inv r1
    refine ⟨⟨_, rfl⟩, re A1 F1 H1 _ σ _ _ _ k1 h2 fun A2 F2 H2 v2 p2 s2 k2 r2 => ?_⟩
    obtain ⟨rfl, _⟩ := rp_str_inv r2
    refine ⟨a, b, rfl, rfl, hz.1.1, hz.1.2, fun l hl => ?_⟩
    obtain ⟨s3, k3, r3⟩ := k2.newTup hl (.cons (.str hz.2.1) (.cons (.str hz.2.2.1) (.cons (.str hz.2.2.2) .nil))) (by show 3 ≤ sizeLine; decide)
    exact post A2 _ _ _ (p1.trans p2) (s1.trans (s2.trans s3)) k3 r3
  · cases h3
theorem e_join (ho : GE X o go) (he : GE X e ge) (hs : starEach [e] X.env = [(false, eval e X.env)] := by rfl) (hbase : attributeBase o "join" X.env (eval o X.env) = eval o X.env := by rfl) (hline : (apos.endLine == pos.line) = true := by rfl) :
    GE X (.Call (.Attribute o "join" apos) [e] [] pos) (gBin dJoin go ge) := by
  obtain ⟨_, po, ro⟩ := ho.ex
  obtain ⟨_, pe, re⟩ := he.ex
  refine ⟨_, pe_join po pe hs hbase hline, fun A F H S σ z S' Q k h post => ?_⟩
  obtain ⟨⟨x, S1⟩, h1, h⟩ := bind_inv h
  obtain ⟨⟨y, S2⟩, h2, h⟩ := bind_inv h
  obtain ⟨w, h3, h⟩ := bind_inv h
  cases h
  obtain ⟨a, rfl⟩ : ∃ a, x = .str a := by
    cases x <;> simp only [dJoin] at h3 <;> first | cases h3 | exact ⟨_, rfl⟩
  obtain ⟨xs, rfl⟩ : ∃ b, y = .list b := by
    cases y <;> simp only [dJoin] at h3 <;> first | cases h3 | exact ⟨_, rfl⟩
  simp only [dJoin] at h3
  obtain ⟨ys, hy, h3⟩ := bind_inv h3
  split at h3
  · rename_i hz
    cases h3
    have hy := allStrs_map hy
    subst hy
    refine ro A F H S σ _ _ _ k h1 fun A1 F1 H1 v p1 s1 k1 r1 => ?_
    obtain ⟨rfl, _⟩ := rp_str_inv r1
    refine ⟨⟨_, rfl⟩, re A1 F1 H1 _ σ _ _ _ k1 h2 fun A2 F2 H2 v2 p2 s2 k2 r2 => ?_⟩
    obtain ⟨l, vs, rfl, g1, g2, g3⟩ := rp_list_inv r2
    rw [strs_rps g2] at g1
    exact ⟨a, l, ys, rfl, rfl, .inl (SqL.of (k2.sub.same _ _ g1)), hz.1, post A2 F2 H2 _ (p1.trans p2) (s1.trans s2) k2 (.str hz.2)⟩
  · cases h3
end

/-! ### head, *rest = a list -/
theorem walks_behind {prog : Program} {w : World} {A : Around} {I : Addr} {fp wr : List Addr} {G : Array GenState → Array GenState → Prop} {n : Nat} {P : Nat → Value → Prop} {St : Nat → Shared → Prop}
    (W : WalksS prog w A I fp wr G (n + 1) P St) : WalksS prog w A I fp wr G n (fun i => P (i + 1)) (fun i => St (i + 1)) where
  sub := W.sub
  grefl := W.grefl
  gtrans := W.gtrans
  frame := fun i s h' tk st ht k => W.frame (i + 1) s h' tk st ht k
  item := fun i s Q E hi st q => W.item (i + 1) s Q E (by omega) st q
  done := fun s Q E st q => W.done s Q E st q
  self := fun i s Q E st q => W.self (i + 1) s Q E st q
section
variable {prog : Program} {w : World} {A : Around} {E : Value → Shared → Prop} {s : Shared}
theorem itemsOf_at {xs : List Value} {x : Value} {acc : Array Value} (h : ItemsOf (fun i v => (x :: xs).toArray[i + 1]? = some v) acc xs.length) : acc.toList = xs := by
  apply List.ext_getElem?
  intro j
  obtain ⟨hn, hP⟩ := h
  by_cases hj : j < acc.size
  · have e : acc[j]? = some acc[j] := by simp [hj]
    have := hP j _ e
    rw [Array.getElem?_toList, e]
    simpa using this.symm
  · rw [Array.getElem?_toList, Array.getElem?_eq_none (by omega), List.getElem?_eq_none (by omega)]
theorem unpackItems_star1 {l : Addr} {x : Value} {xs : List Value} {Q : List Value → Shared → Prop} (hh : A.handled = none) (hl : s.heap.IsList l (x :: xs).toArray) (hz : xs.length ≤ sizeLine)
    (hQ : ∀ (h' : Heap) (tk : Nat), (∀ b o, s.heap.get? b = some o → h'.get? b = some o) → s.toks ≤ tk →
      Q [x, .ref h'.objs.size] { s with heap := h'.push { cls := .type "list", data := .seq xs.toArray }, toks := tk }) :
    wpAny (model prog w) A (unpackItems (.ref l) 2 (some 1)) Q E s := by
  have hlt : l < s.heap.objs.size := by obtain ⟨_, e, _⟩ := hl; exact Heap.lt_size e
  have W0 := (Walks.list (prog := prog) (w := w) (A := A.in1) hh s.heap.objs.size l (Nat.ne_of_lt hlt) (x :: xs).toArray).toS
  have W : WalksS prog w A.in1 s.heap.objs.size [s.heap.objs.size, l] [s.heap.objs.size] (fun a b => b = a) (xs.length + 1) (fun i v => (x :: xs).toArray[i]? = some v) (fun i s' => s'.heap.IsListIter s.heap.objs.size l i ∧ s'.heap.IsList l (x :: xs).toArray) := by
    simpa using W0
  unfold unpackItems
  refine wpAny_bind ?_
  unfold notIterableAtAll
  refine wpAny_bind (wpAny_specialOf hl.typeIs slot_list_iter.lookup ?_)
  refine wpAny_pure ?_
  simp only [Bool.false_eq_true, if_false]
  refine wpAny_bind (wpAny_holding (wpAny_pyIter_list hl ?_))
  have st : ({ s with heap := s.heap.push { cls := .type "list_iterator", data := .fields #[.ref l, .int 0 0] } } : Shared).heap.IsListIter s.heap.objs.size l 0 ∧ (s.heap.push { cls := .type "list_iterator", data := .fields #[.ref l, .int 0 0] }).IsList l (x :: xs).toArray :=
    ⟨⟨_, Heap.get?_push_size _ rfl, rfl, rfl⟩, hl.push _⟩
  refine wpAny_bind (wpAny_holding ?_)
  show wpAny _ _ (pyNext (.ref s.heap.objs.size) >>= _) _ _ _
  refine wpAny_bind (W.of_in1.item 0 _ _ _ (Nat.succ_pos _) st fun v s1 hv st1 mv1 => ?_)
  have hv : x = v := by simpa using hv
  subst hv
  refine wpAny_bind (wpAny_holding (wpAny_pure ?_))
  refine wpAny_pure ?_
  rw [if_neg (by simp)]
  have kp1 : ∀ b o, s.heap.get? b = some o → s1.heap.get? b = some o := fun b o e => mv1.heap b o (by simp; exact Nat.ne_of_lt (Heap.lt_size e)) (Heap.get?_push_of_some _ e)
  have sz : s.heap.objs.size < s1.heap.objs.size := by obtain ⟨_, e, _⟩ := st1.1; exact Heap.lt_size e
  refine wpAny_bind (wpAny_holding (wpAny_collect_iter (.inr (.inr (.inl rfl))) (walks_behind W) (fun _ _ z => z.1.typeIs) st1 (fun b hb => ?_) (by simp) (fun s2 acc mv2 hi => ?_) hz))
  · rcases List.mem_cons.mp hb with rfl | hb
    · exact sz
    · rw [List.mem_singleton.mp hb]; exact Nat.lt_trans hlt sz
  rw [itemsOf_at hi]
  have kp2 : ∀ b o, s.heap.get? b = some o → s2.heap.get? b = some o := fun b o e => mv2.heap b o (by simp; exact Nat.ne_of_lt (Heap.lt_size e)) (kp1 b o e)
  have eq : s2 = { s with heap := s2.heap, toks := s2.toks } := (Moved.eq_with mv2).trans (by rw [Moved.eq_with mv1])
  rw [if_neg (by simp)]
  refine wpAny_bind ?_
  simp only [newList]
  refine wpAny_newObj_type ?_ (by show _ ≤ _; simp; omega)
  refine wpAny_pure ?_
  have := hQ s2.heap s2.toks kp2 (Nat.le_trans (Nat.le_trans (Nat.le_refl _) mv1.toks) mv2.toks)
  rw [eq]
  simpa using this
end
section
variable {X : Cx} {pos p : Pos} {e : Expr} {es : List Expr} {tg ts : List Nat} {g : D → Sx → Option Sx} {gs : List D → Sx → Option Sx}
/-- (a, *b) = a list, one thing at least -/
def gStar1 (K : PySem.W.Frag) (t : TGs) : TG := fun v σ H Q => ∃ a x xs, v = .ref a ∧ SqL K H a (x :: xs) ∧ ∀ l, H l = none → t [x, .ref l] σ (upd H l (.lst xs)) Q
theorem pg_star1 {es : List Expr} {k : Nat} {t : TGs} (hc : X.calm = true) (h : PGs X es t) (hn : (assignEach es X.env).length = 2 := by rfl) (hst : (assignEach es X.env).findIdx? (·.1) = some 1 := by rfl) : PG X (.Tuple es k pos) (gStar1 X.K t) := by
  refine ⟨fun pins s σ H v u Q I r hw => ?_⟩
  obtain ⟨a, x, xs, e1, hq, hw⟩ := hw
  subst e1
  cases r
  obtain ⟨its, rv, pl, hz⟩ := I.list hq
  cases rv with
  | cons rx rxs =>
    rename_i y ys
    have hl := rxs.length
    rw [assign_Tuple]
    refine wpAny_bind (wpAny_standAt ?_)
    unfold unpack
    rw [hn, hst]
    refine wpAny_bind (wpAny_holding (unpackItems_star1 (I.ok.hd hc) pl.isList (by simp only [List.length_cons] at hz; omega) fun h' tk kp ht => ?_))
    have I1 : Inv X pins σ H { s with heap := h', toks := tk } := I.kept kp
    have I2 := I1.laid (o := .lst xs) (t' := tk) (h' := h'.push { cls := .type "list", data := .seq ys.toArray }) (fun b u e => Heap.get?_push_of_some _ e) (Nat.le_refl _)
      ⟨by simp only [List.length_cons] at hz; omega, ys, _, rxs, Heap.get?_push_size _ rfl⟩
    exact h.run pins _ σ _ [x, .ref h'.objs.size] _ Q I2 (.cons rx (.cons rfl .nil)) (hw _ (I1.hok.fresh (Nat.le_refl _)))
def sStar1 (gs : List D → Sx → Option Sx) : D → Sx → Option Sx := fun d S => match d with
  | .list (d :: ds) => gs [d, .list ds] S
  | _ => none
theorem g_star1 {k} (h : GGs X ts es gs) (hc : X.calm = true := by rfl) (hn : (assignEach es X.env).length = 2 := by rfl) (hst : (assignEach es X.env).findIdx? (·.1) = some 1 := by rfl) : GG X ts (.Tuple es k pos) (sStar1 gs) := by
  obtain ⟨t, p1, r1⟩ := h.ex
  refine ⟨_, pg_star1 hc p1 hn hst, fun A F H S σ v d S' Q k r e post => ?_⟩
  unfold sStar1 at e
  split at e
  · obtain ⟨a, vs, rfl, g1, g2, g3⟩ := rp_list_inv r
    cases g2 with
    | cons ra rb =>
      refine ⟨a, _, _, rfl, SqL.of (k.sub.same _ _ g1), fun l hl => ?_⟩
      obtain ⟨s3, k3, r3⟩ := k.newList hl rb (by simp only [List.length_cons] at g3; omega)
      exact r1 A _ _ S σ _ _ S' Q k3 (.cons (ra.mono s3 _ _) (.cons r3 .nil)) e fun A' F' H' σ' q1 s4 k4 w4 => post A' F' H' σ' q1 (s3.trans s4) k4 w4
  · cases e
theorem pgs_starred {t : TG} {u : TGs} (h1 : PG X e t) (h2 : PGs X es u)
    (hs : (assignEach (.Starred e p :: es) X.env).map (·.2) = assign e X.env :: (assignEach es X.env).map (·.2) := by rfl) : PGs X (.Starred e p :: es) (L2.gCons t u) := by
  refine ⟨fun pins s σ H vs us Q I r h => ?_⟩
  obtain ⟨v, vr, e1, h⟩ := h
  subst e1
  cases r with
  | cons r rr =>
    rw [hs]
    refine assignInOrder_cons (thn (h1.run pins s σ H _ _ _ I r h) fun _ s1 ⟨σ1, H1, I1, q1⟩ => ?_)
    exact h2.run pins s1 σ1 H1 _ _ Q I1 rr q1
theorem gs_starred (h1 : GG X tg e g) (h2 : GGs X ts es gs) (hs : (assignEach (.Starred e p :: es) X.env).map (·.2) = assign e X.env :: (assignEach es X.env).map (·.2) := by rfl) : GGs X (tg ++ ts) (.Starred e p :: es) (sCons g gs) := by
  obtain ⟨t, p1, r1⟩ := h1.ex
  obtain ⟨u, p2, r2⟩ := h2.ex
  refine ⟨_, pgs_starred p1 p2 hs, fun A F H S σ vs ds S' Q k r e post => ?_⟩
  cases ds with
  | nil => cases e
  | cons d ds =>
    cases r with
    | cons ra rb =>
      obtain ⟨S1, e1, e⟩ := bind_inv e
      refine ⟨_, _, rfl, r1 A F H S σ _ d S1 _ k ra e1 fun A1 F1 H1 σ1 q1 s1 k1 w1 => r2 A1 F1 H1 S1 σ1 _ ds S' Q k1 (Rps.mono s1 _ _ rb) e fun A2 F2 H2 σ2 q2 s2 k2 w2 => ?_⟩
      exact post A2 F2 H2 σ2 (q1.trans q2) (s1.trans s2) k2 fun vs h => (w2 vs fun i hi => h i (List.mem_append_right _ hi)).trans (w1 vs fun i hi => h i (List.mem_append_left _ hi))
end
end Fu

set_option maxHeartbeats 4000000
namespace Fu
open PySem

/-! ### data: shaped, equal -/
theorem shaped_iff {d : D} : SeqAt.shaped d = true ↔ d.canLay0 = true ∧ d.depth ≤ 64 := by
  unfold SeqAt.shaped
  rw [Bool.and_eq_true, decide_eq_true_eq]
@[simp] theorem shaped_int (i : Int) : SeqAt.shaped (.int i) = true := by simp [shaped_iff, PyData.canLay0, PyData.depth]
@[simp] theorem shaped_bool (b : Bool) : SeqAt.shaped (.bool b) = true := by simp [shaped_iff, PyData.canLay0, PyData.depth]
@[simp] theorem shaped_none : SeqAt.shaped .none = true := by simp [shaped_iff, PyData.canLay0, PyData.depth]
@[simp] theorem dEq_int (a b : Int) : dEq (.int a) (.int b) = some (.bool (decide (a = b))) := by
  simp [dEq, PyData.eqv, Bool.beq_eq_decide_eq]
@[simp] theorem dNe_int (a b : Int) : dNe (.int a) (.int b) = some (.bool (!decide (a = b))) := by
  simp [dNe, PyData.eqv, Bool.beq_eq_decide_eq]
theorem dNe_self {d : D} (h : SeqAt.shaped d = true) : dNe d d = some (.bool false) := by
  unfold dNe
  rw [if_pos ⟨h, h⟩, SeqAt.eqv_refl _ (shaped_iff.mp h).1]; rfl
/-- lists (tuples) of things of one shape, their depth at most n -/
def Fine (n : Nat) (d : D) : Prop := d.canLay0 = true ∧ d.depth ≤ n
theorem Fine.mono {m n : Nat} {d : D} (h : Fine m d) (l : m ≤ n) : Fine n d := ⟨h.1, Nat.le_trans h.2 l⟩
theorem Fine.shaped {n : Nat} {d : D} (h : Fine n d) (l : n ≤ 64 := by decide) : SeqAt.shaped d = true := shaped_iff.mpr ⟨h.1, Nat.le_trans h.2 l⟩
theorem fine_all {n : Nat} : ∀ {ds : List D}, (∀ d ∈ ds, Fine n d) → PyData.canLayAll0 ds = true ∧ PyData.depthAll ds ≤ n
  | [], _ => ⟨rfl, Nat.zero_le _⟩
  | d :: ds, h => by
    obtain ⟨a, b⟩ := fine_all fun e he => h e (List.mem_cons_of_mem _ he)
    have c := h d List.mem_cons_self
    exact ⟨by simp [PyData.canLayAll0, a, c.1], by simp only [PyData.depthAll]; exact Nat.max_le.mpr ⟨c.2, b⟩⟩
theorem fine_list {n : Nat} {ds : List D} (h : ∀ d ∈ ds, Fine n d) : Fine (n + 1) (.list ds) := by
  obtain ⟨a, b⟩ := fine_all h
  exact ⟨by simpa [PyData.canLay0] using a, by simp only [PyData.depth]; omega⟩
theorem fine_tup {n : Nat} {ds : List D} (h : ∀ d ∈ ds, Fine n d) : Fine (n + 1) (.tuple ds) := by
  obtain ⟨a, b⟩ := fine_all h
  exact ⟨by simpa [PyData.canLay0] using a, by simp only [PyData.depth]; omega⟩
theorem fine_int (i : Int) : Fine 0 (.int i) := ⟨by simp [PyData.canLay0], by simp [PyData.depth]⟩
theorem fine_none : Fine 0 .none := ⟨by simp [PyData.canLay0], by simp [PyData.depth]⟩
theorem fine_str {x : Str} (h : PyData.strOk x = true) : Fine 0 (.str x) := ⟨by simpa [PyData.canLay0] using h, by simp [PyData.depth]⟩
/-- one sign -/
def ch (c : Nat) : D := .str ⟨#[c]⟩
theorem fine_ch {c : Nat} (h : c < 0x110000) : Fine 0 (ch c) := fine_str (by simp [PyData.strOk, h])
theorem ch_inj {a b : Nat} (h : ch a = ch b) : a = b := by
  unfold ch at h
  injection h with h
  injection h with h
  have := congrArg (fun z : Array Nat => z.toList) h
  simpa using this
theorem dEq_ch {a b : Nat} (ha : a < 0x110000) (hb : b < 0x110000) : dEq (ch a) (ch b) = some (.bool (decide (a = b))) := by
  unfold dEq
  rw [if_pos ⟨(fine_ch ha).shaped, (fine_ch hb).shaped⟩]
  congr 2
  unfold ch
  simp only [PyData.eqv]
  by_cases h : a = b
  · subst h; simp
  · rw [decide_eq_false h, beq_eq_false_iff_ne]
    intro e
    exact h (ch_inj (congrArg PyData.str e))
/-! ### comprehensions that change nothing else -/
theorem backS_same {old new : List (Option R)} {vs : List Nat} (h : wipeS new vs = wipeS old vs) : backS old new vs = old := by
  have hl : old.length = new.length := by
    have := congrArg List.length h
    rw [wipeS_len, wipeS_len] at this
    exact this.symm
  apply List.ext_getElem?
  intro n
  rw [backS_in hl]
  by_cases hn : n ∈ vs
  · rw [if_pos hn]
  · rw [if_neg hn]
    have := congrArg (fun l => l[n]?) h
    have h2 : (wipeS new vs)[n]? = (wipeS old vs)[n]? := this
    rwa [wipeS_out hn, wipeS_out hn] at h2
/-- the turns of a comprehension whose parts change nothing but its own names -/
theorem turns_pure {gg : D → Sx → Option Sx} {gt : M Bool} {ge : M D} {vs : List Nat} {b : D → Bool} {f : D → D} {w : List (Option R)} {os : List (Option Cell)} :
    ∀ (ds : List D) (sl : List (Option R)), wipeS sl vs = w → (∀ d ∈ ds, ∃ sl1, gg d ⟨w, os⟩ = some ⟨sl1, os⟩ ∧ wipeS sl1 vs = w ∧ gt ⟨sl1, os⟩ = some (b d, ⟨sl1, os⟩) ∧ (b d = true → ge ⟨sl1, os⟩ = some (f d, ⟨sl1, os⟩))) →
      ∃ sl', wipeS sl' vs = w ∧ gTurns gg gt ge vs ds ⟨sl, os⟩ = some ((ds.filter b).map f, ⟨sl', os⟩)
  | [], sl, e, _ => ⟨sl, e, rfl⟩
  | d :: ds, sl, e, h => by
    obtain ⟨sl1, h1, h2, h3, h4⟩ := h d List.mem_cons_self
    obtain ⟨sl', e', ih⟩ := turns_pure ds sl1 h2 fun x hx => h x (List.mem_cons_of_mem _ hx)
    refine ⟨sl', e', ?_⟩
    rw [gTurns]
    simp only [e, h1, h3, Option.bind_some]
    cases hb : b d with
    | true => simp [h4 hb, ih, hb]
    | false => simp [ih, hb]
/-! ### loops -/
theorem loop_inv {gg : D → Sx → Option Sx} {body : Sx → Option Out} (I : Nat → Sx → Prop) : ∀ (ds : List D) (n : Nat) (S : Sx), I n S → (∀ i d S, ds[i]? = some d → I (n + i) S → ∃ S1 S2, gg d S = some S1 ∧ body S1 = some (.nx S2) ∧ I (n + i + 1) S2) →
    ∃ S', gLoop gg body ds S = some (.nx S') ∧ I (n + ds.length) S'
  | [], n, S, h0, _ => ⟨S, rfl, h0⟩
  | d :: ds, n, S, h0, hs => by
    obtain ⟨S1, S2, h1, h2, h3⟩ := hs 0 d S rfl h0
    obtain ⟨S', h4, h5⟩ := loop_inv I ds (n + 1) S2 h3 fun i e T he hI => by
      have := hs (i + 1) e T (by simpa using he) (by rwa [show n + (i + 1) = n + 1 + i by omega])
      rwa [show n + (i + 1) + 1 = n + 1 + i + 1 by omega] at this
    refine ⟨S', ?_, by rwa [show n + (d :: ds).length = n + 1 + ds.length by simp; omega]⟩
    rw [gLoop]
    simp only [h1, h2, Option.bind_some]
    exact h4
theorem rng_at {lo : Int} {n i : Nat} {d : D} (h : (rng lo n)[i]? = some d) : i < n ∧ d = .int (lo + i) := by
  unfold rng at h
  rw [List.getElem?_map] at h
  obtain ⟨j, hj, rfl⟩ := Option.map_eq_some_iff.mp h
  obtain ⟨h1, h2⟩ := List.getElem?_eq_some_iff.mp hj
  simp at h1 h2
  subst h2
  exact ⟨h1, rfl⟩
theorem atI_ok {α : Type} {xs : List α} {i : Int} (h0 : 0 ≤ i) (h1 : i < xs.length) : L2.atI xs i = xs[i.toNat]? := by
  unfold L2.atI L2.ixN
  rw [if_pos h0, if_pos h1]; rfl
theorem line_eq : sizeLine = 16777216 := sizeLine_eq
end Fu

set_option maxHeartbeats 4000000
namespace Fu
open PySem

/-! ### plain data: no truth value inside; there python's equality is equality -/
mutual
def plain : D → Bool
  | .none | .int _ | .str _ => true
  | .bool _ | .dict _ => false
  | .list xs | .tuple xs => plains xs
def plains : List D → Bool
  | [] => true
  | x :: xs => plain x && plains xs
end
mutual
theorem eqv_plain : ∀ d e : D, plain d = true → plain e = true → (PyData.eqv d e = true ↔ d = e)
  | .none, e, _, h => by cases e <;> simp [PyData.eqv, plain] at h ⊢
  | .int i, e, _, h => by cases e <;> simp [PyData.eqv, plain] at h ⊢
  | .str i, e, _, h => by cases e <;> simp [PyData.eqv, plain] at h ⊢
  | .bool b, _, h, _ => by simp [plain] at h
  | .dict b, _, h, _ => by simp [plain] at h
  | .list xs, e, h1, h2 => by
    cases e with
    | list ys =>
      simp only [plain] at h1 h2
      rw [PyData.eqv, eqvs_plain xs ys h1 h2]
      exact ⟨fun h => by rw [h], fun h => by injection h⟩
    | _ => simp [PyData.eqv, plain] at h2 ⊢
  | .tuple xs, e, h1, h2 => by
    cases e with
    | tuple ys =>
      simp only [plain] at h1 h2
      rw [PyData.eqv, eqvs_plain xs ys h1 h2]
      exact ⟨fun h => by rw [h], fun h => by injection h⟩
    | _ => simp [PyData.eqv, plain] at h2 ⊢
theorem eqvs_plain : ∀ xs ys : List D, plains xs = true → plains ys = true → (PyData.eqvAll xs ys = true ↔ xs = ys)
  | [], ys, _, _ => by cases ys <;> simp [PyData.eqvAll]
  | x :: xs, [], _, _ => by simp [PyData.eqvAll]
  | x :: xs, y :: ys, h1, h2 => by
    simp only [plains, Bool.and_eq_true] at h1 h2
    rw [PyData.eqvAll, Bool.and_eq_true, eqv_plain x y h1.1 h2.1, eqvs_plain xs ys h1.2 h2.2]
    exact ⟨fun h => by rw [h.1, h.2], fun h => by injection h; exact ⟨by assumption, by assumption⟩⟩
end
theorem plains_all {xs : List D} : plains xs = true ↔ ∀ d ∈ xs, plain d = true := by
  induction xs with
  | nil => simp [plains]
  | cons x xs ih => simp [plains, ih]
/-- good data: plain, of shape, not deep -/
structure Good (n : Nat) (d : D) : Prop where
  fine : Fine n d
  plain : plain d = true
theorem Good.shaped {n : Nat} {d : D} (h : Good n d) (l : n ≤ 64 := by decide) : SeqAt.shaped d = true := h.fine.shaped l
theorem Good.mono {m n : Nat} {d : D} (h : Good m d) (l : m ≤ n) : Good n d := ⟨h.fine.mono l, h.plain⟩
theorem good_int (i : Int) : Good 0 (.int i) := ⟨fine_int i, rfl⟩
theorem good_none : Good 0 .none := ⟨fine_none, rfl⟩
theorem good_ch {c : Nat} (h : c < 0x110000) : Good 0 (ch c) := ⟨fine_ch h, rfl⟩
theorem good_list {n : Nat} {ds : List D} (h : ∀ d ∈ ds, Good n d) : Good (n + 1) (.list ds) := ⟨fine_list fun d hd => (h d hd).fine, plains_all.mpr fun d hd => (h d hd).plain⟩
theorem good_tup {n : Nat} {ds : List D} (h : ∀ d ∈ ds, Good n d) : Good (n + 1) (.tuple ds) := ⟨fine_tup fun d hd => (h d hd).fine, plains_all.mpr fun d hd => (h d hd).plain⟩
theorem good_list_le {m n : Nat} {ds : List D} (h : ∀ d ∈ ds, Good m d) (l : m + 1 ≤ n) : Good n (.list ds) := (good_list h).mono l
theorem good_tup_le {m n : Nat} {ds : List D} (h : ∀ d ∈ ds, Good m d) (l : m + 1 ≤ n) : Good n (.tuple ds) := (good_tup h).mono l
open Classical in
theorem dEq_good {m n : Nat} {d e : D} (h : Good m d) (k : Good n e) (l1 : m ≤ 64 := by decide) (l2 : n ≤ 64 := by decide) : dEq d e = some (.bool (decide (d = e))) := by
  unfold dEq
  rw [if_pos ⟨h.shaped l1, k.shaped l2⟩]
  by_cases x : d = e
  · rw [(eqv_plain d e h.plain k.plain).mpr x, decide_eq_true x]
  · rw [decide_eq_false x, Bool.eq_false_iff.mpr fun z => x ((eqv_plain d e h.plain k.plain).mp z)]
open Classical in
theorem dNe_good {m n : Nat} {d e : D} (h : Good m d) (k : Good n e) (l1 : m ≤ 64 := by decide) (l2 : n ≤ 64 := by decide) : dNe d e = some (.bool (!decide (d = e))) := by
  unfold dNe
  rw [if_pos ⟨h.shaped l1, k.shaped l2⟩]
  by_cases x : d = e
  · rw [(eqv_plain d e h.plain k.plain).mpr x, decide_eq_true x]
  · rw [decide_eq_false x, Bool.eq_false_iff.mpr fun z => x ((eqv_plain d e h.plain k.plain).mp z)]

/-! ### what a run answers, forwards -/
def Ev {α : Type} (x : Option (α × Sx)) (Q : α → Sx → Prop) : Prop := ∃ a S, x = some (a, S) ∧ Q a S
def Es (x : Option Sx) (Q : Sx → Prop) : Prop := ∃ S, x = some S ∧ Q S
def Eo (x : Option Out) (Q : Out → Prop) : Prop := ∃ o, x = some o ∧ Q o
def Ed {α : Type} (x : Option α) (Q : α → Prop) : Prop := ∃ d, x = some d ∧ Q d
theorem Ev.mono {α : Type} {x : Option (α × Sx)} {P Q : α → Sx → Prop} (h : Ev x P) (f : ∀ a S, P a S → Q a S) : Ev x Q := let ⟨a, S, e, p⟩ := h; ⟨a, S, e, f a S p⟩
theorem Eo.mono {x : Option Out} {P Q : Out → Prop} (h : Eo x P) (f : ∀ a, P a → Q a) : Eo x Q := let ⟨a, e, p⟩ := h; ⟨a, e, f a p⟩
theorem Ed.of {α : Type} {x : Option α} {d : α} {Q : α → Prop} (e : x = some d) (h : Q d) : Ed x Q := ⟨d, e, h⟩
theorem Ev.of {α : Type} {x : Option (α × Sx)} {d : α} {S : Sx} {Q : α → Sx → Prop} (e : x = some (d, S)) (h : Q d S) : Ev x Q := ⟨d, S, e, h⟩
theorem Ev.eq {α : Type} {x : Option (α × Sx)} {d : α} {S : Sx} (h : Ev x fun a T => a = d ∧ T = S) : x = some (d, S) := by
  obtain ⟨a, T, e, rfl, rfl⟩ := h; exact e
theorem Es.eq {x : Option Sx} {S : Sx} (h : Es x fun T => T = S) : x = some S := by
  obtain ⟨T, e, rfl⟩ := h; exact e
section
variable {α : Type} {S : Sx} {Q : D → Sx → Prop} {P : Bool → Sx → Prop} {L : List D → Sx → Prop} {O : Option Int → Sx → Prop} {Z : Out → Prop} {W : Sx → Prop}
theorem ev_c {d : D} (h : Q d S) : Ev (gC d S) Q := ⟨d, S, rfl, h⟩
theorem ev_var {sl : List (Option R)} {os : List (Option Cell)} {i : Nat} (h : ∃ d, sl[i]? = some (some (.dat d)) ∧ Q d ⟨sl, os⟩) : Ev (gVar i ⟨sl, os⟩) Q := by
  obtain ⟨d, e, h⟩ := h
  exact ⟨d, _, by unfold gVar; simp only [e], h⟩
theorem ev_bin {f : D → D → Option D} {ga gb : M D} (h : Ev (ga S) fun d S1 => Ev (gb S1) fun e S2 => Ed (f d e) fun z => Q z S2) : Ev (gBin f ga gb S) Q := by
  obtain ⟨d, S1, e1, e, S2, e2, z, e3, q⟩ := h
  exact ⟨z, S2, by simp only [gBin, e1, e2, e3, Option.bind_some], q⟩
theorem ev_un {f : D → Option D} {ga : M D} (h : Ev (ga S) fun d S1 => Ed (f d) fun z => Q z S1) : Ev (gUn f ga S) Q := by
  obtain ⟨d, S1, e1, z, e3, q⟩ := h
  exact ⟨z, S1, by simp only [gUn, e1, e3, Option.bind_some], q⟩
theorem ev_nil (h : L [] S) : Ev (gNil S) L := ⟨_, _, rfl, h⟩
theorem ev_cons {g : M D} {gs : M (List D)} (h : Ev (g S) fun d S1 => Ev (gs S1) fun ds S2 => L (d :: ds) S2) : Ev (gCons g gs S) L := by
  obtain ⟨d, S1, e1, e, S2, e2, q⟩ := h
  exact ⟨_, S2, by simp only [gCons, e1, e2, Option.bind_some], q⟩
theorem ev_tup {g : M (List D)} (h : Ev (g S) fun ds S1 => ds.length ≤ 16777216 ∧ Q (.tuple ds) S1) : Ev (gTup g S) Q := by
  obtain ⟨d, S1, e1, l, q⟩ := h
  exact ⟨_, S1, by simp only [gTup, e1, Option.bind_some, line_eq, if_pos l], q⟩
theorem ev_lst {g : M (List D)} (h : Ev (g S) fun ds S1 => ds.length ≤ 16777216 ∧ Q (.list ds) S1) : Ev (gLst g S) Q := by
  obtain ⟨d, S1, e1, l, q⟩ := h
  exact ⟨_, S1, by simp only [gLst, e1, Option.bind_some, line_eq, if_pos l], q⟩
theorem ev_call {f : List D → Option D} {g : M (List D)} (h : Ev (g S) fun ds S1 => Ed (f ds) fun z => Q z S1) : Ev (gCall f g S) Q := by
  obtain ⟨d, S1, e1, z, e3, q⟩ := h
  exact ⟨z, S1, by simp only [gCall, e1, e3, Option.bind_some], q⟩
theorem ev_callF {n : Nat} {f : List D → Option D} {g : M (List D)} (h : Ev (g S) fun ds S1 => ds.length = n ∧ Ed (f ds) fun z => Q z S1) : Ev (gCallF n f g S) Q := by
  obtain ⟨d, S1, e1, l, z, e3, q⟩ := h
  exact ⟨z, S1, by simp only [gCallF, e1, e3, Option.bind_some, if_pos l], q⟩
theorem ev_isi {T : String} {g : M D} (h : Ev (g S) fun d S1 => Q (.bool (isT T d)) S1) : Ev (gIsi T g S) Q := by
  obtain ⟨d, S1, e1, q⟩ := h
  exact ⟨_, S1, by simp only [gIsi, e1, Option.bind_some], q⟩
theorem ev_isi2 {T U : String} {g : M D} (h : Ev (g S) fun d S1 => Q (.bool (isT T d || isT U d)) S1) : Ev (gIsi2 T U g S) Q := by
  obtain ⟨d, S1, e1, q⟩ := h
  exact ⟨_, S1, by simp only [gIsi2, e1, Option.bind_some], q⟩
theorem ev_andV {g k : M D} (h : Ev (g S) fun d S1 => ∃ b, d = .bool b ∧ (b = true → Ev (k S1) fun e S2 => ∃ c, e = .bool c ∧ Q (.bool c) S2) ∧ (b = false → Q (.bool false) S1)) : Ev (gAndV g k S) Q := by
  obtain ⟨d, S1, e1, b, rfl, h1, h2⟩ := h
  cases b with
  | true => 
    obtain ⟨e, S2, e2, c, rfl, q⟩ := h1 rfl
    exact ⟨_, S2, by simp [gAndV, e1, e2], q⟩
  | false => exact ⟨_, S1, by simp [gAndV, e1], h2 rfl⟩
theorem ev_orV {g k : M D} (h : Ev (g S) fun d S1 => ∃ b, d = .bool b ∧ (b = false → Ev (k S1) fun e S2 => ∃ c, e = .bool c ∧ Q (.bool c) S2) ∧ (b = true → Q (.bool true) S1)) : Ev (gOrV g k S) Q := by
  obtain ⟨d, S1, e1, b, rfl, h1, h2⟩ := h
  cases b with
  | false => 
    obtain ⟨e, S2, e2, c, rfl, q⟩ := h1 rfl
    exact ⟨_, S2, by simp [gOrV, e1, e2], q⟩
  | true => exact ⟨_, S1, by simp [gOrV, e1], h2 rfl⟩
theorem ev_notV {g : M D} (h : Ev (g S) fun d S1 => ∃ b, d = .bool b ∧ Q (.bool !b) S1) : Ev (gNotV g S) Q := by
  obtain ⟨d, S1, e1, b, rfl, q⟩ := h
  exact ⟨_, S1, by simp [gNotV, e1], q⟩
theorem ev_B {g : M D} (h : Ev (g S) fun d S1 => ∃ b, d = .bool b ∧ P b S1) : Ev (gB g S) P := by
  obtain ⟨d, S1, e1, b, rfl, q⟩ := h
  exact ⟨b, S1, by simp only [gB, e1, Option.bind_some], q⟩
theorem ev_and {g k : M Bool} (h : Ev (g S) fun b S1 => (b = true → Ev (k S1) P) ∧ (b = false → P false S1)) : Ev (gAnd g k S) P := by
  obtain ⟨b, S1, e1, h1, h2⟩ := h
  cases b with
  | true => 
    obtain ⟨c, S2, e2, q⟩ := h1 rfl
    exact ⟨_, S2, by simp [gAnd, e1, e2], q⟩
  | false => exact ⟨_, S1, by simp [gAnd, e1], h2 rfl⟩
theorem ev_or {g k : M Bool} (h : Ev (g S) fun b S1 => (b = false → Ev (k S1) P) ∧ (b = true → P true S1)) : Ev (gOr g k S) P := by
  obtain ⟨b, S1, e1, h1, h2⟩ := h
  cases b with
  | false => 
    obtain ⟨c, S2, e2, q⟩ := h1 rfl
    exact ⟨_, S2, by simp [gOr, e1, e2], q⟩
  | true => exact ⟨_, S1, by simp [gOr, e1], h2 rfl⟩
theorem ev_not {g : M Bool} (h : Ev (g S) fun b S1 => P (!b) S1) : Ev (gNot g S) P := by
  obtain ⟨b, S1, e1, q⟩ := h
  exact ⟨_, S1, by simp [gNot, e1], q⟩
theorem ev_yes (h : P true S) : Ev (gYes S) P := ⟨_, _, rfl, h⟩
theorem ev_if {t : M Bool} {g k : M D} (h : Ev (t S) fun b S1 => (b = true → Ev (g S1) Q) ∧ (b = false → Ev (k S1) Q)) : Ev (gIf t g k S) Q := by
  obtain ⟨b, S1, e1, h1, h2⟩ := h
  cases b with
  | true => 
    obtain ⟨c, S2, e2, q⟩ := h1 rfl
    exact ⟨_, S2, by simp [gIf, e1, e2], q⟩
  | false =>
    obtain ⟨c, S2, e2, q⟩ := h2 rfl
    exact ⟨_, S2, by simp [gIf, e1, e2], q⟩
theorem ev_no (h : O none S) : Ev (gNo S) O := ⟨_, _, rfl, h⟩
theorem ev_so {g : M D} (h : Ev (g S) fun d S1 => ∃ i, d = .int i ∧ O (some i) S1) : Ev (gSo g S) O := by
  obtain ⟨d, S1, e1, i, rfl, q⟩ := h
  exact ⟨_, S1, by simp only [gSo, e1, Option.bind_some], q⟩
theorem ev_sl {g : M D} {gl gh : M (Option Int)} (h : Ev (g S) fun d S1 => Ev (gl S1) fun lo S2 => Ev (gh S2) fun hi S3 => Ed (dSl d lo hi) fun z => Q z S3) : Ev (gSl g gl gh S) Q := by
  obtain ⟨d, S1, e1, lo, S2, e2, hi, S3, e3, z, e4, q⟩ := h
  exact ⟨z, S3, by simp only [gSl, e1, e2, e3, e4, Option.bind_some], q⟩
theorem ev_items {g : M D} (h : Ev (g S) fun d S1 => Ed (itemsOf d) fun xs => L xs S1) : Ev (gItems g S) L := by
  obtain ⟨d, S1, e1, xs, e2, q⟩ := h
  exact ⟨xs, S1, by simp only [gItems, e1, e2, Option.bind_some], q⟩
theorem ev_rng1 {g : M (List D)} (h : Ev (g S) fun ds S1 => ∃ n : Int, ds = [.int n] ∧ -4611686018427387904 ≤ n ∧ n ≤ 16777216 ∧ L (rng 0 n.toNat) S1) : Ev (gRng1 g S) L := by
  obtain ⟨ds, S1, e1, n, rfl, l1, l2, q⟩ := h
  exact ⟨_, S1, by simp only [gRng1, e1, Option.bind_some, line_eq]; rw [if_pos ⟨by omega, by omega⟩], q⟩
theorem ev_rng2 {g : M (List D)} (h : Ev (g S) fun ds S1 => ∃ i j : Int, ds = [.int i, .int j] ∧ -4294967296 ≤ i ∧ i ≤ 4294967296 ∧ -4294967296 ≤ j ∧ j ≤ 4294967296 ∧ j - i ≤ 16777216 ∧ L (rng i (j - i).toNat) S1) : Ev (gRng2 g S) L := by
  obtain ⟨ds, S1, e1, i, j, rfl, l1, l2, l3, l4, l5, q⟩ := h
  exact ⟨_, S1, by simp only [gRng2, e1, Option.bind_some, line_eq]; rw [if_pos ⟨by omega, by omega, by omega, by omega, by omega⟩], q⟩
/-- a comprehension that changes nothing else -/
theorem ev_lc {gi : M (List D)} {gg : D → Sx → Option Sx} {gt : M Bool} {ge : M D} {vs : List Nat} (b : D → Bool) (f : D → D)
    (h : Ev (gi S) fun ds S1 => (∀ d ∈ ds, Es (gg d ⟨wipeS S1.sl vs, S1.os⟩) fun S2 => wipeS S2.sl vs = wipeS S1.sl vs ∧ S2.os = S1.os ∧ Ev (gt S2) fun c S3 => S3 = S2 ∧ c = b d ∧ (b d = true → Ev (ge S2) fun e S4 => e = f d ∧ S4 = S2)) ∧ Q (.list ((ds.filter b).map f)) S1) : Ev (gLc gi gg gt ge vs S) Q := by
  obtain ⟨ds, ⟨sl1, os1⟩, e1, h1, q⟩ := h
  obtain ⟨sl', e', ht⟩ := turns_pure (gg := gg) (gt := gt) (ge := ge) (b := b) (f := f) ds sl1 rfl fun d hd => by
    obtain ⟨⟨sl2, os2⟩, e2, e3, e4, c, S3, e5, e6, e7, e8⟩ := h1 d hd
    cases e4
    subst e7 e6
    exact ⟨sl2, e2, e3, e5, fun hb => (e8 hb).eq⟩
  refine ⟨_, _, ?_, q⟩
  unfold gLc
  rw [e1]
  simp only [Option.bind_some, ht, backS_same e']
theorem ev_map {gi : M (List D)} {gg : D → Sx → Option Sx} {ge : M D} {vs : List Nat} (f : D → D)
    (h : Ev (gi S) fun ds S1 => (∀ d ∈ ds, Es (gg d ⟨wipeS S1.sl vs, S1.os⟩) fun S2 => wipeS S2.sl vs = wipeS S1.sl vs ∧ S2.os = S1.os ∧ Ev (ge S2) fun e S4 => e = f d ∧ S4 = S2) ∧ Q (.list (ds.map f)) S1) : Ev (gLc gi gg gYes ge vs S) Q := by
  refine ev_lc (fun _ => true) f ?_
  refine h.mono fun ds S1 h => ⟨fun d hd => ?_, by rw [List.filter_eq_self.mpr fun _ _ => rfl]; exact h.2⟩
  obtain ⟨S2, e2, e3, e4, e5⟩ := h.1 d hd
  exact ⟨S2, e2, e3, e4, ev_yes ⟨rfl, rfl, fun _ => e5⟩⟩
theorem es_name {i : Nat} {d : D} (h : W ⟨S.sl.set i (some (.dat d)), S.os⟩) : Es (sName i d S) W := ⟨_, rfl, h⟩
theorem es_tup2 {i j : Nat} {d e : D} (h : W ⟨(S.sl.set i (some (.dat d))).set j (some (.dat e)), S.os⟩) : Es (sTup 2 (sCons (sName i) (sCons (sName j) sNil)) (.tuple [d, e]) S) W := ⟨_, rfl, h⟩
theorem es_tup3 {i j k : Nat} {d e f : D} (h : W ⟨((S.sl.set i (some (.dat d))).set j (some (.dat e))).set k (some (.dat f)), S.os⟩) : Es (sTup 3 (sCons (sName i) (sCons (sName j) (sCons (sName k) sNil))) (.tuple [d, e, f]) S) W := ⟨_, rfl, h⟩
/-- what goes on after a statement -/
def Then (h : Sx → Option Out) (Z : Out → Prop) : Out → Prop
  | .nx S => Eo (h S) Z
  | .rt d S => Z (.rt d S)
  | .bk S => Z (.bk S)
  | .ct S => Z (.ct S)
  | .ro j S => Z (.ro j S)
theorem eo_seq {g h : Sx → Option Out} (e : Eo (g S) (Then h Z)) : Eo (qSeq g h S) Z := by
  obtain ⟨o, e1, q⟩ := e
  cases o with
  | nx S1 =>
    obtain ⟨o2, e2, q⟩ := q
    exact ⟨o2, by simp only [qSeq, e1, Option.bind_some, e2], q⟩
  | _ => exact ⟨_, by simp only [qSeq, e1, Option.bind_some], q⟩
theorem then_nx' {h : Sx → Option Out} {S1 : Sx} (e : ∃ S2, S1 = S2 ∧ Eo (h S2) Z) : Then h Z (.nx S1) := by obtain ⟨_, rfl, e⟩ := e; exact e
theorem eo_nx (h : Z (.nx S)) : Eo (qNx S) Z := ⟨_, rfl, h⟩
theorem eo_drop {g : M D} (h : Ev (g S) fun _ S1 => Z (.nx S1)) : Eo (qDrop g S) Z := by
  obtain ⟨d, S1, e1, q⟩ := h
  exact ⟨_, by simp only [qDrop, e1, Option.bind_some], q⟩
theorem eo_ret {g : M D} (h : Ev (g S) fun d S1 => Z (.rt d S1)) : Eo (qRet g S) Z := by
  obtain ⟨d, S1, e1, q⟩ := h
  exact ⟨_, by simp only [qRet, e1, Option.bind_some], q⟩
theorem eo_retN (h : Z (.rt .none S)) : Eo (qRetN S) Z := ⟨_, rfl, h⟩
theorem eo_if {t : M Bool} {g k : Sx → Option Out} (h : Ev (t S) fun b S1 => (b = true → Eo (g S1) Z) ∧ (b = false → Eo (k S1) Z)) : Eo (qIf t g k S) Z := by
  obtain ⟨b, S1, e1, h1, h2⟩ := h
  cases b with
  | true =>
    obtain ⟨c, e2, q⟩ := h1 rfl
    exact ⟨_, by simp [qIf, e1, e2], q⟩
  | false =>
    obtain ⟨c, e2, q⟩ := h2 rfl
    exact ⟨_, by simp [qIf, e1, e2], q⟩
theorem eo_set {i : Nat} {g : M D} (h : Ev (g S) fun d S1 => Z (.nx ⟨S1.sl.set i (some (.dat d)), S1.os⟩)) : Eo (qSet i g S) Z := by
  obtain ⟨d, S1, e1, q⟩ := h
  exact ⟨_, by simp only [qSet, e1, Option.bind_some], q⟩
theorem eo_asg {gg : D → Sx → Option Sx} {g : M D} (h : Ev (g S) fun d S1 => Es (gg d S1) fun S2 => Z (.nx S2)) : Eo (qAsg gg g S) Z := by
  obtain ⟨d, S1, e1, S2, e2, q⟩ := h
  exact ⟨_, by simp only [qAsg, e1, e2, Option.bind_some], q⟩
theorem eo_par {i j : Nat} {g : M (List D)} (h : Ev (g S) fun ds S1 => ∃ d e, ds = [d, e] ∧ Z (.nx ⟨(S1.sl.set i (some (.dat d))).set j (some (.dat e)), S1.os⟩)) : Eo (qPar i j g S) Z := by
  obtain ⟨ds, S1, e1, d, e, rfl, q⟩ := h
  exact ⟨_, by simp only [qPar, e1, Option.bind_some], q⟩
theorem eo_own {i : Nat} {g : M D} (h : Ev (g S) fun d S1 => ∃ ds, d = .list ds ∧ Z (.nx ⟨S1.sl.set i (some (.own S1.os.length)), S1.os ++ [some (.lst ds)]⟩)) : Eo (qOwn i g S) Z := by
  obtain ⟨d, S1, e1, ds, rfl, q⟩ := h
  exact ⟨_, by simp only [qOwn, e1, Option.bind_some], q⟩
theorem eo_retO {g : M D} (h : Ev (g S) fun d S1 => ∃ ds, d = .list ds ∧ Z (.ro S1.os.length ⟨S1.sl, S1.os ++ [some (.lst ds)]⟩)) : Eo (qRetO g S) Z := by
  obtain ⟨d, S1, e1, ds, rfl, q⟩ := h
  exact ⟨_, by simp only [qRetO, e1, Option.bind_some], q⟩
theorem eo_for {gi : M (List D)} {gg : D → Sx → Option Sx} {body : Sx → Option Out} (h : Ev (gi S) fun ds S1 => Eo (gLoop gg body ds S1) Z) : Eo (qFor gi gg body S) Z := by
  obtain ⟨ds, S1, e1, o, e2, q⟩ := h
  exact ⟨_, by simp only [qFor, e1, Option.bind_some, e2], q⟩
theorem eo_loop {gg : D → Sx → Option Sx} {body : Sx → Option Out} {ds : List D} (I : Nat → Sx → Prop) (h0 : I 0 S) (hs : ∀ i d S, ds[i]? = some d → I i S → Es (gg d S) fun S1 => Eo (body S1) fun o => ∃ S2, o = .nx S2 ∧ I (i + 1) S2) (hz : ∀ S', I ds.length S' → Z (.nx S')) : Eo (gLoop gg body ds S) Z := by
  obtain ⟨S', e, q⟩ := loop_inv (gg := gg) (body := body) I ds 0 S h0 fun i d S h1 h2 => by
    rw [Nat.zero_add] at h2 ⊢
    obtain ⟨S1, e1, o, e2, S2, rfl, q⟩ := hs i d S h1 h2
    exact ⟨S1, S2, e1, e2, q⟩
  rw [Nat.zero_add] at q
  exact ⟨_, e, hz S' q⟩
end

theorem then_rt {h : Sx → Option Out} {Z : Out → Prop} {d : D} {S : Sx} (q : Z (.rt d S)) : Then h Z (.rt d S) := q
theorem split_t {A B : Prop} {b : Bool} (e : b = true) (h : A) : (b = true → A) ∧ (b = false → B) := ⟨fun _ => h, fun k => by rw [e] at k; cases k⟩
theorem split_f {A B : Prop} {b : Bool} (e : b = false) (h : B) : (b = true → A) ∧ (b = false → B) := ⟨fun k => (by rw [e] at k; cases k), fun _ => h⟩
theorem split_t' {A B : Prop} {b : Bool} (e : b = true) (h : A) : (b = false → B) ∧ (b = true → A) := ⟨fun k => (by rw [e] at k; cases k), fun _ => h⟩
theorem split_f' {A B : Prop} {b : Bool} (e : b = false) (h : B) : (b = false → B) ∧ (b = true → A) := ⟨fun _ => h, fun k => by rw [e] at k; cases k⟩
/-! ### whole defs -/
def Gives (z : D) : Out → Prop
  | .rt d _ => d = z
  | .nx _ => z = .none
  | _ => False
theorem mF_of {n : Nat} {g : Sx → Option Out} {ds : List D} {z : D} (h : Eo (g ⟨initS n ds, []⟩) (Gives z)) : mF n g ds = some z := by
  obtain ⟨o, e, q⟩ := h
  unfold mF
  rw [e]
  cases o with
  | nx S => cases q; rfl
  | rt d S => cases q; rfl
  | _ => exact q.elim
theorem gives_rt {z d : D} {S : Sx} (h : d = z) : Gives z (.rt d S) := h
@[simp] theorem gives_rtI {z d : D} {S : Sx} : Gives z (.rt d S) ↔ d = z := Iff.rfl
theorem gives_nx {S : Sx} : Gives .none (.nx S) := rfl
def GivesO (Q : D → List D → Prop) : Out → Prop
  | .rt d S => ∃ cs, cellOf S 0 = some cs ∧ Q d cs
  | .nx S => ∃ cs, cellOf S 0 = some cs ∧ Q .none cs
  | _ => False
theorem mIO_of {n : Nat} {g : Sx → Option Out} {cs ds : List D} {Q : D → List D → Prop} (h : Eo (g ⟨some (.own 0) :: initS (n - 1) ds, [some (.lst cs)]⟩) (GivesO Q)) : ∃ d cs', mIO n g cs ds = some (d, cs') ∧ Q d cs' := by
  obtain ⟨o, e, q⟩ := h
  unfold mIO
  rw [e]
  cases o with
  | nx S => obtain ⟨cs', e, q⟩ := q; exact ⟨_, cs', by simp [e], q⟩
  | rt d S => obtain ⟨cs', e, q⟩ := q; exact ⟨_, cs', by simp [e], q⟩
  | _ => exact q.elim
theorem ev_IO {sl : List (Option R)} {os : List (Option Cell)} {i n : Nat} {f : List D → List D → Option (D × List D)} {g : M (List D)} {Q : D → Sx → Prop}
    (h : ∃ j, sl[i]? = some (some (.own j)) ∧ Ev (g ⟨sl, os⟩) fun ds S1 => ∃ cs, S1.os[j]? = some (some (.lst cs)) ∧ ds.length = n ∧ ∃ d cs', f cs ds = some (d, cs') ∧ Q d ⟨S1.sl, S1.os.set j (some (.lst cs'))⟩) : Ev (gIO i n f g ⟨sl, os⟩) Q := by
  obtain ⟨j, hi, ds, S1, e1, cs, e2, l, d, cs', e3, q⟩ := h
  exact ⟨d, _, by simp only [gIO, hi, e1, e2, e3, Option.bind_some, if_pos l], q⟩
theorem ev_ixO {sl : List (Option R)} {os : List (Option Cell)} {i : Nat} {gb : M D} {Q : D → Sx → Prop}
    (h : ∃ j cs, sl[i]? = some (some (.own j)) ∧ os[j]? = some (some (.lst cs)) ∧ Ev (gb ⟨sl, os⟩) fun d S1 => ∃ n, d = .int n ∧ S1 = ⟨sl, os⟩ ∧ Ed (L2.atI cs n) fun e => Q e ⟨sl, os⟩) : Ev (gIxO i gb ⟨sl, os⟩) Q := by
  obtain ⟨j, cs, hi, hc, d, S1, e1, n, rfl, rfl, e, e2, q⟩ := h
  exact ⟨e, _, by simp only [gIxO, ownOf, cellOf, hi, hc, e1, e2, Option.bind_some], q⟩
theorem eo_setO {S : Sx} {i : Nat} {gb ge : M D} {Z : Out → Prop} (h : Ev (ge S) fun d S1 => ∃ j cs, S1.sl[i]? = some (some (.own j)) ∧ S1.os[j]? = some (some (.lst cs)) ∧ Ev (gb S1) fun n S2 => S2 = S1 ∧ ∃ k : Nat, n = .int k ∧ k < cs.length ∧ Z (.nx ⟨S1.sl, S1.os.set j (some (.lst (cs.set k d)))⟩)) : Eo (qSetO i gb ge S) Z := by
  obtain ⟨d, S1, e1, j, cs, hi, hc, n, S2, e2, rfl, k, rfl, l, q⟩ := h
  refine ⟨_, ?_, q⟩
  have : L2.ixN cs.length (k : Int) = some k := by
    unfold L2.ixN
    rw [if_pos (by omega), if_pos (by omega)]; simp
  simp only [qSetO, e1, Option.bind_some, ownOf, cellOf, hi, hc, e2, this, setCell]
theorem ev_app {S : Sx} {i : Nat} {ge : M D} {Q : D → Sx → Prop} (hi : ∃ j cs, S.sl[i]? = some (some (.own j)) ∧ S.os[j]? = some (some (.lst cs)) ∧ Ev (ge S) fun d S1 => ∃ cs, S1.os[j]? = some (some (.lst cs)) ∧ cs.length < 16777216 ∧ Q .none ⟨S1.sl, S1.os.set j (some (.lst (cs ++ [d])))⟩) : Ev (gApp i ge S) Q := by
  obtain ⟨j, cs, h1, h2, d, S1, e1, cs1, h3, l, q⟩ := hi
  refine ⟨_, _, ?_, q⟩
  simp only [gApp, ownOf, h1, h2, cellOf, Option.bind_some, e1, h3, line_eq, if_pos l, setCell]
theorem ev_lenO {sl : List (Option R)} {os : List (Option Cell)} {i : Nat} {Q : D → Sx → Prop} (h : ∃ j cs, sl[i]? = some (some (.own j)) ∧ os[j]? = some (some (.lst cs)) ∧ Q (.int cs.length) ⟨sl, os⟩) : Ev (gLenO i ⟨sl, os⟩) Q := by
  obtain ⟨j, cs, hi, hc, h⟩ := h
  exact ⟨_, _, by simp only [gLenO, ownOf, cellOf, hi, hc, Option.bind_some], h⟩
theorem ev_scrSl {sl : List (Option R)} {os : List (Option Cell)} {i : Nat} {gl gh : M (Option Int)} {Q : D → Sx → Prop} (h : ∃ ns, sl[i]? = some (some (.scr ns)) ∧ Ev (gl ⟨sl, os⟩) fun lo S1 => Ev (gh S1) fun hi S2 => Q (.list ((cutL ns lo hi).map .int)) S2) : Ev (gScrSl i gl gh ⟨sl, os⟩) Q := by
  obtain ⟨ns, hi, lo, S1, e1, hi2, S2, e2, h⟩ := h
  exact ⟨_, _, by simp only [gScrSl, scrOf, hi, Option.bind_some, e1, e2], h⟩
theorem ev_scrLen {sl : List (Option R)} {os : List (Option Cell)} {i : Nat} {Q : D → Sx → Prop} (h : ∃ ns : List Int, sl[i]? = some (some (.scr ns)) ∧ Q (.int ns.length) ⟨sl, os⟩) : Ev (gScrLen i ⟨sl, os⟩) Q := by
  obtain ⟨ns, hi, h⟩ := h
  exact ⟨_, _, by simp only [gScrLen, scrOf, hi, Option.bind_some], h⟩
theorem ev_callScr {sl : List (Option R)} {os : List (Option Cell)} {i : Nat} {f : List Int → Option (List D)} {Q : D → Sx → Prop} (h : ∃ ns : List Int, sl[i]? = some (some (.scr ns)) ∧ Ed (f ns) fun z => Q (.list z) ⟨sl, os⟩) : Ev (gCallScr i f ⟨sl, os⟩) Q := by
  obtain ⟨ns, hi, z, e, h⟩ := h
  exact ⟨_, _, by simp only [gCallScr, scrOf, hi, Option.bind_some, e], h⟩
theorem mScrN_of {n : Nat} {g : Sx → Option Out} {ns : List Int} {Q : List D → Prop} (h : Eo (g ⟨some (.scr ns) :: List.replicate (n - 1) none, []⟩) fun o => ∃ j S cs, o = .ro j S ∧ cellOf S j = some cs ∧ Q cs) : ∃ cs, mScrN n g ns = some cs ∧ Q cs := by
  obtain ⟨_, e, j, S, cs, rfl, h, q⟩ := h
  exact ⟨cs, by unfold mScrN; simp only [e, Option.bind_some, h], q⟩
theorem mScr_of {n : Nat} {g : Sx → Option Out} {ns : List Int} {z : D} (h : Eo (g ⟨some (.scr ns) :: List.replicate (n - 1) none, []⟩) fun o => ∃ S, o = .rt z S) : mScr n g ns = some z := by
  obtain ⟨_, e, S, rfl⟩ := h
  unfold mScr; simp only [e, Option.bind_some]

/-! ### operations on data -/
section
variable {Q : D → Prop} {i j : Int} {xs ys : List D}
theorem ed_addI (h : Q (.int (i + j))) : Ed (dAdd (.int i) (.int j)) Q := ⟨_, rfl, h⟩
theorem ed_subI (h : Q (.int (i - j))) : Ed (dSub (.int i) (.int j)) Q := ⟨_, rfl, h⟩
theorem ed_addT (l : xs.length + ys.length ≤ 16777216) (h : Q (.tuple (xs ++ ys))) : Ed (dAdd (.tuple xs) (.tuple ys)) Q := ⟨_, by simp only [dAdd, line_eq, if_pos l], h⟩
theorem ed_addL (l : xs.length + ys.length ≤ 16777216) (h : Q (.list (xs ++ ys))) : Ed (dAdd (.list xs) (.list ys)) Q := ⟨_, by simp only [dAdd, line_eq, if_pos l], h⟩
theorem ed_mulI (l : L2.CMulW i j) (h : Q (.int (i * j))) : Ed (dMul (.int i) (.int j)) Q := ⟨_, by simp only [dMul, if_pos l], h⟩
theorem ed_repB {b : Bool} (l : xs.length ≤ 16777216) (h : Q (.list (if b then xs else []))) : Ed (dMul (.list xs) (.int (if b then 1 else 0))) Q := by
  refine ⟨_, ?_, h⟩
  cases b with
  | true => simp only [dMul, line_eq, if_true]; rw [if_pos ⟨by decide, by decide, by simpa using l⟩]; simp
  | false => simp only [dMul, line_eq]; rw [if_pos ⟨by decide, by decide, by simp⟩]; rfl
theorem ed_divI (l : L2.CDivW i j) (h : Q (.int (i / j))) : Ed (dDiv (.int i) (.int j)) Q := ⟨_, by simp only [dDiv, if_pos l], h⟩
theorem ed_modI (l : 0 < j) (h : Q (.int (i % j))) : Ed (dMod (.int i) (.int j)) Q := ⟨_, by simp only [dMod, if_pos l], h⟩
theorem ed_cmp {p : Int → Int → Bool} (h : Q (.bool (p i j))) : Ed (dCmp p (.int i) (.int j)) Q := ⟨_, rfl, h⟩
theorem ed_eqI (h : Q (.bool (decide (i = j)))) : Ed (dEq (.int i) (.int j)) Q := ⟨_, dEq_int i j, h⟩
theorem ed_neI (h : Q (.bool (!decide (i = j)))) : Ed (dNe (.int i) (.int j)) Q := ⟨_, dNe_int i j, h⟩
theorem ed_ixT {d : D} (h0 : 0 ≤ i) (e : xs[i.toNat]? = some d) (h : Q d) : Ed (dIx (.tuple xs) (.int i)) Q := ⟨d, by
  have hl := (List.getElem?_eq_some_iff.mp e).1
  show L2.atI xs i = _
  rw [atI_ok h0 (by omega), e], h⟩
theorem ed_ixL {d : D} (h0 : 0 ≤ i) (e : xs[i.toNat]? = some d) (h : Q d) : Ed (dIx (.list xs) (.int i)) Q := ⟨d, by
  have hl := (List.getElem?_eq_some_iff.mp e).1
  show L2.atI xs i = _
  rw [atI_ok h0 (by omega), e], h⟩
theorem ed_at {d : D} {Q : D → Prop} (h0 : 0 ≤ i) (e : xs[i.toNat]? = some d) (h : Q d) : Ed (L2.atI xs i) Q := ed_ixT h0 e h
theorem ed_slT {lo hi : Option Int} (h : Q (.tuple (cutL xs lo hi))) : Ed (dSl (.tuple xs) lo hi) Q := ⟨_, rfl, h⟩
theorem ed_slL {lo hi : Option Int} (h : Q (.list (cutL xs lo hi))) : Ed (dSl (.list xs) lo hi) Q := ⟨_, rfl, h⟩
theorem ed_lenT (h : Q (.int xs.length)) : Ed (dLen [.tuple xs]) Q := ⟨_, rfl, h⟩
theorem ed_lenL (h : Q (.int xs.length)) : Ed (dLen [.list xs]) Q := ⟨_, rfl, h⟩
theorem ed_lenS {x : Str} (h : Q (.int x.length)) : Ed (dLen [.str x]) Q := ⟨_, rfl, h⟩
theorem ed_inS {c : Nat} {y : Str} (h : Q (.bool (decide (c ∈ y.cps.toList)))) : Ed (dIn (.str ⟨#[c]⟩) (.str y)) Q := ⟨_, by simp only [dIn]; rw [PySem.StrLaws.found_one], h⟩
theorem ed_powI (l : L2.CPow i j) (h : Q (.int (i ^ j.toNat))) : Ed (dPow (.int i) (.int j)) Q := ⟨_, by simp only [dPow, if_pos l], h⟩
theorem ed_neg (h : Q (.int (-i))) : Ed (dNeg (.int i)) Q := ⟨_, rfl, h⟩
theorem ed_max (h : Q (.int (max i j))) : Ed (dMax2 [.int i, .int j]) Q := ⟨_, rfl, by
  have : (if j > i then j else i) = max i j := by split <;> omega
  rw [this]; exact h⟩
theorem ed_min (h : Q (.int (min i j))) : Ed (dMin2 [.int i, .int j]) Q := ⟨_, rfl, by
  have : (if j < i then j else i) = min i j := by split <;> omega
  rw [this]; exact h⟩
theorem ed_intB {b : Bool} (h : Q (.int (if b then 1 else 0))) : Ed (dInt [.bool b]) Q := ⟨_, rfl, h⟩
theorem ed_ixS {x : Str} {c : Nat} (h0 : 0 ≤ i) (e : x.cps.toList[i.toNat]? = some c) (h : Q (ch c)) : Ed (dIx (.str x) (.int i)) Q := ⟨_, by
  have hl := (List.getElem?_eq_some_iff.mp e).1
  show (L2.atI x.cps.toList i).bind _ = _
  rw [atI_ok h0 (by omega), e]; rfl, h⟩
theorem ed_itT {Q : List D → Prop} (h : Q xs) : Ed (itemsOf (.tuple xs)) Q := ⟨_, rfl, h⟩
theorem ed_itL {Q : List D → Prop} (h : Q xs) : Ed (itemsOf (.list xs)) Q := ⟨_, rfl, h⟩
theorem ed_tupL (h : Q (.tuple xs)) : Ed (dTuple [.list xs]) Q := ⟨_, rfl, h⟩
theorem ed_tupT (h : Q (.tuple xs)) : Ed (dTuple [.tuple xs]) Q := ⟨_, rfl, h⟩
theorem ed_listL (h : Q (.list xs)) : Ed (dList [.list xs]) Q := ⟨_, rfl, h⟩
theorem ed_listT (h : Q (.list xs)) : Ed (dList [.tuple xs]) Q := ⟨_, rfl, h⟩
end
theorem allBools_fn {α : Type} (f : α → Bool) : ∀ xs : List α, allBools (xs.map fun a => .bool (f a)) = some (xs.map f)
  | [] => rfl
  | a :: xs => by simp [allBools, allBools_fn f xs]
theorem all_map {α : Type} (f : α → Bool) (xs : List α) : dAll [.list (xs.map fun a => .bool (f a))] = some (.bool (xs.all f)) := by
  simp only [dAll, allBools_fn, Option.bind_some]; rw [List.all_map]; rfl
theorem cut_to {α : Type} {xs : List α} {i : Int} (h : 0 ≤ i) : cutL xs none (some i) = xs.take i.toNat := by
  unfold cutL HT.sIx
  simp only [if_neg (show ¬ i < 0 by omega), List.drop_zero, Nat.sub_zero]
  rw [← List.take_take]
  simp [Nat.min_def]
theorem cut_from {α : Type} {xs : List α} {i : Int} (h : 0 ≤ i) : cutL xs (some i) none = xs.drop i.toNat := by
  unfold cutL HT.sIx
  simp only [if_neg (show ¬ i < 0 by omega)]
  by_cases l : i.toNat ≤ xs.length
  · rw [Nat.min_eq_left l, List.take_of_length_le (by simp)]
  · rw [Nat.min_eq_right (by omega), List.drop_of_length_le (Nat.le_refl _), List.drop_of_length_le (by omega), List.take_nil]
/-! ### comprehensions of two clauses -/
theorem ev_varO {sl : List (Option R)} {os : List (Option Cell)} {i : Nat} {Q : D → Sx → Prop} (h : ∃ j cs, sl[i]? = some (some (.own j)) ∧ os[j]? = some (some (.lst cs)) ∧ Q (.list cs) ⟨sl.set i (some (.dat (.list cs))), os.set j none⟩) : Ev (gVar i ⟨sl, os⟩) Q := by
  obtain ⟨j, cs, e1, e2, h⟩ := h
  exact ⟨_, _, by unfold gVar; simp only [e1, e2], h⟩
theorem ed_pick {Q P : D → Prop} {xs : List D} {i : Int} (h0 : 0 ≤ i) (h1 : i < xs.length) (hp : ∀ x ∈ xs, P x) (h : ∀ x, P x → Q x) : Ed (dIx (.list xs) (.int i)) Q := by
  have hl : i.toNat < xs.length := by omega
  exact ed_ixL h0 (List.getElem?_eq_getElem hl) (h _ (hp _ (List.getElem_mem hl)))
theorem ed_pickS {Q : D → Prop} {P : Nat → Prop} {x : Str} {i : Int} (h0 : 0 ≤ i) (h1 : i < x.length) (hp : ∀ c ∈ x.cps.toList, P c) (h : ∀ c, P c → Q (ch c)) : Ed (dIx (.str x) (.int i)) Q := by
  have hl : i.toNat < x.cps.toList.length := by
    have : x.cps.toList.length = x.length := Array.length_toList
    omega
  exact ed_ixS h0 (List.getElem?_eq_getElem hl) (h _ (hp _ (List.getElem_mem hl)))
open Classical in
theorem ed_ne_good {Q : D → Prop} {d e : D} {m n : Nat} (g : Good m d) (k : Good n e) (q1 : d = e → Q (.bool false)) (q2 : d ≠ e → Q (.bool true)) (l1 : m ≤ 64 := by decide) (l2 : n ≤ 64 := by decide) : Ed (dNe d e) Q := by
  refine Ed.of (dNe_good g k l1 l2) ?_
  by_cases x : d = e
  · rw [decide_eq_true x]; exact q1 x
  · rw [decide_eq_false x]; exact q2 x
open Classical in
theorem set_get {α : Type} (l : List α) (k : Nat) (h : k < l.length) : l.set k l[k] = l := List.set_getElem_self h
/-- a loop that sets its own name alone, and what the lists hold -/
theorem eo_loopS {S : Sx} {Z : Out → Prop} {gg : D → Sx → Option Sx} {body : Sx → Option Out} {ds : List D} (k : Nat) (J : Nat → List (Option Cell) → Prop) (hk : k < S.sl.length) (h0 : J 0 S.os) (hs : ∀ i d x os, ds[i]? = some d → J i os → Es (gg d ⟨S.sl.set k x, os⟩) fun S1 => Eo (body S1) fun o => ∃ x' os', o = .nx ⟨S.sl.set k x', os'⟩ ∧ J (i + 1) os') (hz : ∀ x os, J ds.length os → Z (.nx ⟨S.sl.set k x, os⟩)) : Eo (gLoop gg body ds S) Z := by
  refine eo_loop (fun i T => ∃ x, T.sl = S.sl.set k x ∧ J i T.os) ⟨S.sl[k], (set_get _ _ hk).symm, h0⟩ ?_ ?_
  · rintro i d ⟨sl, os⟩ hd ⟨x, e, h⟩
    cases e
    obtain ⟨S1, e1, o, e2, x', os', rfl, h'⟩ := hs i d x os hd h
    exact ⟨S1, e1, _, e2, _, rfl, x', rfl, h'⟩
  · rintro ⟨sl, os⟩ ⟨x, e, h⟩
    cases e
    exact hz x os h
/-! ### comprehensions whose item changes the lists -/
/-! ### how many unlike ones -/
theorem ev_listRng1 {S : Sx} {Q : D → Sx → Prop} {g : M D} (h : Ev (g S) fun d S1 => ∃ n : Int, d = .int n ∧ -4611686018427387904 ≤ n ∧ n ≤ 16777216 ∧ Q (.list (rng 0 n.toNat)) S1) : Ev (gListRng1 g S) Q := by
  obtain ⟨ds, S1, e1, n, rfl, l1, l2, q⟩ := h
  exact ⟨_, S1, by simp only [gListRng1, e1, Option.bind_some]; rw [if_pos ⟨by omega, by omega⟩], q⟩
theorem ev_OL {sl : List (Option R)} {os : List (Option Cell)} {i : Nat} {f : D → D → Option D} {gb : M D} {Q : D → Sx → Prop} (h : ∃ j cs0, sl[i]? = some (some (.own j)) ∧ os[j]? = some (some (.lst cs0)) ∧ Ev (gb ⟨sl, os⟩) fun d S1 => ∃ cs, S1.os[j]? = some (some (.lst cs)) ∧ Ed (f (.list cs) d) fun z => ∃ b, z = .bool b ∧ Q (.bool b) S1) : Ev (gOL f i gb ⟨sl, os⟩) Q := by
  obtain ⟨j, cs0, h1, h2, d, S1, e1, cs, h3, z, e2, b, rfl, q⟩ := h
  exact ⟨_, _, by simp only [gOL, ownOf, cellOf, h1, h2, e1, h3, e2, Option.bind_some], q⟩
theorem ev_OR {S : Sx} {i : Nat} {f : D → D → Option D} {gb : M D} {Q : D → Sx → Prop} (h : Ev (gb S) fun d S1 => ∃ j cs, S1.sl[i]? = some (some (.own j)) ∧ S1.os[j]? = some (some (.lst cs)) ∧ Ed (f d (.list cs)) fun z => ∃ b, z = .bool b ∧ Q (.bool b) S1) : Ev (gOR f gb i S) Q := by
  obtain ⟨d, S1, e1, j, cs, h1, h2, z, e2, b, rfl, q⟩ := h
  exact ⟨_, _, by simp only [gOR, ownOf, cellOf, h1, h2, e1, e2, Option.bind_some], q⟩
theorem ev_rep {S : Sx} {f : D → D → Option D} {ga gb : M D} {Q : D → Sx → Prop} (h : Ev (gBin f ga gb S) fun d S1 => ∃ ds, d = .list ds ∧ Q (.list ds) S1) : Ev (gRep f ga gb S) Q := by
  obtain ⟨d, S1, e1, ds, rfl, q⟩ := h
  exact ⟨_, _, by simp only [gRep, e1, Option.bind_some], q⟩
end Fu

set_option maxHeartbeats 16000000
namespace Lw
open PySem PySem.Spec PyProof.Rows L2 RZ Fu
def g__law_reel : Sx → Option Out :=
  (qSeq (qSet 1 (gBin dPow (gC (.int 3)) (gC (.int 60)))) (qSeq (qFor (gItems (gScrSl 0 gNo (gSo (gC (.int 63))))) (sName 2) (qSet 1 (gBin dMod (gBin dAdd (gBin dAdd (gBin dMul (gVar 1) (gVar 1)) (gBin dMod (gVar 2) (gC (.int 1000000000000000003)))) (gC (.int 11))) (gBin dSub (gBin dMul (gBin dPow (gC (.int 2)) (gC (.int 64))) (gBin dPow (gC (.int 2)) (gC (.int 63)))) (gC (.int 1)))))) (qSeq (qSet 3 (gLc (gItems (gScrSl 0 gNo (gSo (gC (.int 63))))) (sName 2) (gB (gBin dGe (gVar 2) (gBin dPow (gC (.int 10)) (gC (.int 18))))) (gBin dSub (gVar 2) (gBin dPow (gC (.int 10)) (gC (.int 18)))) [2])) (qRetO (gLst (gCons (gVar 3) (gCons (gBin dAdd (gLc (gItems (gScrSl 0 gNo (gSo (gC (.int 63))))) (sName 2) gYes (gBin dMod (gVar 2) (gC (.int 1000003))) [2]) (gLst (gCons (gC (.int 41)) gNil))) (gCons (gC (.int 0)) (gCons (gVar 1) gNil)))))))))
def m__law_reel := mScrN 4 g__law_reel
def g__law_draw : Sx → Option Out :=
  (qSeq (qIf (gB (gBin dNe (gIxO 0 (gC (.int 0))) (gLst gNil))) (qSeq (qSet 2 (gBin dIx (gIxO 0 (gC (.int 0))) (gC (.int 0)))) (qSeq (qSetO 0 (gC (.int 0)) (gBin dAdd (gBin dMul (gLst (gCons (gBin dDiv (gVar 2) (gVar 1)) gNil)) (gCall dInt (gCons (gBin dGe (gVar 2) (gVar 1)) gNil))) (gSl (gIxO 0 (gC (.int 0))) (gSo (gC (.int 1))) gNo))) (qRet (gBin dMod (gVar 2) (gVar 1))))) qNx) (qSeq (qSetO 0 (gC (.int 2)) (gBin dAdd (gIxO 0 (gC (.int 2))) (gC (.int 1)))) (qSeq (qSet 3 (gBin dIx (gIxO 0 (gC (.int 1))) (gBin dMod (gIxO 0 (gC (.int 2))) (gCall dLen (gCons (gIxO 0 (gC (.int 1))) gNil))))) (qSeq (qSet 4 (gBin dAdd (gBin dAdd (gBin dMul (gIxO 0 (gC (.int 3))) (gIxO 0 (gC (.int 3)))) (gBin dMul (gBin dAdd (gVar 3) (gC (.int 7))) (gC (.int 69621)))) (gBin dMul (gIxO 0 (gC (.int 2))) (gC (.int 1000003))))) (qSeq (qSetO 0 (gC (.int 3)) (gBin dMod (gVar 4) (gBin dSub (gBin dMul (gBin dPow (gC (.int 2)) (gC (.int 64))) (gBin dPow (gC (.int 2)) (gC (.int 63)))) (gC (.int 1))))) (qRet (gBin dMod (gBin dDiv (gIxO 0 (gC (.int 3))) (gBin dPow (gC (.int 2)) (gC (.int 40)))) (gVar 1))))))))
def m__law_draw := mIO 5 g__law_draw
def g__law_net : Sx → Option Out :=
  (qSeq (qSet 2 (gLst (gCons (gIO 0 1 m__law_draw (gCons (gC (.int 4)) gNil)) (gCons (gBin dAdd (gC (.int 1)) (gIO 0 1 m__law_draw (gCons (gC (.int 4)) gNil))) (gCons (gBin dAdd (gC (.int 2)) (gIO 0 1 m__law_draw (gCons (gC (.int 7)) gNil))) (gCons (gIO 0 1 m__law_draw (gCons (gC (.int 25)) gNil)) gNil)))))) (qSeq (qSet 3 (gBin dIx (gVar 2) (gIO 0 1 m__law_draw (gCons (gC (.int 4)) gNil)))) (qSeq (qSet 4 (gBin dIx (gLst (gCons (gIO 0 1 m__law_draw (gCons (gC (.int 9)) gNil)) (gCons (gIO 0 1 m__law_draw (gCons (gC (.int 16)) gNil)) (gCons (gIO 0 1 m__law_draw (gCons (gBin dAdd (gVar 1) (gC (.int 1))) gNil)) gNil)))) (gIO 0 1 m__law_draw (gCons (gC (.int 3)) gNil)))) (qSeq (qSet 5 (gBin dIx (gLst (gCons (gC (.str "a")) (gCons (gC (.str "ab")) (gCons (gC (.str "aab")) (gCons (gC (.str "abc")) (gCons (gC (.str "abcdxyz")) (gCons (gC (.str "abcdefghijklmnopqrstuvwxyz")) gNil))))))) (gIO 0 1 m__law_draw (gCons (gC (.int 6)) gNil)))) (qSeq (qSet 6 (gBin dAdd (gC (.int 1)) (gIO 0 1 m__law_draw (gCons (gCall dMax2 (gCons (gC (.int 1)) (gCons (gVar 3) gNil))) gNil)))) (qSeq (qOwn 7 (gLst gNil)) (qSeq (qFor (gRng1 (gCons (gBin dMul (gCall dMin2 (gCons (gVar 4) (gCons (gVar 1) gNil))) (gCall dInt (gCons (gBin dGt (gVar 3) (gC (.int 0))) gNil))) gNil)) (sName 8) (qDrop (gApp 7 (gTup (gCons (gIO 0 1 m__law_draw (gCons (gVar 6) gNil)) (gCons (gIO 0 1 m__law_draw (gCons (gVar 6) gNil)) (gCons (gBin dIx (gVar 5) (gIO 0 1 m__law_draw (gCons (gCall dLen (gCons (gVar 5) gNil)) gNil))) gNil))))))) (qRet (gTup (gCons (gVar 3) (gCons (gCall dTuple (gCons (gVar 7) gNil)) gNil)))))))))))
def m__law_net := mIO 9 g__law_net
def g_is_whole : Sx → Option Out :=
  (qRet (gAndV (gIsi "int" (gVar 0)) (gAndV (gNotV (gIsi "bool" (gVar 0))) (gBin dGe (gVar 0) (gC (.int 0))))))
def m_is_whole := mF 1 g_is_whole
def g_is_row : Sx → Option Out :=
  (qRet (gAndV (gIsi2 "list" "tuple" (gVar 0)) (gBin dEq (gCall dLen (gCons (gVar 0) gNil)) (gVar 1))))
def m_is_row := mF 2 g_is_row
def g_is_company : Sx → Option Out :=
  (qRet (gAndV (gIsi "str" (gVar 0)) (gAndV (gBin dEq (gCall dLen (gCons (gVar 0) gNil)) (gC (.int 1))) (gBin dIn (gVar 0) (gC (.str "abcdefghijklmnopqrstuvwxyz"))))))
def m_is_company := mF 1 g_is_company
def g_is_line_of : Sx → Option Out :=
  (qSeq (qIf (gOr (gNot (gB (gCallF 2 m_is_row (gCons (gVar 1) (gCons (gC (.int 3)) gNil))))) (gNot (gB (gCallF 1 m_is_company (gCons (gBin dIx (gVar 1) (gC (.int 2))) gNil))))) (qRet (gC (.bool false))) qNx) (qRet (gCall dAll (gCons (gLc (gItems (gSl (gVar 1) gNo (gSo (gC (.int 2))))) (sName 2) gYes (gAndV (gCallF 1 m_is_whole (gCons (gVar 2) gNil)) (gBin dLt (gVar 2) (gVar 0))) [2]) gNil))))
def m_is_line_of := mF 3 g_is_line_of
def g_web_of : Sx → Option Out :=
  (qSeq (qIf (gOr (gNot (gB (gCallF 1 m_is_whole (gCons (gVar 0) gNil)))) (gNot (gB (gIsi2 "list" "tuple" (gVar 1))))) qNone qNx) (qSeq (qIf (gNot (gB (gCall dAll (gCons (gLc (gItems (gVar 1)) (sName 2) gYes (gCallF 2 m_is_line_of (gCons (gVar 0) (gCons (gVar 2) gNil))) [2]) gNil)))) qNone qNx) (qRet (gTup (gCons (gVar 0) (gCons (gCall dTuple (gCons (gLc (gItems (gVar 1)) (sName 2) gYes (gCall dTuple (gCons (gVar 2) gNil)) [2]) gNil)) gNil))))))
def m_web_of := mF 3 g_web_of
def g_need_place : Sx → Option Out :=
  (qIf (gOr (gNot (gB (gCallF 1 m_is_whole (gCons (gVar 1) gNil)))) (gB (gBin dGe (gVar 1) (gBin dIx (gVar 0) (gC (.int 0)))))) qNone qNx)
def m_need_place := mF 2 g_need_place
def g_need_company : Sx → Option Out :=
  (qIf (gNot (gB (gCallF 1 m_is_company (gCons (gVar 0) gNil)))) qNone qNx)
def m_need_company := mF 1 g_need_company
def g_kept : Sx → Option Out :=
  (qRet (gCallF 2 m_web_of (gCons (gBin dIx (gVar 0) (gC (.int 0))) (gCons (gBin dIx (gVar 0) (gC (.int 1))) gNil))))
def m_kept := mF 1 g_kept
def g_with_line : Sx → Option Out :=
  (qSeq (qDrop (gCallF 2 m_need_place (gCons (gVar 0) (gCons (gVar 1) gNil)))) (qSeq (qDrop (gCallF 2 m_need_place (gCons (gVar 0) (gCons (gVar 2) gNil)))) (qSeq (qDrop (gCallF 1 m_need_company (gCons (gVar 3) gNil))) (qSeq (qAsg (sTup 2 (sCons (sName 4) (sCons (sName 5) sNil))) (gCallF 1 m_kept (gCons (gVar 0) gNil))) (qRet (gTup (gCons (gVar 4) (gCons (gBin dAdd (gVar 5) (gTup (gCons (gTup (gCons (gVar 1) (gCons (gVar 2) (gCons (gVar 3) gNil)))) gNil))) gNil))))))))
def m_with_line := mF 6 g_with_line
def g_need_line : Sx → Option Out :=
  (qIf (gOr (gNot (gB (gCallF 1 m_is_whole (gCons (gVar 1) gNil)))) (gB (gBin dGe (gVar 1) (gCall dLen (gCons (gBin dIx (gVar 0) (gC (.int 1))) gNil))))) qNone qNx)
def m_need_line := mF 2 g_need_line
def g_without_line : Sx → Option Out :=
  (qSeq (qDrop (gCallF 2 m_need_line (gCons (gVar 0) (gCons (gVar 1) gNil)))) (qSeq (qAsg (sTup 2 (sCons (sName 2) (sCons (sName 3) sNil))) (gCallF 1 m_kept (gCons (gVar 0) gNil))) (qRet (gTup (gCons (gVar 2) (gCons (gBin dAdd (gSl (gVar 3) gNo (gSo (gVar 1))) (gSl (gVar 3) (gSo (gBin dAdd (gVar 1) (gC (.int 1)))) gNo)) gNil))))))
def m_without_line := mF 4 g_without_line
def g_painted : Sx → Option Out :=
  (qSeq (qDrop (gCallF 2 m_need_line (gCons (gVar 0) (gCons (gVar 1) gNil)))) (qSeq (qDrop (gCallF 1 m_need_company (gCons (gVar 2) gNil))) (qSeq (qAsg (sTup 2 (sCons (sName 3) (sCons (sName 4) sNil))) (gCallF 1 m_kept (gCons (gVar 0) gNil))) (qRet (gTup (gCons (gVar 3) (gCons (gBin dAdd (gBin dAdd (gSl (gVar 4) gNo (gSo (gVar 1))) (gTup (gCons (gBin dAdd (gSl (gBin dIx (gVar 4) (gVar 1)) gNo (gSo (gC (.int 2)))) (gTup (gCons (gVar 2) gNil))) gNil))) (gSl (gVar 4) (gSo (gBin dAdd (gVar 1) (gC (.int 1)))) gNo)) gNil)))))))
def m_painted := mF 5 g_painted
def g_merged : Sx → Option Out :=
  (qSeq (qDrop (gCallF 1 m_need_company (gCons (gVar 1) gNil))) (qSeq (qDrop (gCallF 1 m_need_company (gCons (gVar 2) gNil))) (qSeq (qAsg (sTup 2 (sCons (sName 3) (sCons (sName 4) sNil))) (gCallF 1 m_kept (gCons (gVar 0) gNil))) (qRet (gTup (gCons (gVar 3) (gCons (gCall dTuple (gCons (gLc (gItems (gVar 4)) (sName 5) gYes (gBin dAdd (gSl (gVar 5) gNo (gSo (gC (.int 2)))) (gTup (gCons (gIf (gB (gBin dEq (gBin dIx (gVar 5) (gC (.int 2))) (gVar 1))) (gVar 2) (gBin dIx (gVar 5) (gC (.int 2)))) gNil))) [5]) gNil)) gNil)))))))
def m_merged := mF 6 g_merged
def g_is_end : Sx → Option Out :=
  (qSeq (qIf (gOr (gNot (gB (gCallF 2 m_is_row (gCons (gVar 1) (gCons (gC (.int 2)) gNil))))) (gOr (gNot (gB (gCallF 1 m_is_whole (gCons (gBin dIx (gVar 1) (gC (.int 0))) gNil)))) (gNot (gB (gCallF 1 m_is_whole (gCons (gBin dIx (gVar 1) (gC (.int 1))) gNil)))))) (qRet (gC (.bool false))) qNx) (qRet (gAndV (gBin dLt (gBin dIx (gVar 1) (gC (.int 0))) (gCall dLen (gCons (gBin dIx (gVar 0) (gC (.int 1))) gNil))) (gBin dLt (gBin dIx (gVar 1) (gC (.int 1))) (gC (.int 2))))))
def m_is_end := mF 2 g_is_end
def g_need_end : Sx → Option Out :=
  (qSeq (qIf (gNot (gB (gCallF 2 m_is_end (gCons (gVar 0) (gCons (gVar 1) gNil))))) qNone qNx) (qRet (gTup (gCons (gBin dIx (gVar 1) (gC (.int 0))) (gCons (gBin dIx (gVar 1) (gC (.int 1))) gNil)))))
def m_need_end := mF 2 g_need_end
def g_loosened : Sx → Option Out :=
  (qSeq (qAsg (sTup 2 (sCons (sName 2) (sCons (sName 3) sNil))) (gCallF 2 m_need_end (gCons (gVar 0) (gCons (gVar 1) gNil)))) (qSeq (qAsg (sTup 2 (sCons (sName 4) (sCons (sName 5) sNil))) (gCallF 1 m_kept (gCons (gVar 0) gNil))) (qSeq (qSet 6 (gLc (gRng1 (gCons (gC (.int 2)) gNil)) (sName 7) gYes (gIf (gB (gBin dEq (gVar 7) (gVar 3))) (gVar 4) (gBin dIx (gBin dIx (gVar 5) (gVar 2)) (gVar 7))) [7])) (qRet (gTup (gCons (gBin dAdd (gVar 4) (gC (.int 1))) (gCons (gBin dAdd (gBin dAdd (gSl (gVar 5) gNo (gSo (gVar 2))) (gTup (gCons (gTup (gCons (gBin dIx (gVar 6) (gC (.int 0))) (gCons (gBin dIx (gVar 6) (gC (.int 1))) (gCons (gBin dIx (gBin dIx (gVar 5) (gVar 2)) (gC (.int 2))) gNil)))) gNil))) (gSl (gVar 5) (gSo (gBin dAdd (gVar 2) (gC (.int 1)))) gNo)) gNil)))))))
def m_loosened := mF 8 g_loosened
def g__law_draw_k15 : Sx → Option Out :=
  (qSeq (qIf (gB (gBin dGt (gIxO 0 (gC (.int 0))) (gC (.int 0)))) (qSeq (qSet 2 (gBin dMod (gIxO 0 (gC (.int 0))) (gVar 1))) (qSeq (qSetO 0 (gC (.int 0)) (gBin dDiv (gIxO 0 (gC (.int 0))) (gVar 1))) (qRet (gVar 2)))) qNx) (qSeq (qSetO 0 (gC (.int 2)) (gBin dAdd (gIxO 0 (gC (.int 2))) (gC (.int 1)))) (qSeq (qSet 3 (gBin dMod (gBin dMul (gIxO 0 (gC (.int 1))) (gIxO 0 (gC (.int 1)))) (gC (.int 2305843009213693951)))) (qSeq (qSetO 0 (gC (.int 1)) (gBin dMod (gBin dAdd (gBin dAdd (gVar 3) (gBin dMul (gBin dMul (gC (.int 7919)) (gIxO 0 (gC (.int 2)))) (gIxO 0 (gC (.int 1))))) (gC (.int 104729))) (gC (.int 2305843009213693951)))) (qRet (gBin dMod (gBin dDiv (gIxO 0 (gC (.int 1))) (gC (.int 65537))) (gVar 1)))))))
def m__law_draw_k15 := mIO 4 g__law_draw_k15
def g_web_text : Sx → Option Out :=
  (qSeq (qAsg (sTup 2 (sCons (sName 1) (sCons (sName 2) sNil))) (gCallF 1 m_kept (gCons (gVar 0) gNil))) (qSeq (qSet 3 (gLc (gItems (gVar 2)) (sTup 3 (sCons (sName 4) (sCons (sName 5) (sCons (sName 6) sNil)))) gYes (gBin dAdd (gBin dAdd (gBin dAdd (gBin dAdd (gBin dAdd (gC (.str "line ")) (gCall dStrI (gCons (gVar 4) gNil))) (gC (.str " "))) (gCall dStrI (gCons (gVar 5) gNil))) (gC (.str " "))) (gVar 6)) [4, 5, 6])) (qRet (gBin dJoin (gC (.str "\n")) (gBin dAdd (gLst (gCons (gBin dAdd (gC (.str "places ")) (gCall dStrI (gCons (gVar 1) gNil))) gNil)) (gVar 3))))))
def m_web_text := mF 7 g_web_text
def g_is_number_word : Sx → Option Out :=
  (qRet (gOrV (gBin dEq (gVar 0) (gC (.str "0"))) (gAndV (gBin dNe (gVar 0) (gC (.str ""))) (gAndV (gBin dNe (gBin dIx (gVar 0) (gC (.int 0))) (gC (.str "0"))) (gCall dAll (gCons (gLc (gItems (gVar 0)) (sName 1) gYes (gBin dIn (gVar 1) (gC (.str "0123456789"))) [1]) gNil))))))
def m_is_number_word := mF 2 g_is_number_word
def g_line_read : Sx → Option Out :=
  (qSeq (qAsg (sStar1 (sCons (sName 1) (sCons (sName 2) sNil))) (gBin dSplit (gVar 0) (gC (.str " ")))) (qSeq (qIf (gOr (gB (gBin dNe (gVar 1) (gC (.str "line")))) (gOr (gB (gBin dNe (gCall dLen (gCons (gVar 2) gNil)) (gC (.int 3)))) (gNot (gB (gCallF 1 m_is_company (gCons (gBin dIx (gVar 2) (gC (.int 2))) gNil)))))) (qRet (gC .none)) qNx) (qSeq (qIf (gOr (gNot (gB (gCallF 1 m_is_number_word (gCons (gBin dIx (gVar 2) (gC (.int 0))) gNil)))) (gNot (gB (gCallF 1 m_is_number_word (gCons (gBin dIx (gVar 2) (gC (.int 1))) gNil))))) (qRet (gC .none)) qNx) (qRet (gTup (gCons (gCall dIntT (gCons (gBin dIx (gVar 2) (gC (.int 0))) gNil)) (gCons (gCall dIntT (gCons (gBin dIx (gVar 2) (gC (.int 1))) gNil)) (gCons (gBin dIx (gVar 2) (gC (.int 2))) gNil))))))))
def m_line_read := mF 3 g_line_read
def g_read_web : Sx → Option Out :=
  (qSeq (qAsg (sStar1 (sCons (sName 1) (sCons (sName 2) sNil))) (gIf (gB (gIsi "str" (gVar 0))) (gBin dSplit (gVar 0) (gC (.str "\n"))) (gLst (gCons (gC (.str "")) gNil)))) (qSeq (qAsg (sTup 3 (sCons (sName 3) (sCons (sName 4) (sCons (sName 5) sNil)))) (gBin dPart (gVar 1) (gC (.str " ")))) (qSeq (qIf (gOr (gB (gBin dNe (gVar 3) (gC (.str "places")))) (gNot (gB (gCallF 1 m_is_number_word (gCons (gVar 5) gNil))))) qNone qNx) (qSeq (qSet 6 (gLc (gItems (gVar 2)) (sName 7) gYes (gCallF 1 m_line_read (gCons (gVar 7) gNil)) [7])) (qSeq (qIf (gB (gBin dIn (gC .none) (gVar 6))) qNone qNx) (qRet (gCallF 2 m_web_of (gCons (gCall dIntT (gCons (gVar 5) gNil)) (gCons (gVar 6) gNil)))))))))
def m_read_web := mF 8 g_read_web
def g_end_of : Sx → Option Out :=
  (qRet (gTup (gCons (gCall dIntT (gCons (gSl (gVar 0) gNo (gSo (gUn dNeg (gC (.int 1))))) gNil)) (gCons (gBin dSIndex (gC (.str "+-")) (gBin dIx (gVar 0) (gUn dNeg (gC (.int 1))))) gNil))))
def m_end_of := mF 1 g_end_of
def g_is_end_word : Sx → Option Out :=
  (qRet (gAndV (gCallF 1 m_is_number_word (gCons (gSl (gVar 0) gNo (gSo (gUn dNeg (gC (.int 1))))) gNil)) (gBin dIn (gBin dIx (gVar 0) (gUn dNeg (gC (.int 1)))) (gC (.str "+-")))))
def m_is_end_word := mF 1 g_is_end_word
def g_end_word : Sx → Option Out :=
  (qRet (gBin dAdd (gCall dStrI (gCons (gBin dIx (gVar 0) (gC (.int 0))) gNil)) (gBin dIx (gC (.str "+-")) (gBin dIx (gVar 0) (gC (.int 1))))))
def m_end_word := mF 1 g_end_word
def g_ride_text : Sx → Option Out :=
  (qRet (gBin dJoin (gC (.str " ")) (gLc (gItems (gVar 0)) (sName 1) gYes (gCallF 1 m_end_word (gCons (gVar 1) gNil)) [1])))
def m_ride_text := mF 2 g_ride_text
def g_read_ride : Sx → Option Out :=
  (qSeq (qIf (gB (gBin dEq (gVar 0) (gC (.str "")))) (qRet (gLst gNil)) qNx) (qSeq (qSet 1 (gIf (gB (gIsi "str" (gVar 0))) (gBin dSplit (gVar 0) (gC (.str " "))) (gLst (gCons (gC (.str "")) gNil)))) (qSeq (qIf (gNot (gB (gCall dAll (gCons (gLc (gItems (gVar 1)) (sName 2) gYes (gAndV (gBin dNe (gVar 2) (gC (.str ""))) (gCallF 1 m_is_end_word (gCons (gVar 2) gNil))) [2]) gNil)))) qNone qNx) (qRet (gLc (gItems (gVar 1)) (sName 2) gYes (gCallF 1 m_end_of (gCons (gVar 2) gNil)) [2])))))
def m_read_ride := mF 3 g_read_ride
def g__law_loose : Sx → Option Out :=
  (qSeq (qOwn 4 (gBin dSplit (gBin dIx (gVar 0) (gBin dAdd (gVar 2) (gC (.int 1)))) (gC (.str " ")))) (qSeq (qSetO 4 (gBin dAdd (gC (.int 1)) (gVar 3)) (gCall dStrI (gCons (gBin dIx (gVar 1) (gC (.int 0))) gNil))) (qSeq (qSet 5 (gBin dAdd (gLst (gCons (gBin dAdd (gC (.str "places ")) (gCall dStrI (gCons (gBin dAdd (gBin dIx (gVar 1) (gC (.int 0))) (gC (.int 1))) gNil))) gNil)) (gSl (gVar 0) (gSo (gC (.int 1))) (gSo (gBin dAdd (gVar 2) (gC (.int 1))))))) (qRet (gBin dAdd (gBin dAdd (gVar 5) (gLst (gCons (gBin dJoin (gC (.str " ")) (gVar 4)) gNil))) (gSl (gVar 0) (gSo (gBin dAdd (gVar 2) (gC (.int 2)))) gNo))))))
def m__law_loose := mF 6 g__law_loose
def g__law_right_k57 : Sx → Option Out :=
  (qSeq (qAsg (sTup 2 (sCons (sName 2) (sCons (sName 3) sNil))) (gVar 1)) (qSeq (qSet 4 (gBin dSplit (gCallF 1 m_web_text (gCons (gVar 1) gNil)) (gC (.str "\n")))) (qSeq (qPar 5 6 (gCons (gIO 0 1 m__law_draw (gCons (gVar 2) gNil)) (gCons (gIO 0 1 m__law_draw (gCons (gVar 2) gNil)) gNil))) (qSeq (qAsg (sTup 2 (sCons (sName 7) (sCons (sName 8) sNil))) (gTup (gCons (gBin dIx (gC (.str "abcq")) (gIO 0 1 m__law_draw (gCons (gC (.int 4)) gNil))) (gCons (gBin dIx (gC (.str "abzq")) (gIO 0 1 m__law_draw (gCons (gC (.int 4)) gNil))) gNil)))) (qSeq (qPar 9 10 (gCons (gIO 0 1 m__law_draw (gCons (gCall dLen (gCons (gVar 3) gNil)) gNil)) (gCons (gIO 0 1 m__law_draw (gCons (gC (.int 2)) gNil)) gNil))) (qSeq (qSet 11 (gBin dJoin (gC (.str " ")) (gLst (gCons (gC (.str "line")) (gCons (gCall dStrI (gCons (gVar 5) gNil)) (gCons (gCall dStrI (gCons (gVar 6) gNil)) (gCons (gVar 7) gNil))))))) (qSeq (qOwn 12 (gLst (gCons (gTup (gCons (gCallF 4 m_with_line (gCons (gVar 1) (gCons (gVar 5) (gCons (gVar 6) (gCons (gVar 7) gNil))))) (gCons (gBin dAdd (gVar 4) (gLst (gCons (gVar 11) gNil))) gNil))) gNil))) (qSeq (qDrop (gApp 12 (gTup (gCons (gCallF 2 m_without_line (gCons (gVar 1) (gCons (gVar 9) gNil))) (gCons (gBin dAdd (gSl (gVar 4) gNo (gSo (gBin dAdd (gVar 9) (gC (.int 1))))) (gSl (gVar 4) (gSo (gBin dAdd (gVar 9) (gC (.int 2)))) gNo)) gNil))))) (qSeq (qDrop (gApp 12 (gTup (gCons (gCallF 3 m_painted (gCons (gVar 1) (gCons (gVar 9) (gCons (gVar 7) gNil)))) (gCons (gBin dAdd (gBin dAdd (gSl (gVar 4) gNo (gSo (gBin dAdd (gVar 9) (gC (.int 1))))) (gLst (gCons (gBin dAdd (gSl (gBin dIx (gVar 4) (gBin dAdd (gVar 9) (gC (.int 1)))) gNo (gSo (gUn dNeg (gC (.int 1))))) (gVar 7)) gNil))) (gSl (gVar 4) (gSo (gBin dAdd (gVar 9) (gC (.int 2)))) gNo)) gNil))))) (qSeq (qSet 13 (gBin dAdd (gLst (gCons (gBin dIx (gVar 4) (gC (.int 0))) gNil)) (gLc (gItems (gSl (gVar 4) (gSo (gC (.int 1))) gNo)) (sName 16) gYes (gBin dAdd (gSl (gVar 16) gNo (gSo (gUn dNeg (gC (.int 1))))) (gBin dIx (gLst (gCons (gBin dIx (gVar 16) (gUn dNeg (gC (.int 1)))) (gCons (gVar 8) gNil))) (gCall dInt (gCons (gBin dEq (gBin dIx (gVar 16) (gUn dNeg (gC (.int 1)))) (gVar 7)) gNil)))) [16]))) (qSeq (qDrop (gApp 12 (gTup (gCons (gCallF 3 m_merged (gCons (gVar 1) (gCons (gVar 7) (gCons (gVar 8) gNil)))) (gCons (gVar 13) gNil))))) (qSeq (qDrop (gApp 12 (gTup (gCons (gCallF 2 m_loosened (gCons (gVar 1) (gCons (gTup (gCons (gVar 9) (gCons (gVar 10) gNil))) gNil))) (gCons (gCallF 4 m__law_loose (gCons (gVar 4) (gCons (gVar 1) (gCons (gVar 9) (gCons (gVar 10) gNil))))) gNil))))) (qSeq (qFor (gItems (gVar 12)) (sTup 2 (sCons (sName 14) (sCons (sName 13) sNil))) (qSeq (qSet 15 (gCallF 1 m_web_text (gCons (gVar 14) gNil))) (qIf (gOr (gB (gBin dNe (gVar 15) (gBin dJoin (gC (.str "\n")) (gVar 13)))) (gOr (gB (gBin dNe (gCallF 1 m_read_web (gCons (gVar 15) gNil)) (gVar 14))) (gB (gBin dNe (gBin dEq (gVar 15) (gBin dJoin (gC (.str "\n")) (gVar 4))) (gBin dEq (gVar 14) (gVar 1)))))) (qRet (gC (.bool false))) qNx))) (qRet (gBin dEq (gCallF 1 m_read_web (gCons (gBin dJoin (gC (.str "\n")) (gVar 4)) gNil)) (gVar 1))))))))))))))))
def m__law_right_k57 := mIO 17 g__law_right_k57
def g__law_ends_k57 : Sx → Option Out :=
  (qRet (gLc (gRng1 (gCons (gIO 0 1 m__law_draw (gCons (gC (.int 9)) gNil)) gNil)) (sName 1) gYes (gTup (gCons (gIO 0 1 m__law_draw (gCons (gC (.int 60)) gNil)) (gCons (gIO 0 1 m__law_draw (gCons (gC (.int 2)) gNil)) gNil))) [1]))
def m__law_ends_k57 := mIO 2 g__law_ends_k57
end Lw

set_option maxHeartbeats 4000000
namespace Fu
open PySem
/-! ### comprehensions over typed items -/
theorem turns_typed {α : Type} {gg : D → Sx → Option Sx} {gt : M Bool} {ge : M D} {vs : List Nat} {b : α → Bool} {enc f : α → D} {w : List (Option R)} {os : List (Option Cell)} :
    ∀ (xs : List α) (sl : List (Option R)), wipeS sl vs = w → (∀ x ∈ xs, ∃ sl1, gg (enc x) ⟨w, os⟩ = some ⟨sl1, os⟩ ∧ wipeS sl1 vs = w ∧ gt ⟨sl1, os⟩ = some (b x, ⟨sl1, os⟩) ∧ (b x = true → ge ⟨sl1, os⟩ = some (f x, ⟨sl1, os⟩))) →
      ∃ sl', wipeS sl' vs = w ∧ gTurns gg gt ge vs (xs.map enc) ⟨sl, os⟩ = some ((xs.filter b).map f, ⟨sl', os⟩)
  | [], sl, e, _ => ⟨sl, e, rfl⟩
  | x :: xs, sl, e, h => by
    obtain ⟨sl1, h1, h2, h3, h4⟩ := h x List.mem_cons_self
    obtain ⟨sl', e', ih⟩ := turns_typed xs sl1 h2 fun y hy => h y (List.mem_cons_of_mem _ hy)
    refine ⟨sl', e', ?_⟩
    rw [List.map_cons, gTurns]
    simp only [e, h1, h3, Option.bind_some]
    cases hb : b x with
    | true => simp [h4 hb, ih, hb]
    | false => simp [ih, hb]
theorem ev_lcX {α : Type} {S : Sx} {Q : D → Sx → Prop} {gi : M (List D)} {gg : D → Sx → Option Sx} {gt : M Bool} {ge : M D} {vs : List Nat} {xs : List α} {enc : α → D} {b : α → Bool} {g : α → D}
    (h : Ev (gi S) fun ds S1 => ds = xs.map enc ∧ (∀ x ∈ xs, Es (gg (enc x) ⟨wipeS S1.sl vs, S1.os⟩) fun S2 => wipeS S2.sl vs = wipeS S1.sl vs ∧ S2.os = S1.os ∧ Ev (gt S2) fun c S3 => S3 = S2 ∧ c = b x ∧ (b x = true → Ev (ge S2) fun e S4 => e = g x ∧ S4 = S2)) ∧ Q (.list ((xs.filter b).map g)) S1) : Ev (gLc gi gg gt ge vs S) Q := by
  obtain ⟨ds, ⟨sl1, os1⟩, e1, rfl, h1, q⟩ := h
  obtain ⟨sl', e', ht⟩ := turns_typed (gg := gg) (gt := gt) (ge := ge) (b := b) (enc := enc) (f := g) xs sl1 rfl fun d hd => by
    obtain ⟨⟨sl2, os2⟩, e2, e3, e4, c, S3, e5, e6, e7, e8⟩ := h1 d hd
    cases e4
    subst e7 e6
    exact ⟨sl2, e2, e3, e5, fun hb => (e8 hb).eq⟩
  refine ⟨_, _, ?_, q⟩
  unfold gLc
  rw [e1]
  simp only [Option.bind_some, ht, backS_same e']
theorem ev_mapX {α : Type} {S : Sx} {Q : D → Sx → Prop} {gi : M (List D)} {gg : D → Sx → Option Sx} {ge : M D} {vs : List Nat} {xs : List α} {enc : α → D} {g : α → D}
    (h : Ev (gi S) fun ds S1 => ds = xs.map enc ∧ (∀ x ∈ xs, Es (gg (enc x) ⟨wipeS S1.sl vs, S1.os⟩) fun S2 => wipeS S2.sl vs = wipeS S1.sl vs ∧ S2.os = S1.os ∧ Ev (ge S2) fun e S4 => e = g x ∧ S4 = S2) ∧ Q (.list (xs.map g)) S1) : Ev (gLc gi gg gYes ge vs S) Q := by
  refine ev_lcX (xs := xs) (enc := enc) (b := fun _ => true) (g := g) ?_
  refine h.mono fun ds S1 h => ⟨h.1, fun d hd => ?_, by rw [List.filter_eq_self.mpr fun _ _ => rfl]; exact h.2.2⟩
  obtain ⟨S2, e2, e3, e4, e5⟩ := h.2.1 d hd
  exact ⟨S2, e2, e3, e4, ev_yes ⟨rfl, rfl, fun _ => e5⟩⟩
/-- loops over typed items -/
theorem eo_loopX {α : Type} {S : Sx} {Z : Out → Prop} {gg : D → Sx → Option Sx} {body : Sx → Option Out} {xs : List α} {enc : α → D} (I : Nat → Sx → Prop) (h0 : I 0 S) (hs : ∀ i x S, xs[i]? = some x → I i S → Es (gg (enc x) S) fun S1 => Eo (body S1) fun o => ∃ S2, o = .nx S2 ∧ I (i + 1) S2) (hz : ∀ S', I xs.length S' → Z (.nx S')) : Eo (gLoop gg body (xs.map enc) S) Z := by
  refine eo_loop I h0 (fun i d S hd hI => ?_) fun S' h => hz S' (by simpa using h)
  rw [List.getElem?_map] at hd
  obtain ⟨x, hx, rfl⟩ := Option.map_eq_some_iff.mp hd
  exact hs i x S hx hI
/-! ### lists or tuples -/
def seqOf : D → Option (List D)
  | .list xs => some xs
  | .tuple xs => some xs
  | _ => none
def Sq (d : D) (xs : List D) : Prop := d = .list xs ∨ d = .tuple xs
theorem sq_l (xs : List D) : Sq (.list xs) xs := .inl rfl
theorem sq_t (xs : List D) : Sq (.tuple xs) xs := .inr rfl
theorem sq_of {d : D} {xs : List D} (h : seqOf d = some xs) : Sq d xs := by
  cases d <;> simp [seqOf] at h
  · exact .inl (by rw [h])
  · exact .inr (by rw [h])
theorem Sq.of {d : D} {xs : List D} (h : Sq d xs) : seqOf d = some xs := by rcases h with rfl | rfl <;> rfl
theorem Sq.isi {d : D} {xs : List D} (h : Sq d xs) : (isT "list" d || isT "tuple" d) = true := by rcases h with rfl | rfl <;> rfl
theorem isi_seq (d : D) : (isT "list" d || isT "tuple" d) = (seqOf d).isSome := by cases d <;> rfl
section
variable {Q : D → Prop} {d x : D} {xs : List D} {i : Int}
theorem ed_ixQ (s : Sq d xs) (h0 : 0 ≤ i) (e : xs[i.toNat]? = some x) (h : Q x) : Ed (dIx d (.int i)) Q := by
  rcases s with rfl | rfl
  · exact ed_ixL h0 e h
  · exact ed_ixT h0 e h
theorem ed_lenQ (s : Sq d xs) (h : Q (.int xs.length)) : Ed (dLen [d]) Q := by rcases s with rfl | rfl <;> exact ⟨_, rfl, h⟩
theorem ed_itQ {Q : List D → Prop} (s : Sq d xs) (h : Q xs) : Ed (itemsOf d) Q := by rcases s with rfl | rfl <;> exact ⟨_, rfl, h⟩
theorem ed_slQ {lo hi : Option Int} (s : Sq d xs) (h : ∀ z, Sq z (cutL xs lo hi) → Q z) : Ed (dSl d lo hi) Q := by
  rcases s with rfl | rfl
  · exact ⟨_, rfl, h _ (sq_l _)⟩
  · exact ⟨_, rfl, h _ (sq_t _)⟩
theorem ed_tupQ (s : Sq d xs) (h : Q (.tuple xs)) : Ed (dTuple [d]) Q := by rcases s with rfl | rfl <;> exact ⟨_, rfl, h⟩
end
theorem all_mapX {α : Type} (f : α → Bool) (xs : List α) {Q : D → Prop} (h : Q (.bool (xs.all f))) : Ed (dAll [.list (xs.map fun a => .bool (f a))]) Q := ⟨_, all_map f xs, h⟩
/-! ### looks -/
theorem sealS_none (os : List (Option Cell)) : sealS os none = none := rfl
theorem sealS_dat (os : List (Option Cell)) (d : D) : sealS os (some (.dat d)) = some (.dat d) := rfl
theorem sealS_scr (os : List (Option Cell)) (d : List Int) : sealS os (some (.scr d)) = some (.scr d) := rfl
def sealC (os : List (Option Cell)) : Option (Option Cell) → Option R
  | some (some (.lst ds)) => some (.dat (.list ds))
  | some (some (.lR rs)) => ((mapO (snapR os 7) rs).map .list).map .dat
  | _ => none
theorem sealS_own (os : List (Option Cell)) (j : Nat) : sealS os (some (.own j)) = sealC os os[j]? := by
  simp only [sealS, snapR]
  generalize os[j]? = c
  rcases c with _ | _ | c
  · rfl
  · rfl
  · cases c <;> rfl
theorem sealC_lst (os : List (Option Cell)) (ds : List D) : sealC os (some (some (.lst ds))) = some (.dat (.list ds)) := rfl
theorem sealAll_mk {sl sl' : List (Option R)} {os os' : List (Option Cell)} (h : sl.map (sealS os) = sl') (h2 : os.map (fun _ => none) = os') : sealAll ⟨sl, os⟩ = ⟨sl', os'⟩ := by unfold sealAll; rw [h, h2]
end Fu

set_option maxHeartbeats 4000000
namespace Lw
open PySem Fu
local macro_rules | `(tactic| walk_at "e1") => `(tactic| first
  | with_reducible refine eo_seq ?_ | (with_reducible refine then_nx' ?_; refine ⟨?_, ?_, ?_⟩; rotate_left; · (try dsimp only [List.set, List.length_cons, List.length_nil, List.cons_append, List.nil_append, Nat.zero_add, Nat.reduceAdd]); exact rfl) | with_reducible refine then_rt ?_ | with_reducible refine eo_if ?_ | with_reducible refine eo_ret ?_ | with_reducible refine eo_set ?_ | with_reducible refine eo_asg ?_ | with_reducible refine eo_drop ?_ | with_reducible refine eo_nx ?_ | with_reducible refine eo_par ?_ | with_reducible refine eo_own ?_ | with_reducible refine eo_retN ?_ | with_reducible refine eo_for ?_ | with_reducible refine eo_retO ?_
  | with_reducible refine ev_c ?_ | (with_reducible refine ev_var ?_; refine ⟨_, rfl, ?_⟩) | with_reducible refine ev_bin ?_ | with_reducible refine ev_un ?_ | with_reducible refine ev_nil ?_ | with_reducible refine ev_cons ?_
  | with_reducible refine ev_tup ?_ | with_reducible refine ev_lst ?_ | with_reducible refine ev_call ?_ | with_reducible refine ev_callF ?_ | with_reducible refine ev_isi ?_ | with_reducible refine ev_isi2 ?_ | with_reducible refine ev_andV ?_ | with_reducible refine ev_orV ?_ | with_reducible refine ev_notV ?_
  | with_reducible refine ev_B ?_ | with_reducible refine ev_and ?_ | with_reducible refine ev_or ?_ | with_reducible refine ev_not ?_ | with_reducible refine ev_yes ?_ | with_reducible refine ev_if ?_ | with_reducible refine ev_no ?_ | with_reducible refine ev_so ?_ | with_reducible refine ev_sl ?_ | with_reducible refine ev_items ?_
  | (with_reducible refine ev_ixO ?_; refine ⟨_, _, rfl, rfl, ?_⟩) | (with_reducible refine ev_varO ?_; refine ⟨_, _, rfl, rfl, ?_⟩) | (with_reducible refine ev_lenO ?_; refine ⟨_, _, rfl, rfl, ?_⟩) | (with_reducible refine ev_scrSl ?_; refine ⟨_, rfl, ?_⟩) | (with_reducible refine ev_scrLen ?_; refine ⟨_, rfl, ?_⟩) | (with_reducible refine ev_callScr ?_; refine ⟨_, rfl, ?_⟩) | (with_reducible refine ev_OL ?_; refine ⟨_, _, rfl, rfl, ?_⟩) | with_reducible refine ev_OR ?_ | with_reducible refine ev_rep ?_ | with_reducible refine ev_listRng1 ?_ | with_reducible refine eo_setO ?_
  | with_reducible refine es_name ?_ | with_reducible refine es_tup2 ?_ | with_reducible refine es_tup3 ?_
  | with_reducible refine ed_addI ?_ | with_reducible refine ed_subI ?_ | with_reducible refine ed_cmp ?_ | with_reducible refine ed_eqI ?_ | with_reducible refine ed_neI ?_ | with_reducible refine ed_slT ?_ | with_reducible refine ed_slL ?_ | with_reducible refine ed_lenT ?_ | with_reducible refine ed_lenL ?_ | with_reducible refine ed_lenS ?_ | with_reducible refine ed_inS ?_ | with_reducible refine ed_itT ?_ | with_reducible refine ed_itL ?_ | with_reducible refine ed_tupL ?_ | with_reducible refine ed_tupT ?_ | with_reducible refine ed_listL ?_ | with_reducible refine ed_listT ?_ | with_reducible refine ed_neg ?_ | with_reducible refine ed_max ?_ | with_reducible refine ed_min ?_ | with_reducible refine ed_intB ?_
  | with_reducible refine ev_rng1 ?_ | with_reducible refine ev_rng2 ?_)
local macro_rules | `(tactic| walk_at "sd") => `(tactic| first | rfl | assumption | (simp only [decide_eq_true_eq, decide_eq_false_iff_not, Bool.not_eq_true', Bool.not_eq_false', Bool.and_eq_true, Bool.or_eq_true, List.length_map, List.length_cons, List.length_nil, List.length_append, List.length_range] at *; omega))
local macro_rules | `(tactic| walk_at "e2") => `(tactic| first
  | walk_at "e1" | with_reducible refine ⟨_, rfl, ?_⟩ | with_reducible refine ⟨_, _, rfl, ?_⟩
  | with_reducible refine And.intro (Eq.refl (List.length _)) ?_ | with_reducible refine And.intro (Nat.le_of_ble_eq_true (n := List.length _) rfl) ?_
  | with_reducible refine And.intro (Eq.refl (_ : Sx)) (?_ : Ed _ _)
  | ((with_reducible refine And.intro ?_ (And.intro ?_ (?_ : Ev _ _))); (· rfl); (· rfl))
  | ((with_reducible refine ed_ixT ?_ ?_ ?_); (· decide); (· rfl)) | ((with_reducible refine ed_ixL ?_ ?_ ?_); (· decide); (· rfl)) | ((with_reducible refine ed_at ?_ ?_ ?_); (· decide); (· rfl))
  | ((with_reducible refine ed_modI ?_ ?_); (· first | decide | omega))
  | with_reducible exact gives_nx | ((with_reducible refine gives_rt ?_); (· rfl)) | ((with_reducible refine And.intro ?_ ?_); (· exact rfl); (· with_reducible exact Eq.refl (_ : Sx))))
local macro_rules | `(tactic| walk_at "e") => `(tactic| repeat walk_at "e2")
/-- begin a def's spec -/
local macro_rules | `(tactic| walk_at "i") => `(tactic| simp only [initS, List.map_cons, List.map_nil, List.length_cons, List.length_nil, Nat.reduceAdd, Nat.reduceSub, List.replicate, List.cons_append, List.nil_append])
/-- a known truth decides -/
local macro_rules | `(tactic| walk_at "t") => `(tactic| first | ((with_reducible refine split_t ?_ ?_); (· walk_at "sd")) | ((with_reducible refine split_t' ?_ ?_); (· walk_at "sd")))
local macro_rules | `(tactic| walk_at "f") => `(tactic| first | ((with_reducible refine split_f ?_ ?_); (· walk_at "sd")) | ((with_reducible refine split_f' ?_ ?_); (· walk_at "sd")))
/-- all that is seen in a look -/
local macro_rules | `(tactic| walk_at "v") => `(tactic| (rw [sealAll_mk (by (simp only [List.set_cons_zero, List.set_cons_succ, List.map_cons, List.map_nil, sealS_none, sealS_dat, sealS_scr, sealS_own, List.getElem?_cons_zero, List.getElem?_cons_succ, sealC_lst]; rfl)) (by (simp only [List.set_cons_zero, List.set_cons_succ, List.map_cons, List.map_nil]; rfl))]))
/-! ### whole numbers, rows, companies, lines, ends: of anything -/
def wholeD : D → Bool
  | .int i => decide (0 ≤ i)
  | _ => false
def rowD (n : Nat) (d : D) : Bool := match seqOf d with
  | some xs => decide (xs.length = n)
  | none => false
def Let (c : Nat) : Prop := 97 ≤ c ∧ c ≤ 122
instance (c : Nat) : Decidable (Let c) := inferInstanceAs (Decidable (_ ∧ _))
theorem Let.ok {c : Nat} (h : Let c) : c < 0x110000 := by have := h.2; omega
def companyD : D → Bool
  | .str x => match x.cps.toList with
    | [c] => decide (Let c)
    | _ => false
  | _ => false
def atD (d : D) (i : Nat) : D := ((seqOf d).getD []).getD i .none
def lineD (p : Int) (d : D) : Bool := rowD 3 d && companyD (atD d 2) && (match atD d 0 with | .int a => decide (0 ≤ a) && decide (a < p) | _ => false) && (match atD d 1 with | .int a => decide (0 ≤ a) && decide (a < p) | _ => false)
def endD (n : Nat) (d : D) : Bool := match seqOf d with
  | some [.int a, .int s] => decide (0 ≤ a) && decide (0 ≤ s) && decide (a < n) && decide (s < 2)
  | _ => false
theorem companyD_ch {c : Nat} (h : Let c) : companyD (ch c) = true := decide_eq_true h
theorem x_is_whole (d : D) : m_is_whole [d] = some (.bool (wholeD d)) := by
  unfold m_is_whole; refine mF_of ?_; walk_at "i"; unfold g_is_whole
  walk_at "e"
  refine ⟨fun h1 => ?_, fun h1 => ?_⟩
  · walk_at "e"
    refine ⟨fun h2 => ?_, fun h2 => ?_⟩
    · cases d <;> simp [isT, dTy] at h1 h2
      walk_at "e"
    · cases d <;> simp [isT, dTy] at h1 h2
      walk_at "e"
  · cases d <;> simp [isT, dTy] at h1 <;> walk_at "e"
theorem x_is_row (d : D) (n : Nat) : m_is_row [d, .int n] = some (.bool (rowD n d)) := by
  unfold m_is_row; refine mF_of ?_; walk_at "i"; unfold g_is_row
  walk_at "e"
  rw [isi_seq]
  refine ⟨fun h1 => ?_, fun h1 => ?_⟩
  · obtain ⟨xs, hx⟩ := Option.isSome_iff_exists.mp h1
    walk_at "e"
    refine ed_lenQ (sq_of hx) ?_
    walk_at "e"
    unfold rowD
    rw [gives_rtI, hx]
    simp only [PyData.bool.injEq, decide_eq_decide]
    omega
  · have hx : seqOf d = none := by simpa using h1
    rw [gives_rtI]
    unfold rowD; rw [hx]
theorem letters : ("abcdefghijklmnopqrstuvwxyz" : Str).cps.toList = (List.range 26).map (97 + ·) := by decide +kernel
theorem x_is_company (d : D) : m_is_company [d] = some (.bool (companyD d)) := by
  unfold m_is_company; refine mF_of ?_; walk_at "i"; unfold g_is_company
  walk_at "e"
  refine ⟨fun h1 => ?_, fun h1 => ?_⟩
  · obtain ⟨x, rfl⟩ : ∃ x, d = .str x := by cases d <;> simp [isT, dTy] at h1; exact ⟨_, rfl⟩
    walk_at "e"
    refine ⟨fun h2 => ?_, fun h2 => ?_⟩
    · have hl : x.cps.toList.length = 1 := by
        have h2 := of_decide_eq_true h2
        rw [Array.length_toList]
        exact Int.ofNat.inj h2
      obtain ⟨c, hc⟩ := List.length_eq_one_iff.mp hl
      obtain rfl : x = ⟨#[c]⟩ := congrArg Str.mk (Array.toList_inj.mp (by simpa using hc))
      walk_at "e"
      rw [gives_rtI]
      show PyData.bool _ = PyData.bool (decide (Let c))
      rw [letters]
      congr 1
      apply decide_eq_decide.mpr
      unfold Let
      rw [List.mem_map]
      constructor
      · rintro ⟨i, hi, rfl⟩; rw [List.mem_range] at hi; omega
      · intro h; exact ⟨c - 97, by rw [List.mem_range]; omega, by omega⟩
    · walk_at "e"
      rw [gives_rtI]
      show PyData.bool false = PyData.bool (match x.cps.toList with | [c] => decide (Let c) | _ => false)
      split
      · rename_i c e
        have h2 := of_decide_eq_false h2
        exfalso; apply h2
        have : x.cps.toList.length = 1 := by rw [e]; rfl
        rw [Array.length_toList] at this
        exact congrArg Int.ofNat this
      · rfl
  · rw [gives_rtI]
    cases d <;> first | rfl | simp [isT, dTy] at h1
theorem row_of {n : Nat} {d : D} (h : rowD n d = true) : ∃ xs, Sq d xs ∧ xs.length = n := by
  unfold rowD at h
  split at h
  · rename_i xs e; exact ⟨xs, sq_of e, of_decide_eq_true h⟩
  · cases h
theorem sq_row {n : Nat} {d : D} {xs : List D} (s : Sq d xs) (h : xs.length = n) : rowD n d = true := by unfold rowD; rw [s.of]; exact decide_eq_true h
theorem sq_at {d : D} {xs : List D} (s : Sq d xs) (i : Nat) : atD d i = xs.getD i .none := by unfold atD; rw [s.of]; rfl
def placeD (p : Int) (d : D) : Bool := match d with | .int a => decide (0 ≤ a) && decide (a < p) | _ => false
theorem x_is_line_of (p : Int) (d : D) : m_is_line_of [.int p, d] = some (.bool (lineD p d)) := by
  unfold m_is_line_of; refine mF_of ?_; walk_at "i"; unfold g_is_line_of
  walk_at "e"
  refine Ed.of (x_is_row d 3) ?_
  walk_at "e"
  refine ⟨fun h1 => ?_, fun h1 => ?_⟩
  rotate_left
  · walk_at "t"
    walk_at "e"
    have h1 : rowD 3 d = false := by simpa using h1
    simp [lineD, h1]
  have h1 : rowD 3 d = true := by simpa using h1
  obtain ⟨xs, s, hl⟩ := row_of h1
  obtain ⟨a, b, c, rfl⟩ : ∃ a b c, xs = [a, b, c] := by
    match xs, hl with
    | [a, b, c], _ => exact ⟨a, b, c, rfl⟩
  walk_at "e"
  refine ed_ixQ s (by decide) rfl ?_
  walk_at "e"
  refine Ed.of (x_is_company c) ?_
  walk_at "e"
  have e2 : atD d 2 = c := sq_at s 2
  have e1 : atD d 1 = b := sq_at s 1
  have e0 : atD d 0 = a := sq_at s 0
  have el : lineD p d = (companyD c && placeD p a && placeD p b) := by
    unfold lineD placeD; rw [h1, e2, e1, e0]; rfl
  rw [el]
  refine ⟨fun h2 => ?_, fun h2 => ?_⟩
  · walk_at "e"
    have h2 : companyD c = false := by simpa using h2
    simp [h2]
  have h2 : companyD c = true := by simpa using h2
  walk_at "e"
  refine ev_mapX (xs := [a, b]) (enc := fun z => z) (g := fun z => .bool (placeD p z)) ?_
  walk_at "e"
  refine ed_slQ s fun z sz => ?_
  walk_at "e"
  refine ed_itQ sz ⟨by simp [cutL, HT.sIx], fun z hz => ?_, ?_⟩
  · walk_at "e"
    refine Ed.of (x_is_whole z) ?_
    walk_at "e"
    refine ⟨fun h3 => ?_, fun h3 => ?_⟩
    · cases z <;> simp [wholeD] at h3
      walk_at "e"
      simp [placeD, h3]
    · walk_at "e"
      cases z <;> simp [wholeD] at h3 <;> simp [placeD]
      omega
  · walk_at "e"
    refine all_mapX (placeD p) [a, b] ?_
    simp [h2, Bool.and_assoc]
/-! ### webs -/
abbrev Ln := Int × Int × Nat
def ln (l : Ln) : D := .tuple [.int l.1, .int l.2.1, ch l.2.2]
def wb (p : Int) (ls : List Ln) : D := .tuple [.int p, .tuple (ls.map ln)]
structure LnOk (p : Int) (l : Ln) : Prop where
  a0 : 0 ≤ l.1
  a1 : l.1 < p
  b0 : 0 ≤ l.2.1
  b1 : l.2.1 < p
  c : Let l.2.2
structure WbOk (p : Int) (ls : List Ln) : Prop where
  p0 : 0 ≤ p
  all : ∀ l ∈ ls, LnOk p l
  len : ls.length ≤ 1000000
def IsLn (d : D) (l : Ln) : Prop := Sq d [.int l.1, .int l.2.1, ch l.2.2]
def Lns (d : D) (ls : List Ln) : Prop := ∃ ps : List (D × Ln), Sq d (ps.map (·.1)) ∧ ls = ps.map (·.2) ∧ ∀ q ∈ ps, IsLn q.1 q.2
def Web (d : D) (p : Int) (ls : List Ln) : Prop := ∃ L, Sq d [.int p, L] ∧ Lns L ls
theorem isLn_ln (l : Ln) : IsLn (ln l) l := sq_t _
theorem lns_of {d : D} {ls : List Ln} (s : Sq d (ls.map ln)) : Lns d ls := ⟨ls.map fun l => (ln l, l), by rw [List.map_map]; exact s, by rw [List.map_map]; exact (List.map_id _).symm, fun q hq => by
  obtain ⟨l, _, rfl⟩ := List.mem_map.mp hq
  exact isLn_ln l⟩
theorem web_wb (p : Int) (ls : List Ln) : Web (wb p ls) p ls := ⟨_, sq_t _, lns_of (sq_t _)⟩
theorem good_ln {p : Int} {l : Ln} (h : LnOk p l) : Good 1 (ln l) := good_tup fun d hd => by
  simp only [List.mem_cons, List.not_mem_nil, or_false] at hd
  rcases hd with rfl | rfl | rfl
  · exact good_int _
  · exact good_int _
  · exact good_ch h.c.ok
theorem good_lns {p : Int} {ls : List Ln} (h : ∀ l ∈ ls, LnOk p l) : Good 2 (.tuple (ls.map ln)) := good_tup fun d hd => by
  obtain ⟨l, hl, rfl⟩ := List.mem_map.mp hd
  exact good_ln (h l hl)
theorem good_wb {p : Int} {ls : List Ln} (h : WbOk p ls) : Good 3 (wb p ls) := good_tup fun d hd => by
  simp only [List.mem_cons, List.not_mem_nil, or_false] at hd
  rcases hd with rfl | rfl
  · exact (good_int _).mono (by decide)
  · exact good_lns h.all
theorem lineD_of {p : Int} {d : D} {l : Ln} (s : IsLn d l) (h : LnOk p l) : lineD p d = true := by
  unfold lineD
  rw [sq_row (n := 3) s rfl, sq_at s 2, sq_at s 1, sq_at s 0]
  simp [companyD_ch h.c, h.a0, h.a1, h.b0, h.b1]
theorem lns_len {d : D} {ls : List Ln} (h : Lns d ls) : ∃ xs, Sq d xs ∧ xs.length = ls.length := by
  obtain ⟨ps, s, rfl, hp⟩ := h
  exact ⟨_, s, by simp⟩
theorem x_web_of {p : Int} {L : D} {ls : List Ln} (hL : Lns L ls) (h : WbOk p ls) : m_web_of [.int p, L] = some (wb p ls) := by
  obtain ⟨ps, s, rfl, hp⟩ := hL
  unfold m_web_of; refine mF_of ?_; walk_at "i"; unfold g_web_of
  walk_at "e"
  refine Ed.of (x_is_whole _) ?_
  walk_at "e"
  refine split_f' (by simp [wholeD, h.p0]) ?_
  walk_at "e"
  rw [s.isi]
  walk_at "f"
  walk_at "e"
  refine ev_mapX (xs := ps) (enc := (·.1)) (g := fun q => .bool true) ?_
  walk_at "e"
  refine ed_itQ s ⟨rfl, fun q hq => ?_, ?_⟩
  · walk_at "e"
    refine Ed.of (x_is_line_of p q.1) ⟨?_, rfl⟩
    rw [lineD_of (hp q hq) (h.all _ (List.mem_map_of_mem hq))]
  · walk_at "e"
    refine all_mapX (fun _ => true) ps ?_
    walk_at "e"
    refine split_f (by simp) ?_
    walk_at "e"
    refine ev_mapX (xs := ps) (enc := (·.1)) (g := fun q => ln q.2) ?_
    walk_at "e"
    refine ed_itQ s ⟨rfl, fun q hq => ?_, ?_⟩
    · walk_at "e"
      exact ed_tupQ (hp q hq) ⟨rfl, rfl⟩
    · walk_at "e"
      simp [wb, List.map_map]
theorem x_kept {w : D} {p : Int} {ls : List Ln} (hw : Web w p ls) (h : WbOk p ls) : m_kept [w] = some (wb p ls) := by
  obtain ⟨L, s, hL⟩ := hw
  unfold m_kept; refine mF_of ?_; walk_at "i"; unfold g_kept
  walk_at "e"
  refine ed_ixQ s (by decide) rfl ?_
  walk_at "e"
  refine ed_ixQ s (by decide) rfl ?_
  walk_at "e"
  exact Ed.of (x_web_of hL h) rfl
theorem x_need_place {w : D} {p : Int} {ls : List Ln} {i : Int} (hw : Web w p ls) (h0 : 0 ≤ i) (h1 : i < p) : m_need_place [w, .int i] = some .none := by
  obtain ⟨L, s, hL⟩ := hw
  unfold m_need_place; refine mF_of ?_; walk_at "i"; unfold g_need_place
  walk_at "e"
  refine Ed.of (x_is_whole _) ?_
  walk_at "e"
  refine split_f' (by simp [wholeD, h0]) ?_
  walk_at "e"
  refine ed_ixQ s (by decide) rfl ?_
  walk_at "e"
  refine split_f (by simpa using h1) ?_
  walk_at "e"
theorem x_need_line {w : D} {p : Int} {ls : List Ln} {i : Int} (hw : Web w p ls) (h0 : 0 ≤ i) (h1 : i < ls.length) : m_need_line [w, .int i] = some .none := by
  obtain ⟨L, s, hL⟩ := hw
  obtain ⟨xs, sx, hl⟩ := lns_len hL
  unfold m_need_line; refine mF_of ?_; walk_at "i"; unfold g_need_line
  walk_at "e"
  refine Ed.of (x_is_whole _) ?_
  walk_at "e"
  refine split_f' (by simp [wholeD, h0]) ?_
  walk_at "e"
  refine ed_ixQ s (by decide) rfl ?_
  walk_at "e"
  refine ed_lenQ sx ?_
  walk_at "e"
  refine split_f (by rw [hl]; simpa using h1) ?_
  walk_at "e"
theorem x_need_company {c : Nat} (h : Let c) : m_need_company [ch c] = some .none := by
  unfold m_need_company; refine mF_of ?_; walk_at "i"; unfold g_need_company
  walk_at "e"
  refine Ed.of (x_is_company _) ?_
  walk_at "e"
  refine split_f (by rw [companyD_ch h]; rfl) ?_
  walk_at "e"
/-! ### ends -/
def en (e : Int × Int) : D := .tuple [.int e.1, .int e.2]
def IsEn (d : D) (e : Int × Int) : Prop := Sq d [.int e.1, .int e.2]
theorem isEn_en (e : Int × Int) : IsEn (en e) e := sq_t _
def EndOk (n : Nat) (e : Int × Int) : Prop := 0 ≤ e.1 ∧ e.1 < n ∧ 0 ≤ e.2 ∧ e.2 < 2
instance (n : Nat) (e : Int × Int) : Decidable (EndOk n e) := by unfold EndOk; infer_instance
theorem endD_of {n : Nat} {d : D} {e : Int × Int} (s : IsEn d e) : endD n d = decide (EndOk n e) := by
  unfold endD
  rw [s.of]
  refine Bool.eq_iff_iff.mpr ⟨fun h => decide_eq_true ?_, fun h => ?_⟩
  · simp only [Bool.and_eq_true, decide_eq_true_eq] at h
    exact ⟨h.1.1.1, h.1.2, h.1.1.2, h.2⟩
  · have h := of_decide_eq_true h
    simp only [Bool.and_eq_true, decide_eq_true_eq]
    exact ⟨⟨⟨h.1, h.2.2.1⟩, h.2.1⟩, h.2.2.2⟩
theorem x_is_end {w : D} {p : Int} {ls : List Ln} (hw : Web w p ls) (d : D) : m_is_end [w, d] = some (.bool (endD ls.length d)) := by
  obtain ⟨L, s, hL⟩ := hw
  obtain ⟨xs, sx, hl⟩ := lns_len hL
  unfold m_is_end; refine mF_of ?_; walk_at "i"; unfold g_is_end
  walk_at "e"
  refine Ed.of (x_is_row d 2) ?_
  walk_at "e"
  refine ⟨fun h1 => ?_, fun h1 => ?_⟩
  rotate_left
  · walk_at "t"
    walk_at "e"
    have h1 : rowD 2 d = false := by simpa using h1
    have : endD ls.length d = false := by
      unfold endD; unfold rowD at h1
      split
      · rename_i e; rw [e] at h1; simp at h1
      · rfl
    simp [this]
  have h1 : rowD 2 d = true := by simpa using h1
  obtain ⟨zs, sz, hz⟩ := row_of h1
  obtain ⟨a, b, rfl⟩ : ∃ a b, zs = [a, b] := by
    match zs, hz with
    | [a, b], _ => exact ⟨a, b, rfl⟩
  have el : endD ls.length d = (wholeD a && wholeD b && (match a, b with | .int a, .int b => decide (a < ls.length) && decide (b < 2) | _, _ => false)) := by
    unfold endD; rw [sz.of]
    cases a <;> cases b <;> simp [wholeD, Bool.and_assoc]
  rw [el]
  walk_at "e"
  refine ed_ixQ sz (by decide) rfl ?_
  walk_at "e"
  refine Ed.of (x_is_whole _) ?_
  walk_at "e"
  refine ⟨fun h2 => ?_, fun h2 => ?_⟩
  rotate_left
  · walk_at "t"
    walk_at "e"
    have h2 : wholeD a = false := by simpa using h2
    simp [h2]
  have h2 : wholeD a = true := by simpa using h2
  walk_at "e"
  refine ed_ixQ sz (by decide) rfl ?_
  walk_at "e"
  refine Ed.of (x_is_whole _) ?_
  walk_at "e"
  refine ⟨fun h3 => ?_, fun h3 => ?_⟩
  · walk_at "e"
    have h3 : wholeD b = false := by simpa using h3
    simp [h2, h3]
  have h3 : wholeD b = true := by simpa using h3
  cases a <;> simp [wholeD] at h2
  cases b <;> simp [wholeD] at h3
  walk_at "e"
  refine ed_ixQ sz (by decide) rfl ?_
  walk_at "e"
  refine ed_ixQ s (by decide) rfl ?_
  walk_at "e"
  refine ed_lenQ sx ?_
  walk_at "e"
  rw [hl]
  refine ⟨fun h4 => ?_, fun h4 => ?_⟩
  · walk_at "e"
    refine ed_ixQ sz (by decide) rfl ?_
    walk_at "e"
    simp [wholeD, h2, h3, h4]
  · walk_at "e"
    simp [h4]
theorem x_need_end {w : D} {p : Int} {ls : List Ln} {d : D} {e : Int × Int} (hw : Web w p ls) (s : IsEn d e) (h : EndOk ls.length e) : m_need_end [w, d] = some (en e) := by
  unfold m_need_end; refine mF_of ?_; walk_at "i"; unfold g_need_end
  walk_at "e"
  refine Ed.of (x_is_end hw d) ?_
  walk_at "e"
  refine split_f (by rw [endD_of s]; simpa using h) ?_
  walk_at "e"
  refine ed_ixQ s (by decide) rfl ?_
  walk_at "e"
  refine ed_ixQ s (by decide) rfl ?_
  walk_at "e"
def sideOf (s : Int) (l : Ln) : Int := if s = 0 then l.1 else l.2.1
def plc (ls : List Ln) (e : Int × Int) : Int := match ls[e.1.toNat]? with
  | some l => sideOf e.2 l
  | none => 0
def cmpy (ls : List Ln) (e : Int × Int) : Nat := match ls[e.1.toNat]? with
  | some l => l.2.2
  | none => 0
def far (e : Int × Int) : Int × Int := (e.1, 1 - e.2)
/-! ### all ends, the ends at a place -/
def allE (n : Nat) : List (Int × Int) := (List.range n).flatMap fun i : Nat => [((i : Int), 0), ((i : Int), 1)]
def ends (ls : List Ln) (q : Int) : List (Int × Int) := (allE ls.length).filter fun e => decide (plc ls e = q)
end Lw

set_option maxHeartbeats 4000000
namespace Lw
open PySem Fu
local macro_rules | `(tactic| walk_at "e1") => `(tactic| first
  | with_reducible refine eo_seq ?_ | (with_reducible refine then_nx' ?_; refine ⟨?_, ?_, ?_⟩; rotate_left; · (try dsimp only [List.set, List.length_cons, List.length_nil, List.cons_append, List.nil_append, Nat.zero_add, Nat.reduceAdd]); exact rfl) | with_reducible refine then_rt ?_ | with_reducible refine eo_if ?_ | with_reducible refine eo_ret ?_ | with_reducible refine eo_set ?_ | with_reducible refine eo_asg ?_ | with_reducible refine eo_drop ?_ | with_reducible refine eo_nx ?_ | with_reducible refine eo_par ?_ | with_reducible refine eo_own ?_ | with_reducible refine eo_retN ?_ | with_reducible refine eo_for ?_ | with_reducible refine eo_retO ?_
  | with_reducible refine ev_c ?_ | (with_reducible refine ev_var ?_; refine ⟨_, rfl, ?_⟩) | with_reducible refine ev_bin ?_ | with_reducible refine ev_un ?_ | with_reducible refine ev_nil ?_ | with_reducible refine ev_cons ?_
  | with_reducible refine ev_tup ?_ | with_reducible refine ev_lst ?_ | with_reducible refine ev_call ?_ | with_reducible refine ev_callF ?_ | with_reducible refine ev_isi ?_ | with_reducible refine ev_isi2 ?_ | with_reducible refine ev_andV ?_ | with_reducible refine ev_orV ?_ | with_reducible refine ev_notV ?_
  | with_reducible refine ev_B ?_ | with_reducible refine ev_and ?_ | with_reducible refine ev_or ?_ | with_reducible refine ev_not ?_ | with_reducible refine ev_yes ?_ | with_reducible refine ev_if ?_ | with_reducible refine ev_no ?_ | with_reducible refine ev_so ?_ | with_reducible refine ev_sl ?_ | with_reducible refine ev_items ?_
  | (with_reducible refine ev_ixO ?_; refine ⟨_, _, rfl, rfl, ?_⟩) | (with_reducible refine ev_varO ?_; refine ⟨_, _, rfl, rfl, ?_⟩) | (with_reducible refine ev_lenO ?_; refine ⟨_, _, rfl, rfl, ?_⟩) | (with_reducible refine ev_scrSl ?_; refine ⟨_, rfl, ?_⟩) | (with_reducible refine ev_scrLen ?_; refine ⟨_, rfl, ?_⟩) | (with_reducible refine ev_callScr ?_; refine ⟨_, rfl, ?_⟩) | (with_reducible refine ev_OL ?_; refine ⟨_, _, rfl, rfl, ?_⟩) | with_reducible refine ev_OR ?_ | with_reducible refine ev_rep ?_ | with_reducible refine ev_listRng1 ?_ | with_reducible refine eo_setO ?_
  | with_reducible refine es_name ?_ | with_reducible refine es_tup2 ?_ | with_reducible refine es_tup3 ?_
  | with_reducible refine ed_addI ?_ | with_reducible refine ed_subI ?_ | with_reducible refine ed_cmp ?_ | with_reducible refine ed_eqI ?_ | with_reducible refine ed_neI ?_ | with_reducible refine ed_slT ?_ | with_reducible refine ed_slL ?_ | with_reducible refine ed_lenT ?_ | with_reducible refine ed_lenL ?_ | with_reducible refine ed_lenS ?_ | with_reducible refine ed_inS ?_ | with_reducible refine ed_itT ?_ | with_reducible refine ed_itL ?_ | with_reducible refine ed_tupL ?_ | with_reducible refine ed_tupT ?_ | with_reducible refine ed_listL ?_ | with_reducible refine ed_listT ?_ | with_reducible refine ed_neg ?_ | with_reducible refine ed_max ?_ | with_reducible refine ed_min ?_ | with_reducible refine ed_intB ?_
  | with_reducible refine ev_rng1 ?_ | with_reducible refine ev_rng2 ?_)
local macro_rules | `(tactic| walk_at "sd") => `(tactic| first | rfl | assumption | (simp only [decide_eq_true_eq, decide_eq_false_iff_not, Bool.not_eq_true', Bool.not_eq_false', Bool.and_eq_true, Bool.or_eq_true, List.length_map, List.length_cons, List.length_nil, List.length_append, List.length_range] at *; omega))
local macro_rules | `(tactic| walk_at "e2") => `(tactic| first
  | walk_at "e1" | with_reducible refine ⟨_, rfl, ?_⟩ | with_reducible refine ⟨_, _, rfl, ?_⟩
  | with_reducible refine And.intro (Eq.refl (List.length _)) ?_ | with_reducible refine And.intro (Nat.le_of_ble_eq_true (n := List.length _) rfl) ?_
  | with_reducible refine And.intro (Eq.refl (_ : Sx)) (?_ : Ed _ _)
  | ((with_reducible refine And.intro ?_ (And.intro ?_ (?_ : Ev _ _))); (· rfl); (· rfl))
  | ((with_reducible refine ed_ixT ?_ ?_ ?_); (· decide); (· rfl)) | ((with_reducible refine ed_ixL ?_ ?_ ?_); (· decide); (· rfl)) | ((with_reducible refine ed_at ?_ ?_ ?_); (· decide); (· rfl))
  | ((with_reducible refine ed_modI ?_ ?_); (· first | decide | omega))
  | with_reducible exact gives_nx | ((with_reducible refine gives_rt ?_); (· rfl)) | ((with_reducible refine And.intro ?_ ?_); (· exact rfl); (· with_reducible exact Eq.refl (_ : Sx))))
local macro_rules | `(tactic| walk_at "e") => `(tactic| repeat walk_at "e2")
/-- begin a def's spec -/
local macro_rules | `(tactic| walk_at "i") => `(tactic| simp only [initS, List.map_cons, List.map_nil, List.length_cons, List.length_nil, Nat.reduceAdd, Nat.reduceSub, List.replicate, List.cons_append, List.nil_append])
/-- a known truth decides -/
local macro_rules | `(tactic| walk_at "t") => `(tactic| first | ((with_reducible refine split_t ?_ ?_); (· walk_at "sd")) | ((with_reducible refine split_t' ?_ ?_); (· walk_at "sd")))
local macro_rules | `(tactic| walk_at "f") => `(tactic| first | ((with_reducible refine split_f ?_ ?_); (· walk_at "sd")) | ((with_reducible refine split_f' ?_ ?_); (· walk_at "sd")))
/-- all that is seen in a look -/
local macro_rules | `(tactic| walk_at "v") => `(tactic| (rw [sealAll_mk (by (simp only [List.set_cons_zero, List.set_cons_succ, List.map_cons, List.map_nil, sealS_none, sealS_dat, sealS_scr, sealS_own, List.getElem?_cons_zero, List.getElem?_cons_succ, sealC_lst]; rfl)) (by (simp only [List.set_cons_zero, List.set_cons_succ, List.map_cons, List.map_nil]; rfl))]))
/-! ### rides -/
theorem EndOk.far {n : Nat} {e : Int × Int} (h : EndOk n e) : EndOk n (far e) := by
  obtain ⟨h1, h2, h3, h4⟩ := h
  exact ⟨h1, h2, by show 0 ≤ 1 - e.2; omega, by show 1 - e.2 < 2; omega⟩
/-- a list of ends, as handed -/
def IsRide (d : D) (es : List (Int × Int)) : Prop := ∃ ps : List (D × (Int × Int)), Sq d (ps.map (·.1)) ∧ es = ps.map (·.2) ∧ ∀ q ∈ ps, IsEn q.1 q.2
theorem ride_of {d : D} {es : List (Int × Int)} (s : Sq d (es.map en)) : IsRide d es := ⟨es.map fun l => (en l, l), by rw [List.map_map]; exact s, by rw [List.map_map]; exact (List.map_id _).symm, fun q hq => by
  obtain ⟨l, _, rfl⟩ := List.mem_map.mp hq
  exact isEn_en l⟩
def lE (es : List (Int × Int)) : D := .list (es.map en)
theorem ride_lE (es : List (Int × Int)) : IsRide (lE es) es := ride_of (sq_l _)
end Lw

set_option maxHeartbeats 4000000
namespace Lw
open PySem Fu
local macro_rules | `(tactic| walk_at "e1") => `(tactic| first
  | with_reducible refine eo_seq ?_ | (with_reducible refine then_nx' ?_; refine ⟨?_, ?_, ?_⟩; rotate_left; · (try dsimp only [List.set, List.length_cons, List.length_nil, List.cons_append, List.nil_append, Nat.zero_add, Nat.reduceAdd]); exact rfl) | with_reducible refine then_rt ?_ | with_reducible refine eo_if ?_ | with_reducible refine eo_ret ?_ | with_reducible refine eo_set ?_ | with_reducible refine eo_asg ?_ | with_reducible refine eo_drop ?_ | with_reducible refine eo_nx ?_ | with_reducible refine eo_par ?_ | with_reducible refine eo_own ?_ | with_reducible refine eo_retN ?_ | with_reducible refine eo_for ?_ | with_reducible refine eo_retO ?_
  | with_reducible refine ev_c ?_ | (with_reducible refine ev_var ?_; refine ⟨_, rfl, ?_⟩) | with_reducible refine ev_bin ?_ | with_reducible refine ev_un ?_ | with_reducible refine ev_nil ?_ | with_reducible refine ev_cons ?_
  | with_reducible refine ev_tup ?_ | with_reducible refine ev_lst ?_ | with_reducible refine ev_call ?_ | with_reducible refine ev_callF ?_ | with_reducible refine ev_isi ?_ | with_reducible refine ev_isi2 ?_ | with_reducible refine ev_andV ?_ | with_reducible refine ev_orV ?_ | with_reducible refine ev_notV ?_
  | with_reducible refine ev_B ?_ | with_reducible refine ev_and ?_ | with_reducible refine ev_or ?_ | with_reducible refine ev_not ?_ | with_reducible refine ev_yes ?_ | with_reducible refine ev_if ?_ | with_reducible refine ev_no ?_ | with_reducible refine ev_so ?_ | with_reducible refine ev_sl ?_ | with_reducible refine ev_items ?_
  | (with_reducible refine ev_ixO ?_; refine ⟨_, _, rfl, rfl, ?_⟩) | (with_reducible refine ev_varO ?_; refine ⟨_, _, rfl, rfl, ?_⟩) | (with_reducible refine ev_lenO ?_; refine ⟨_, _, rfl, rfl, ?_⟩) | (with_reducible refine ev_scrSl ?_; refine ⟨_, rfl, ?_⟩) | (with_reducible refine ev_scrLen ?_; refine ⟨_, rfl, ?_⟩) | (with_reducible refine ev_callScr ?_; refine ⟨_, rfl, ?_⟩) | (with_reducible refine ev_OL ?_; refine ⟨_, _, rfl, rfl, ?_⟩) | with_reducible refine ev_OR ?_ | with_reducible refine ev_rep ?_ | with_reducible refine ev_listRng1 ?_ | with_reducible refine eo_setO ?_
  | with_reducible refine es_name ?_ | with_reducible refine es_tup2 ?_ | with_reducible refine es_tup3 ?_
  | with_reducible refine ed_addI ?_ | with_reducible refine ed_subI ?_ | with_reducible refine ed_cmp ?_ | with_reducible refine ed_eqI ?_ | with_reducible refine ed_neI ?_ | with_reducible refine ed_slT ?_ | with_reducible refine ed_slL ?_ | with_reducible refine ed_lenT ?_ | with_reducible refine ed_lenL ?_ | with_reducible refine ed_lenS ?_ | with_reducible refine ed_inS ?_ | with_reducible refine ed_itT ?_ | with_reducible refine ed_itL ?_ | with_reducible refine ed_tupL ?_ | with_reducible refine ed_tupT ?_ | with_reducible refine ed_listL ?_ | with_reducible refine ed_listT ?_ | with_reducible refine ed_neg ?_ | with_reducible refine ed_max ?_ | with_reducible refine ed_min ?_ | with_reducible refine ed_intB ?_)
local macro_rules | `(tactic| walk_at "e2") => `(tactic| first
  | walk_at "e1" | with_reducible refine ⟨_, rfl, ?_⟩ | with_reducible refine ⟨_, _, rfl, ?_⟩
  | with_reducible refine And.intro (Eq.refl (List.length _)) ?_ | with_reducible refine And.intro (Nat.le_of_ble_eq_true (n := List.length _) rfl) ?_
  | with_reducible refine And.intro (Eq.refl (_ : Sx)) (?_ : Ed _ _)
  | with_reducible exact gives_nx | with_reducible (refine gives_rt ?_; rfl))
local macro_rules | `(tactic| walk_at "e") => `(tactic| repeat walk_at "e2")
/-- begin a def's spec -/
local macro_rules | `(tactic| walk_at "i") => `(tactic| simp only [initS, List.map_cons, List.map_nil, List.length_cons, List.length_nil, Nat.reduceAdd, Nat.reduceSub, List.replicate, List.cons_append, List.nil_append])
def rv (es : List (Int × Int)) : List (Int × Int) := es.reverse.map far
def rot (k : Nat) (es : List (Int × Int)) : List (Int × Int) := es.drop k ++ es.take k
def ways (es : List (Int × Int)) : List (List (Int × Int)) := ((List.range es.length).map fun k => rot k es) ++ ((List.range es.length).map fun k => rot k (rv es))
/-! ### rounds and rides, in plain words -/
/-! ### the least of all ways -/
end Lw

set_option maxHeartbeats 4000000
namespace Lw
open PySem Fu
local macro_rules | `(tactic| walk_at "e1") => `(tactic| first
  | with_reducible refine eo_seq ?_ | (with_reducible refine then_nx' ?_; refine ⟨?_, ?_, ?_⟩; rotate_left; · (try dsimp only [List.set, List.length_cons, List.length_nil, List.cons_append, List.nil_append, Nat.zero_add, Nat.reduceAdd]); exact rfl) | with_reducible refine then_rt ?_ | with_reducible refine eo_if ?_ | with_reducible refine eo_ret ?_ | with_reducible refine eo_set ?_ | with_reducible refine eo_asg ?_ | with_reducible refine eo_drop ?_ | with_reducible refine eo_nx ?_ | with_reducible refine eo_par ?_ | with_reducible refine eo_own ?_ | with_reducible refine eo_retN ?_ | with_reducible refine eo_for ?_ | with_reducible refine eo_retO ?_
  | with_reducible refine ev_c ?_ | (with_reducible refine ev_var ?_; refine ⟨_, rfl, ?_⟩) | with_reducible refine ev_bin ?_ | with_reducible refine ev_un ?_ | with_reducible refine ev_nil ?_ | with_reducible refine ev_cons ?_
  | with_reducible refine ev_tup ?_ | with_reducible refine ev_lst ?_ | with_reducible refine ev_call ?_ | with_reducible refine ev_callF ?_ | with_reducible refine ev_isi ?_ | with_reducible refine ev_isi2 ?_ | with_reducible refine ev_andV ?_ | with_reducible refine ev_orV ?_ | with_reducible refine ev_notV ?_
  | with_reducible refine ev_B ?_ | with_reducible refine ev_and ?_ | with_reducible refine ev_or ?_ | with_reducible refine ev_not ?_ | with_reducible refine ev_yes ?_ | with_reducible refine ev_if ?_ | with_reducible refine ev_no ?_ | with_reducible refine ev_so ?_ | with_reducible refine ev_sl ?_ | with_reducible refine ev_items ?_
  | (with_reducible refine ev_ixO ?_; refine ⟨_, _, rfl, rfl, ?_⟩) | (with_reducible refine ev_varO ?_; refine ⟨_, _, rfl, rfl, ?_⟩) | (with_reducible refine ev_lenO ?_; refine ⟨_, _, rfl, rfl, ?_⟩) | (with_reducible refine ev_scrSl ?_; refine ⟨_, rfl, ?_⟩) | (with_reducible refine ev_scrLen ?_; refine ⟨_, rfl, ?_⟩) | (with_reducible refine ev_callScr ?_; refine ⟨_, rfl, ?_⟩) | (with_reducible refine ev_OL ?_; refine ⟨_, _, rfl, rfl, ?_⟩) | with_reducible refine ev_OR ?_ | with_reducible refine ev_rep ?_ | with_reducible refine ev_listRng1 ?_ | with_reducible refine eo_setO ?_
  | with_reducible refine es_name ?_ | with_reducible refine es_tup2 ?_ | with_reducible refine es_tup3 ?_
  | with_reducible refine ed_addI ?_ | with_reducible refine ed_subI ?_ | with_reducible refine ed_cmp ?_ | with_reducible refine ed_eqI ?_ | with_reducible refine ed_neI ?_ | with_reducible refine ed_slT ?_ | with_reducible refine ed_slL ?_ | with_reducible refine ed_lenT ?_ | with_reducible refine ed_lenL ?_ | with_reducible refine ed_lenS ?_ | with_reducible refine ed_inS ?_ | with_reducible refine ed_itT ?_ | with_reducible refine ed_itL ?_ | with_reducible refine ed_tupL ?_ | with_reducible refine ed_tupT ?_ | with_reducible refine ed_listL ?_ | with_reducible refine ed_listT ?_ | with_reducible refine ed_neg ?_ | with_reducible refine ed_max ?_ | with_reducible refine ed_min ?_ | with_reducible refine ed_intB ?_
  | with_reducible refine ev_rng1 ?_ | with_reducible refine ev_rng2 ?_)
local macro_rules | `(tactic| walk_at "sd") => `(tactic| first | rfl | assumption | (simp only [decide_eq_true_eq, decide_eq_false_iff_not, Bool.not_eq_true', Bool.not_eq_false', Bool.and_eq_true, Bool.or_eq_true, List.length_map, List.length_cons, List.length_nil, List.length_append, List.length_range] at *; omega))
local macro_rules | `(tactic| walk_at "e2") => `(tactic| first
  | walk_at "e1" | with_reducible refine ⟨_, rfl, ?_⟩ | with_reducible refine ⟨_, _, rfl, ?_⟩
  | with_reducible refine And.intro (Eq.refl (List.length _)) ?_ | with_reducible refine And.intro (Nat.le_of_ble_eq_true (n := List.length _) rfl) ?_
  | with_reducible refine And.intro (Eq.refl (_ : Sx)) (?_ : Ed _ _)
  | ((with_reducible refine And.intro ?_ (And.intro ?_ (?_ : Ev _ _))); (· rfl); (· rfl))
  | ((with_reducible refine ed_ixT ?_ ?_ ?_); (· decide); (· rfl)) | ((with_reducible refine ed_ixL ?_ ?_ ?_); (· decide); (· rfl)) | ((with_reducible refine ed_at ?_ ?_ ?_); (· decide); (· rfl))
  | ((with_reducible refine ed_modI ?_ ?_); (· first | decide | omega))
  | with_reducible exact gives_nx | ((with_reducible refine gives_rt ?_); (· rfl)) | ((with_reducible refine And.intro ?_ ?_); (· exact rfl); (· with_reducible exact Eq.refl (_ : Sx))))
local macro_rules | `(tactic| walk_at "e") => `(tactic| repeat walk_at "e2")
/-- begin a def's spec -/
local macro_rules | `(tactic| walk_at "i") => `(tactic| simp only [initS, List.map_cons, List.map_nil, List.length_cons, List.length_nil, Nat.reduceAdd, Nat.reduceSub, List.replicate, List.cons_append, List.nil_append])
/-- a known truth decides -/
local macro_rules | `(tactic| walk_at "t") => `(tactic| first | ((with_reducible refine split_t ?_ ?_); (· walk_at "sd")) | ((with_reducible refine split_t' ?_ ?_); (· walk_at "sd")))
local macro_rules | `(tactic| walk_at "f") => `(tactic| first | ((with_reducible refine split_f ?_ ?_); (· walk_at "sd")) | ((with_reducible refine split_f' ?_ ?_); (· walk_at "sd")))
/-- all that is seen in a look -/
local macro_rules | `(tactic| walk_at "v") => `(tactic| (rw [sealAll_mk (by (simp only [List.set_cons_zero, List.set_cons_succ, List.map_cons, List.map_nil, sealS_none, sealS_dat, sealS_scr, sealS_own, List.getElem?_cons_zero, List.getElem?_cons_succ, sealC_lst]; rfl)) (by (simp only [List.set_cons_zero, List.set_cons_succ, List.map_cons, List.map_nil]; rfl))]))
/-! ### texts of data -/
theorem dEq_str (x y : Str) : dEq (.str x) (.str y) = some (.bool (decide (x = y))) := by
  unfold dEq
  split
  · congr 2
  · rfl
theorem dNe_str (x y : Str) : dNe (.str x) (.str y) = some (.bool (!decide (x = y))) := by
  unfold dNe
  split
  · congr 3
  · rfl
theorem dEq_str_self (x : Str) : dEq (.str x) (.str x) = some (.bool true) := by rw [dEq_str]; simp
theorem dNe_str_self (x : Str) : dNe (.str x) (.str x) = some (.bool false) := by rw [dNe_str]; simp
/-- what can be shown: its depth, its weight -/
structure Shw (n m : Nat) (d : D) : Prop where
  lay : d.canLay0 = true
  dep : d.depth ≤ n
  wt : d.weight ≤ m
  short : d.intsShort 13 = true
  sh : d.showable = true
theorem Shw.mono {n m n' m' : Nat} {d : D} (h : Shw n m d) (l : n ≤ n') (k : m ≤ m') : Shw n' m' d := ⟨h.lay, Nat.le_trans h.dep l, Nat.le_trans h.wt k, h.short, h.sh⟩
theorem Shw.ok {n m : Nat} {d : D} (h : Shw n m d) (hn : n ≤ 60) (hm : m ≤ 1048576) : showOk d = true := by
  unfold showOk
  have l : d.shown.length ≤ sizeLine := PyData.shown_fits (B := 13) (by decide) (by decide) (PyData.leavesShort_of_canLay0 13 d h.lay h.short) (by have := h.wt; omega)
  rw [sizeLine_eq] at l
  simp only [Bool.and_eq_true, decide_eq_true_eq, Bool.not_eq_true']
  exact ⟨⟨⟨⟨h.sh, PyData.hasDict_of_canLay d h.lay⟩, h.lay⟩, Nat.le_trans h.dep hn⟩, l⟩
theorem Shw.fine {n m : Nat} {d : D} (h : Shw n m d) : Fine n d := ⟨h.lay, h.dep⟩
/-! ### all tuples turned to lists -/
/-! ### how webs and rides are shown -/
end Lw

set_option maxHeartbeats 4000000
namespace Lw
open PySem Fu
local macro_rules | `(tactic| walk_at "e1") => `(tactic| first
  | with_reducible refine eo_seq ?_ | (with_reducible refine then_nx' ?_; refine ⟨?_, ?_, ?_⟩; rotate_left; · (try dsimp only [List.set, List.length_cons, List.length_nil, List.cons_append, List.nil_append, Nat.zero_add, Nat.reduceAdd]); exact rfl) | with_reducible refine then_rt ?_ | with_reducible refine eo_if ?_ | with_reducible refine eo_ret ?_ | with_reducible refine eo_set ?_ | with_reducible refine eo_asg ?_ | with_reducible refine eo_drop ?_ | with_reducible refine eo_nx ?_ | with_reducible refine eo_par ?_ | with_reducible refine eo_own ?_ | with_reducible refine eo_retN ?_ | with_reducible refine eo_for ?_ | with_reducible refine eo_retO ?_
  | with_reducible refine ev_c ?_ | (with_reducible refine ev_var ?_; refine ⟨_, rfl, ?_⟩) | with_reducible refine ev_bin ?_ | with_reducible refine ev_un ?_ | with_reducible refine ev_nil ?_ | with_reducible refine ev_cons ?_
  | with_reducible refine ev_tup ?_ | with_reducible refine ev_lst ?_ | with_reducible refine ev_call ?_ | with_reducible refine ev_callF ?_ | with_reducible refine ev_isi ?_ | with_reducible refine ev_isi2 ?_ | with_reducible refine ev_andV ?_ | with_reducible refine ev_orV ?_ | with_reducible refine ev_notV ?_
  | with_reducible refine ev_B ?_ | with_reducible refine ev_and ?_ | with_reducible refine ev_or ?_ | with_reducible refine ev_not ?_ | with_reducible refine ev_yes ?_ | with_reducible refine ev_if ?_ | with_reducible refine ev_no ?_ | with_reducible refine ev_so ?_ | with_reducible refine ev_sl ?_ | with_reducible refine ev_items ?_
  | (with_reducible refine ev_ixO ?_; refine ⟨_, _, rfl, rfl, ?_⟩) | (with_reducible refine ev_varO ?_; refine ⟨_, _, rfl, rfl, ?_⟩) | (with_reducible refine ev_lenO ?_; refine ⟨_, _, rfl, rfl, ?_⟩) | (with_reducible refine ev_scrSl ?_; refine ⟨_, rfl, ?_⟩) | (with_reducible refine ev_scrLen ?_; refine ⟨_, rfl, ?_⟩) | (with_reducible refine ev_callScr ?_; refine ⟨_, rfl, ?_⟩) | (with_reducible refine ev_OL ?_; refine ⟨_, _, rfl, rfl, ?_⟩) | with_reducible refine ev_OR ?_ | with_reducible refine ev_rep ?_ | with_reducible refine ev_listRng1 ?_ | with_reducible refine eo_setO ?_
  | with_reducible refine es_name ?_ | with_reducible refine es_tup2 ?_ | with_reducible refine es_tup3 ?_
  | with_reducible refine ed_addI ?_ | with_reducible refine ed_subI ?_ | with_reducible refine ed_cmp ?_ | with_reducible refine ed_eqI ?_ | with_reducible refine ed_neI ?_ | with_reducible refine ed_slT ?_ | with_reducible refine ed_slL ?_ | with_reducible refine ed_lenT ?_ | with_reducible refine ed_lenL ?_ | with_reducible refine ed_lenS ?_ | with_reducible refine ed_inS ?_ | with_reducible refine ed_itT ?_ | with_reducible refine ed_itL ?_ | with_reducible refine ed_tupL ?_ | with_reducible refine ed_tupT ?_ | with_reducible refine ed_listL ?_ | with_reducible refine ed_listT ?_ | with_reducible refine ed_neg ?_ | with_reducible refine ed_max ?_ | with_reducible refine ed_min ?_ | with_reducible refine ed_intB ?_)
local macro_rules | `(tactic| walk_at "e2") => `(tactic| first
  | walk_at "e1" | with_reducible refine ⟨_, rfl, ?_⟩ | with_reducible refine ⟨_, _, rfl, ?_⟩
  | with_reducible refine And.intro (Eq.refl (List.length _)) ?_ | with_reducible refine And.intro (Nat.le_of_ble_eq_true (n := List.length _) rfl) ?_
  | with_reducible refine And.intro (Eq.refl (_ : Sx)) (?_ : Ed _ _)
  | with_reducible exact gives_nx | with_reducible (refine gives_rt ?_; rfl))
local macro_rules | `(tactic| walk_at "e") => `(tactic| repeat walk_at "e2")
/-- begin a def's spec -/
local macro_rules | `(tactic| walk_at "i") => `(tactic| simp only [initS, List.map_cons, List.map_nil, List.length_cons, List.length_nil, Nat.reduceAdd, Nat.reduceSub, List.replicate, List.cons_append, List.nil_append])
namespace Sp
/-! ### the spring -/
structure Reel (b : Nat) (cs : List D) : Prop where
  ex : ∃ (f s n : Int), cs = [.int f, .int s, .int n] ∧ 0 ≤ f ∧ 0 ≤ s ∧ s < 2305843009213693951 ∧ 0 ≤ n ∧ n + b ≤ 18446744073709551616
theorem Reel.mono {a b : Nat} {cs : List D} (h : Reel a cs) (l : b ≤ a) : Reel b cs := by
  obtain ⟨f, s, n, h1, h2, h3, h4, h5, h6⟩ := h
  exact ⟨f, s, n, h1, h2, h3, h4, h5, by omega⟩
theorem log_lt {i : Int} {k : Nat} (h : i.natAbs < 2 ^ (k + 1)) : i.natAbs.log2 ≤ k := by
  by_cases z : i.natAbs = 0
  · rw [z]; simp
  · exact Nat.le_of_lt_succ ((Nat.log2_lt z).mpr h)
theorem mulW {i j : Int} (a : -170141183460469231731687303715884105728 < i ∧ i < 170141183460469231731687303715884105728) (b : -170141183460469231731687303715884105728 < j ∧ j < 170141183460469231731687303715884105728) : L2.CMulW i j := by
  unfold L2.CMulW
  have h1 : i.natAbs.log2 ≤ 126 := log_lt (by show i.natAbs < 170141183460469231731687303715884105728; omega)
  have h2 : j.natAbs.log2 ≤ 126 := log_lt (by show j.natAbs < 170141183460469231731687303715884105728; omega)
  omega
theorem divW {i j : Int} (a : 0 < j ∧ j < 170141183460469231731687303715884105728) : L2.CDivW i j := by
  unfold L2.CDivW
  have h2 : j.natAbs.log2 ≤ 126 := log_lt (by show j.natAbs < 170141183460469231731687303715884105728; omega)
  exact ⟨a.1, by omega⟩
theorem x_draw {b : Nat} {cs : List D} {many : Int} (h : Reel (b + 1) cs) (m0 : 0 < many) (m1 : many ≤ 18446744073709551616) : ∃ d cs', m__law_draw_k15 cs [.int many] = some (d, cs') ∧ ∃ v, d = .int v ∧ 0 ≤ v ∧ v < many ∧ Reel b cs' := by
  obtain ⟨f, s, n, rfl, f0, s0, s1, n0, n1⟩ := h
  unfold m__law_draw_k15; refine mIO_of ?_; walk_at "i"; unfold g__law_draw_k15
  walk_at "e"
  refine ed_at (by decide) rfl ?_
  walk_at "e"
  refine ⟨fun ht => ?_, fun ht => ?_⟩
  · walk_at "e"
    refine ed_at (by decide) rfl ?_
    walk_at "e"
    refine ed_modI m0 ?_
    walk_at "e"
    refine ed_at (by decide) rfl ?_
    walk_at "e"
    refine ed_divI (divW ⟨m0, by omega⟩) ?_
    refine ⟨0, _, rfl, rfl, ?_⟩
    walk_at "e"
    refine ⟨rfl, 0, rfl, by simp, ?_⟩
    walk_at "e"
    exact ⟨_, rfl, _, rfl, Int.emod_nonneg _ (by omega), Int.emod_lt_of_pos _ m0, f / many, s, n, rfl, Int.ediv_nonneg f0 (by omega), s0, s1, n0, by omega⟩
  · walk_at "e"
    refine ed_at (by decide) rfl ?_
    walk_at "e"
    refine ⟨0, _, rfl, rfl, ?_⟩
    walk_at "e"
    refine ⟨rfl, 2, rfl, by simp, ?_⟩
    walk_at "e"
    refine ed_at (by decide) rfl ?_
    walk_at "e"
    refine ed_at (by decide) rfl ?_
    walk_at "e"
    refine ed_mulI (mulW ⟨by omega, by omega⟩ ⟨by omega, by omega⟩) ?_
    walk_at "e"
    refine ed_modI (by decide) ?_
    walk_at "e"
    refine ed_at (by decide) rfl ?_
    walk_at "e"
    refine ed_mulI (mulW ⟨by omega, by omega⟩ ⟨by omega, by omega⟩) ?_
    walk_at "e"
    refine ed_at (by decide) rfl ?_
    walk_at "e"
    refine ed_mulI (mulW ⟨by omega, by omega⟩ ⟨by omega, by omega⟩) ?_
    walk_at "e"
    refine ed_modI (by decide) ?_
    refine ⟨0, _, rfl, rfl, ?_⟩
    walk_at "e"
    refine ⟨rfl, 1, rfl, by simp, ?_⟩
    walk_at "e"
    refine ed_at (by decide) rfl ?_
    walk_at "e"
    refine ed_divI (divW ⟨by decide, by decide⟩) ?_
    walk_at "e"
    refine ed_modI m0 ?_
    exact ⟨_, rfl, _, rfl, Int.emod_nonneg _ (by omega), Int.emod_lt_of_pos _ m0, f, _, n + 1, rfl, f0, Int.emod_nonneg _ (by decide), Int.emod_lt_of_pos _ (by decide), by omega, by omega⟩
end Sp
end Lw

set_option maxHeartbeats 4000000
namespace Lw
open PySem Fu
local macro_rules | `(tactic| walk_at "e1") => `(tactic| first
  | with_reducible refine eo_seq ?_ | (with_reducible refine then_nx' ?_; refine ⟨?_, ?_, ?_⟩; rotate_left; · (try dsimp only [List.set, List.length_cons, List.length_nil, List.cons_append, List.nil_append, Nat.zero_add, Nat.reduceAdd]); exact rfl) | with_reducible refine then_rt ?_ | with_reducible refine eo_if ?_ | with_reducible refine eo_ret ?_ | with_reducible refine eo_set ?_ | with_reducible refine eo_asg ?_ | with_reducible refine eo_drop ?_ | with_reducible refine eo_nx ?_ | with_reducible refine eo_par ?_ | with_reducible refine eo_own ?_ | with_reducible refine eo_retN ?_ | with_reducible refine eo_for ?_ | with_reducible refine eo_retO ?_
  | with_reducible refine ev_c ?_ | (with_reducible refine ev_var ?_; refine ⟨_, rfl, ?_⟩) | with_reducible refine ev_bin ?_ | with_reducible refine ev_un ?_ | with_reducible refine ev_nil ?_ | with_reducible refine ev_cons ?_
  | with_reducible refine ev_tup ?_ | with_reducible refine ev_lst ?_ | with_reducible refine ev_call ?_ | with_reducible refine ev_callF ?_ | with_reducible refine ev_isi ?_ | with_reducible refine ev_isi2 ?_ | with_reducible refine ev_andV ?_ | with_reducible refine ev_orV ?_ | with_reducible refine ev_notV ?_
  | with_reducible refine ev_B ?_ | with_reducible refine ev_and ?_ | with_reducible refine ev_or ?_ | with_reducible refine ev_not ?_ | with_reducible refine ev_yes ?_ | with_reducible refine ev_if ?_ | with_reducible refine ev_no ?_ | with_reducible refine ev_so ?_ | with_reducible refine ev_sl ?_ | with_reducible refine ev_items ?_
  | (with_reducible refine ev_ixO ?_; refine ⟨_, _, rfl, rfl, ?_⟩) | (with_reducible refine ev_varO ?_; refine ⟨_, _, rfl, rfl, ?_⟩) | (with_reducible refine ev_lenO ?_; refine ⟨_, _, rfl, rfl, ?_⟩) | (with_reducible refine ev_scrSl ?_; refine ⟨_, rfl, ?_⟩) | (with_reducible refine ev_scrLen ?_; refine ⟨_, rfl, ?_⟩) | (with_reducible refine ev_callScr ?_; refine ⟨_, rfl, ?_⟩) | (with_reducible refine ev_OL ?_; refine ⟨_, _, rfl, rfl, ?_⟩) | with_reducible refine ev_OR ?_ | with_reducible refine ev_rep ?_ | with_reducible refine ev_listRng1 ?_ | with_reducible refine eo_setO ?_
  | with_reducible refine es_name ?_ | with_reducible refine es_tup2 ?_ | with_reducible refine es_tup3 ?_
  | with_reducible refine ed_addI ?_ | with_reducible refine ed_subI ?_ | with_reducible refine ed_cmp ?_ | with_reducible refine ed_eqI ?_ | with_reducible refine ed_neI ?_ | with_reducible refine ed_slT ?_ | with_reducible refine ed_slL ?_ | with_reducible refine ed_lenT ?_ | with_reducible refine ed_lenL ?_ | with_reducible refine ed_lenS ?_ | with_reducible refine ed_inS ?_ | with_reducible refine ed_itT ?_ | with_reducible refine ed_itL ?_ | with_reducible refine ed_tupL ?_ | with_reducible refine ed_tupT ?_ | with_reducible refine ed_listL ?_ | with_reducible refine ed_listT ?_ | with_reducible refine ed_neg ?_ | with_reducible refine ed_max ?_ | with_reducible refine ed_min ?_ | with_reducible refine ed_intB ?_)
local macro_rules | `(tactic| walk_at "e2") => `(tactic| first
  | walk_at "e1" | with_reducible refine ⟨_, rfl, ?_⟩ | with_reducible refine ⟨_, _, rfl, ?_⟩
  | with_reducible refine And.intro (Eq.refl (List.length _)) ?_ | with_reducible refine And.intro (Nat.le_of_ble_eq_true (n := List.length _) rfl) ?_
  | with_reducible refine And.intro (Eq.refl (_ : Sx)) (?_ : Ed _ _)
  | with_reducible exact gives_nx | with_reducible (refine gives_rt ?_; rfl))
local macro_rules | `(tactic| walk_at "e") => `(tactic| repeat walk_at "e2")
/-- begin a def's spec -/
local macro_rules | `(tactic| walk_at "i") => `(tactic| simp only [initS, List.map_cons, List.map_nil, List.length_cons, List.length_nil, Nat.reduceAdd, Nat.reduceSub, List.replicate, List.cons_append, List.nil_append])
namespace Sp
/-! ### the circle that the law plants -/
def lastN (sg : List Nat) : Nat := sg.getLast?.getD 0
def headN (sg : List Nat) : Nat := sg.head?.getD 0
structure Signs (sg : List Nat) : Prop where
  all : ∀ c ∈ sg, 97 ≤ c ∧ c ≤ 100
  adj : ∀ i a b, sg[i]? = some a → sg[i + 1]? = some b → a ≠ b
/-- the line at one step of the circle -/
def stepLn (n : Nat) (sp : List Int) (sg : List Nat) (i : Nat) (s : Int) : Ln :=
  if s = 0 then (sp.getD i 0, sp.getD ((i + 1) % n) 0, sg.getD i 0) else (sp.getD ((i + 1) % n) 0, sp.getD i 0, sg.getD i 0)
structure Half (p : Int) (first n k : Nat) (sp : List Int) (sg : List Nat) (L : List Nat) (qs : List (Option Ln)) (es : List (Int × Int)) : Prop where
  len : L.length + k = n
  nd : L.Nodup
  lt : ∀ m ∈ L, m < n
  qlen : qs.length = n
  free : ∀ m ∈ L, qs[m]? = some none
  full : ∀ m, m < n → m ∉ L → ∃ l, qs[m]? = some (some l) ∧ LnOk p l
  elen : es.length = k
  at' : ∀ i, i < k → ∃ (m : Nat) (s : Int), es[i]? = some (((first + m : Nat) : Int), s) ∧ m < n ∧ m ∉ L ∧ (s = 0 ∨ s = 1) ∧ qs[m]? = some (some (stepLn n sp sg i s))
  end' : (es.map Prod.fst).Nodup
  sub : ∀ e ∈ es, ∃ m : Nat, e.1 = ((first + m : Nat) : Int) ∧ m < n ∧ m ∉ L
theorem Half.step {p : Int} {first n k : Nat} {sp : List Int} {sg L : List Nat} {qs : List (Option Ln)} {es : List (Int × Int)} {v m : Nat} {s : Int} (h : Half p first n k sp sg L qs es) (hv : L[v]? = some m) (hs : s = 0 ∨ s = 1) (hl : LnOk p (stepLn n sp sg k s)) :
    Half p first n (k + 1) sp sg (L.eraseIdx v) (qs.set m (some (stepLn n sp sg k s))) (es ++ [(((first + m : Nat) : Int), s)]) := by
  obtain ⟨hvl, hve⟩ := List.getElem?_eq_some_iff.mp hv
  have hm : m ∈ L := List.mem_of_getElem? hv
  have hmn := h.lt m hm
  have hne : m ∉ L.eraseIdx v := by
    intro z
    rw [List.mem_eraseIdx_iff_getElem?] at z
    obtain ⟨i, hi, he⟩ := z
    obtain ⟨hil, hie⟩ := List.getElem?_eq_some_iff.mp he
    exact hi ((List.getElem_inj h.nd).mp (hie.trans hve.symm))
  have hsub : ∀ x ∈ L.eraseIdx v, x ∈ L := fun x hx => List.mem_of_mem_eraseIdx hx
  have hback : ∀ x ∈ L, x ≠ m → x ∈ L.eraseIdx v := fun x hx hxm => by
    rw [List.mem_eraseIdx_iff_getElem?]
    obtain ⟨i, hi⟩ := List.mem_iff_getElem?.mp hx
    refine ⟨i, fun e => ?_, hi⟩
    subst e
    rw [hv] at hi
    cases hi; exact hxm rfl
  refine ⟨?_, h.nd.sublist (List.eraseIdx_sublist L v), fun x hx => h.lt x (hsub x hx), by rw [List.length_set]; exact h.qlen, fun x hx => ?_, fun x hx hxl => ?_, ?_, fun i hi => ?_, ?_, fun e he => ?_⟩
  · rw [List.length_eraseIdx, if_pos hvl]
    have := h.len
    omega
  · rw [List.getElem?_set_ne (fun e : m = x => hne (by rw [e]; exact hx))]
    exact h.free x (hsub x hx)
  · by_cases e : x = m
    · subst e
      exact ⟨_, List.getElem?_set_self (by rw [h.qlen]; exact hx), hl⟩
    · rw [List.getElem?_set_ne (fun z => e z.symm)]
      exact h.full x hx fun z => hxl (hback x z e)
  · rw [List.length_append, h.elen]; rfl
  · by_cases hik : i < k
    · obtain ⟨x, t, h1, h2, h3, h4, h5⟩ := h.at' i hik
      refine ⟨x, t, by rw [List.getElem?_append_left (by rw [h.elen]; exact hik)]; exact h1, h2, fun z => h3 (hsub x z), h4, ?_⟩
      rw [List.getElem?_set_ne (fun z : m = x => h3 (by rw [← z]; exact hm))]
      exact h5
    · have : i = k := by omega
      subst this
      refine ⟨m, s, ?_, hmn, hne, hs, List.getElem?_set_self (by rw [h.qlen]; exact hmn)⟩
      rw [List.getElem?_append_right (by rw [h.elen]; exact Nat.le_refl _), h.elen, Nat.sub_self]; rfl
  · rw [List.map_append, List.nodup_append]
    refine ⟨h.end', by simp, fun a ha c hc => ?_⟩
    obtain ⟨e, he, rfl⟩ := List.mem_map.mp ha
    have hc : c = ((first + m : Nat) : Int) := by simpa using hc
    obtain ⟨x, h1, h2, h3⟩ := h.sub e he
    intro z
    have : x = m := by omega
    exact h3 (this ▸ hm)
  · rcases List.mem_append.mp he with he | he
    · obtain ⟨x, h1, h2, h3⟩ := h.sub e he
      exact ⟨x, h1, h2, fun z => h3 (hsub x z)⟩
    · rw [List.mem_singleton.mp he]
      exact ⟨m, rfl, hmn, hne⟩
structure Circ (p : Int) (first n : Nat) (sp : List Int) (sg : List Nat) (ks : List Ln) (es : List (Int × Int)) : Prop where
  spOk : ∀ x ∈ sp, 0 ≤ x ∧ x < p
  spl : sp.length = n
  sgOk : Signs sg
  sgl : sg.length = n
  ends : lastN sg ≠ headN sg
  half : Half p first n n sp sg [] (ks.map some) es
/-! ### a planted round -/
theorem Circ.at {p : Int} {n : Nat} {sp : List Int} {sg : List Nat} {ks more : List Ln} {es : List (Int × Int)} (h : Circ p 0 n sp sg ks es) {i : Nat} (hi : i < n) :
    ∃ e, es[i]? = some e ∧ EndOk (ks ++ more).length e ∧ plc (ks ++ more) e = sp.getD i 0 ∧ plc (ks ++ more) (far e) = sp.getD ((i + 1) % n) 0 ∧ cmpy (ks ++ more) e = sg.getD i 0 := by
  obtain ⟨m, s, h1, h2, _, hs, h5⟩ := h.half.at' i hi
  have hk : ks.length = n := by have := h.half.qlen; rwa [List.length_map] at this
  rw [Nat.zero_add] at h1
  have h6 : (ks ++ more)[m]? = some (stepLn n sp sg i s) := by
    rw [List.getElem?_append_left (by omega)]
    rw [List.getElem?_map] at h5
    obtain ⟨l, e1, e2⟩ := Option.map_eq_some_iff.mp h5
    cases e2
    exact e1
  refine ⟨_, h1, ⟨by simp, by simp; omega, by simp only; omega, by simp only; omega⟩, ?_, ?_, ?_⟩
  · unfold plc
    simp only [Int.toNat_natCast, h6]
    rcases hs with rfl | rfl <;> simp [sideOf, stepLn]
  · unfold plc far
    simp only [Int.toNat_natCast, h6]
    rcases hs with rfl | rfl <;> simp [sideOf, stepLn]
  · unfold cmpy
    simp only [Int.toNat_natCast, h6]
    rcases hs with rfl | rfl <;> simp [stepLn]
end Sp
end Lw

set_option maxHeartbeats 4000000
namespace Lw
open PySem Fu
local macro_rules | `(tactic| walk_at "e1") => `(tactic| first
  | with_reducible refine eo_seq ?_ | (with_reducible refine then_nx' ?_; refine ⟨?_, ?_, ?_⟩; rotate_left; · (try dsimp only [List.set, List.length_cons, List.length_nil, List.cons_append, List.nil_append, Nat.zero_add, Nat.reduceAdd]); exact rfl) | with_reducible refine then_rt ?_ | with_reducible refine eo_if ?_ | with_reducible refine eo_ret ?_ | with_reducible refine eo_set ?_ | with_reducible refine eo_asg ?_ | with_reducible refine eo_drop ?_ | with_reducible refine eo_nx ?_ | with_reducible refine eo_par ?_ | with_reducible refine eo_own ?_ | with_reducible refine eo_retN ?_ | with_reducible refine eo_for ?_ | with_reducible refine eo_retO ?_
  | with_reducible refine ev_c ?_ | (with_reducible refine ev_var ?_; refine ⟨_, rfl, ?_⟩) | with_reducible refine ev_bin ?_ | with_reducible refine ev_un ?_ | with_reducible refine ev_nil ?_ | with_reducible refine ev_cons ?_
  | with_reducible refine ev_tup ?_ | with_reducible refine ev_lst ?_ | with_reducible refine ev_call ?_ | with_reducible refine ev_callF ?_ | with_reducible refine ev_isi ?_ | with_reducible refine ev_isi2 ?_ | with_reducible refine ev_andV ?_ | with_reducible refine ev_orV ?_ | with_reducible refine ev_notV ?_
  | with_reducible refine ev_B ?_ | with_reducible refine ev_and ?_ | with_reducible refine ev_or ?_ | with_reducible refine ev_not ?_ | with_reducible refine ev_yes ?_ | with_reducible refine ev_if ?_ | with_reducible refine ev_no ?_ | with_reducible refine ev_so ?_ | with_reducible refine ev_sl ?_ | with_reducible refine ev_items ?_
  | (with_reducible refine ev_ixO ?_; refine ⟨_, _, rfl, rfl, ?_⟩) | (with_reducible refine ev_varO ?_; refine ⟨_, _, rfl, rfl, ?_⟩) | (with_reducible refine ev_lenO ?_; refine ⟨_, _, rfl, rfl, ?_⟩) | (with_reducible refine ev_scrSl ?_; refine ⟨_, rfl, ?_⟩) | (with_reducible refine ev_scrLen ?_; refine ⟨_, rfl, ?_⟩) | (with_reducible refine ev_callScr ?_; refine ⟨_, rfl, ?_⟩) | (with_reducible refine ev_OL ?_; refine ⟨_, _, rfl, rfl, ?_⟩) | with_reducible refine ev_OR ?_ | with_reducible refine ev_rep ?_ | with_reducible refine ev_listRng1 ?_ | with_reducible refine eo_setO ?_
  | with_reducible refine es_name ?_ | with_reducible refine es_tup2 ?_ | with_reducible refine es_tup3 ?_
  | with_reducible refine ed_addI ?_ | with_reducible refine ed_subI ?_ | with_reducible refine ed_cmp ?_ | with_reducible refine ed_eqI ?_ | with_reducible refine ed_neI ?_ | with_reducible refine ed_slT ?_ | with_reducible refine ed_slL ?_ | with_reducible refine ed_lenT ?_ | with_reducible refine ed_lenL ?_ | with_reducible refine ed_lenS ?_ | with_reducible refine ed_inS ?_ | with_reducible refine ed_itT ?_ | with_reducible refine ed_itL ?_ | with_reducible refine ed_tupL ?_ | with_reducible refine ed_tupT ?_ | with_reducible refine ed_listL ?_ | with_reducible refine ed_listT ?_ | with_reducible refine ed_neg ?_ | with_reducible refine ed_max ?_ | with_reducible refine ed_min ?_ | with_reducible refine ed_intB ?_
  | with_reducible refine ev_rng1 ?_ | with_reducible refine ev_rng2 ?_)
local macro_rules | `(tactic| walk_at "sd") => `(tactic| first | rfl | assumption | (simp only [decide_eq_true_eq, decide_eq_false_iff_not, Bool.not_eq_true', Bool.not_eq_false', Bool.and_eq_true, Bool.or_eq_true, List.length_map, List.length_cons, List.length_nil, List.length_append, List.length_range] at *; omega))
local macro_rules | `(tactic| walk_at "e2") => `(tactic| first
  | walk_at "e1" | with_reducible refine ⟨_, rfl, ?_⟩ | with_reducible refine ⟨_, _, rfl, ?_⟩
  | with_reducible refine And.intro (Eq.refl (List.length _)) ?_ | with_reducible refine And.intro (Nat.le_of_ble_eq_true (n := List.length _) rfl) ?_
  | with_reducible refine And.intro (Eq.refl (_ : Sx)) (?_ : Ed _ _)
  | ((with_reducible refine And.intro ?_ (And.intro ?_ (?_ : Ev _ _))); (· rfl); (· rfl))
  | ((with_reducible refine ed_ixT ?_ ?_ ?_); (· decide); (· rfl)) | ((with_reducible refine ed_ixL ?_ ?_ ?_); (· decide); (· rfl)) | ((with_reducible refine ed_at ?_ ?_ ?_); (· decide); (· rfl))
  | ((with_reducible refine ed_modI ?_ ?_); (· first | decide | omega))
  | with_reducible exact gives_nx | ((with_reducible refine gives_rt ?_); (· rfl)) | ((with_reducible refine And.intro ?_ ?_); (· exact rfl); (· with_reducible exact Eq.refl (_ : Sx))))
local macro_rules | `(tactic| walk_at "e") => `(tactic| repeat walk_at "e2")
/-- begin a def's spec -/
local macro_rules | `(tactic| walk_at "i") => `(tactic| simp only [initS, List.map_cons, List.map_nil, List.length_cons, List.length_nil, Nat.reduceAdd, Nat.reduceSub, List.replicate, List.cons_append, List.nil_append])
/-- a known truth decides -/
local macro_rules | `(tactic| walk_at "t") => `(tactic| first | ((with_reducible refine split_t ?_ ?_); (· walk_at "sd")) | ((with_reducible refine split_t' ?_ ?_); (· walk_at "sd")))
local macro_rules | `(tactic| walk_at "f") => `(tactic| first | ((with_reducible refine split_f ?_ ?_); (· walk_at "sd")) | ((with_reducible refine split_f' ?_ ?_); (· walk_at "sd")))
/-- all that is seen in a look -/
local macro_rules | `(tactic| walk_at "v") => `(tactic| (rw [sealAll_mk (by (simp only [List.set_cons_zero, List.set_cons_succ, List.map_cons, List.map_nil, sealS_none, sealS_dat, sealS_scr, sealS_own, List.getElem?_cons_zero, List.getElem?_cons_succ, sealC_lst]; rfl)) (by (simp only [List.set_cons_zero, List.set_cons_succ, List.map_cons, List.map_nil]; rfl))]))
/-! ### the law's own looks -/
end Lw

set_option maxHeartbeats 4000000
namespace Lw
open PySem Fu
local macro_rules | `(tactic| walk_at "e1") => `(tactic| first
  | with_reducible refine eo_seq ?_ | (with_reducible refine then_nx' ?_; refine ⟨?_, ?_, ?_⟩; rotate_left; · (try dsimp only [List.set, List.length_cons, List.length_nil, List.cons_append, List.nil_append, Nat.zero_add, Nat.reduceAdd]); exact rfl) | with_reducible refine then_rt ?_ | with_reducible refine eo_if ?_ | with_reducible refine eo_ret ?_ | with_reducible refine eo_set ?_ | with_reducible refine eo_asg ?_ | with_reducible refine eo_drop ?_ | with_reducible refine eo_nx ?_ | with_reducible refine eo_par ?_ | with_reducible refine eo_own ?_ | with_reducible refine eo_retN ?_ | with_reducible refine eo_for ?_ | with_reducible refine eo_retO ?_
  | with_reducible refine ev_c ?_ | (with_reducible refine ev_var ?_; refine ⟨_, rfl, ?_⟩) | with_reducible refine ev_bin ?_ | with_reducible refine ev_un ?_ | with_reducible refine ev_nil ?_ | with_reducible refine ev_cons ?_
  | with_reducible refine ev_tup ?_ | with_reducible refine ev_lst ?_ | with_reducible refine ev_call ?_ | with_reducible refine ev_callF ?_ | with_reducible refine ev_isi ?_ | with_reducible refine ev_isi2 ?_ | with_reducible refine ev_andV ?_ | with_reducible refine ev_orV ?_ | with_reducible refine ev_notV ?_
  | with_reducible refine ev_B ?_ | with_reducible refine ev_and ?_ | with_reducible refine ev_or ?_ | with_reducible refine ev_not ?_ | with_reducible refine ev_yes ?_ | with_reducible refine ev_if ?_ | with_reducible refine ev_no ?_ | with_reducible refine ev_so ?_ | with_reducible refine ev_sl ?_ | with_reducible refine ev_items ?_
  | (with_reducible refine ev_ixO ?_; refine ⟨_, _, rfl, rfl, ?_⟩) | (with_reducible refine ev_varO ?_; refine ⟨_, _, rfl, rfl, ?_⟩) | (with_reducible refine ev_lenO ?_; refine ⟨_, _, rfl, rfl, ?_⟩) | (with_reducible refine ev_scrSl ?_; refine ⟨_, rfl, ?_⟩) | (with_reducible refine ev_scrLen ?_; refine ⟨_, rfl, ?_⟩) | (with_reducible refine ev_callScr ?_; refine ⟨_, rfl, ?_⟩) | (with_reducible refine ev_OL ?_; refine ⟨_, _, rfl, rfl, ?_⟩) | with_reducible refine ev_OR ?_ | with_reducible refine ev_rep ?_ | with_reducible refine ev_listRng1 ?_ | with_reducible refine eo_setO ?_
  | with_reducible refine es_name ?_ | with_reducible refine es_tup2 ?_ | with_reducible refine es_tup3 ?_
  | with_reducible refine ed_addI ?_ | with_reducible refine ed_subI ?_ | with_reducible refine ed_cmp ?_ | with_reducible refine ed_eqI ?_ | with_reducible refine ed_neI ?_ | with_reducible refine ed_slT ?_ | with_reducible refine ed_slL ?_ | with_reducible refine ed_lenT ?_ | with_reducible refine ed_lenL ?_ | with_reducible refine ed_lenS ?_ | with_reducible refine ed_inS ?_ | with_reducible refine ed_itT ?_ | with_reducible refine ed_itL ?_ | with_reducible refine ed_tupL ?_ | with_reducible refine ed_tupT ?_ | with_reducible refine ed_listL ?_ | with_reducible refine ed_listT ?_ | with_reducible refine ed_neg ?_ | with_reducible refine ed_max ?_ | with_reducible refine ed_min ?_ | with_reducible refine ed_intB ?_
  | with_reducible refine ev_rng1 ?_ | with_reducible refine ev_rng2 ?_)
local macro_rules | `(tactic| walk_at "sd") => `(tactic| first | rfl | assumption | (simp only [decide_eq_true_eq, decide_eq_false_iff_not, Bool.not_eq_true', Bool.not_eq_false', Bool.and_eq_true, Bool.or_eq_true, List.length_map, List.length_cons, List.length_nil, List.length_append, List.length_range] at *; omega))
local macro_rules | `(tactic| walk_at "e2") => `(tactic| first
  | walk_at "e1" | with_reducible refine ⟨_, rfl, ?_⟩ | with_reducible refine ⟨_, _, rfl, ?_⟩
  | with_reducible refine And.intro (Eq.refl (List.length _)) ?_ | with_reducible refine And.intro (Nat.le_of_ble_eq_true (n := List.length _) rfl) ?_
  | with_reducible refine And.intro (Eq.refl (_ : Sx)) (?_ : Ed _ _)
  | ((with_reducible refine And.intro ?_ (And.intro ?_ (?_ : Ev _ _))); (· rfl); (· rfl))
  | ((with_reducible refine ed_ixT ?_ ?_ ?_); (· decide); (· rfl)) | ((with_reducible refine ed_ixL ?_ ?_ ?_); (· decide); (· rfl)) | ((with_reducible refine ed_at ?_ ?_ ?_); (· decide); (· rfl))
  | ((with_reducible refine ed_modI ?_ ?_); (· first | decide | omega))
  | with_reducible exact gives_nx | ((with_reducible refine gives_rt ?_); (· rfl)) | ((with_reducible refine And.intro ?_ ?_); (· exact rfl); (· with_reducible exact Eq.refl (_ : Sx))))
local macro_rules | `(tactic| walk_at "e") => `(tactic| repeat walk_at "e2")
/-- begin a def's spec -/
local macro_rules | `(tactic| walk_at "i") => `(tactic| simp only [initS, List.map_cons, List.map_nil, List.length_cons, List.length_nil, Nat.reduceAdd, Nat.reduceSub, List.replicate, List.cons_append, List.nil_append])
/-- a known truth decides -/
local macro_rules | `(tactic| walk_at "t") => `(tactic| first | ((with_reducible refine split_t ?_ ?_); (· walk_at "sd")) | ((with_reducible refine split_t' ?_ ?_); (· walk_at "sd")))
local macro_rules | `(tactic| walk_at "f") => `(tactic| first | ((with_reducible refine split_f ?_ ?_); (· walk_at "sd")) | ((with_reducible refine split_f' ?_ ?_); (· walk_at "sd")))
/-- all that is seen in a look -/
local macro_rules | `(tactic| walk_at "v") => `(tactic| (rw [sealAll_mk (by (simp only [List.set_cons_zero, List.set_cons_succ, List.map_cons, List.map_nil, sealS_none, sealS_dat, sealS_scr, sealS_own, List.getElem?_cons_zero, List.getElem?_cons_succ, sealC_lst]; rfl)) (by (simp only [List.set_cons_zero, List.set_cons_succ, List.map_cons, List.map_nil]; rfl))]))
namespace Sp
end Sp
end Lw

set_option maxHeartbeats 4000000
namespace Lw
open PySem Fu
local macro_rules | `(tactic| walk_at "e1") => `(tactic| first
  | with_reducible refine eo_seq ?_ | (with_reducible refine then_nx' ?_; refine ⟨?_, ?_, ?_⟩; rotate_left; · (try dsimp only [List.set, List.length_cons, List.length_nil, List.cons_append, List.nil_append, Nat.zero_add, Nat.reduceAdd]); exact rfl) | with_reducible refine then_rt ?_ | with_reducible refine eo_if ?_ | with_reducible refine eo_ret ?_ | with_reducible refine eo_set ?_ | with_reducible refine eo_asg ?_ | with_reducible refine eo_drop ?_ | with_reducible refine eo_nx ?_ | with_reducible refine eo_par ?_ | with_reducible refine eo_own ?_ | with_reducible refine eo_retN ?_ | with_reducible refine eo_for ?_ | with_reducible refine eo_retO ?_
  | with_reducible refine ev_c ?_ | (with_reducible refine ev_var ?_; refine ⟨_, rfl, ?_⟩) | with_reducible refine ev_bin ?_ | with_reducible refine ev_un ?_ | with_reducible refine ev_nil ?_ | with_reducible refine ev_cons ?_
  | with_reducible refine ev_tup ?_ | with_reducible refine ev_lst ?_ | with_reducible refine ev_call ?_ | with_reducible refine ev_callF ?_ | with_reducible refine ev_isi ?_ | with_reducible refine ev_isi2 ?_ | with_reducible refine ev_andV ?_ | with_reducible refine ev_orV ?_ | with_reducible refine ev_notV ?_
  | with_reducible refine ev_B ?_ | with_reducible refine ev_and ?_ | with_reducible refine ev_or ?_ | with_reducible refine ev_not ?_ | with_reducible refine ev_yes ?_ | with_reducible refine ev_if ?_ | with_reducible refine ev_no ?_ | with_reducible refine ev_so ?_ | with_reducible refine ev_sl ?_ | with_reducible refine ev_items ?_
  | (with_reducible refine ev_ixO ?_; refine ⟨_, _, rfl, rfl, ?_⟩) | (with_reducible refine ev_varO ?_; refine ⟨_, _, rfl, rfl, ?_⟩) | (with_reducible refine ev_lenO ?_; refine ⟨_, _, rfl, rfl, ?_⟩) | (with_reducible refine ev_scrSl ?_; refine ⟨_, rfl, ?_⟩) | (with_reducible refine ev_scrLen ?_; refine ⟨_, rfl, ?_⟩) | (with_reducible refine ev_callScr ?_; refine ⟨_, rfl, ?_⟩) | (with_reducible refine ev_OL ?_; refine ⟨_, _, rfl, rfl, ?_⟩) | with_reducible refine ev_OR ?_ | with_reducible refine ev_rep ?_ | with_reducible refine ev_listRng1 ?_ | with_reducible refine eo_setO ?_
  | with_reducible refine es_name ?_ | with_reducible refine es_tup2 ?_ | with_reducible refine es_tup3 ?_
  | with_reducible refine ed_addI ?_ | with_reducible refine ed_subI ?_ | with_reducible refine ed_cmp ?_ | with_reducible refine ed_eqI ?_ | with_reducible refine ed_neI ?_ | with_reducible refine ed_slT ?_ | with_reducible refine ed_slL ?_ | with_reducible refine ed_lenT ?_ | with_reducible refine ed_lenL ?_ | with_reducible refine ed_lenS ?_ | with_reducible refine ed_inS ?_ | with_reducible refine ed_itT ?_ | with_reducible refine ed_itL ?_ | with_reducible refine ed_tupL ?_ | with_reducible refine ed_tupT ?_ | with_reducible refine ed_listL ?_ | with_reducible refine ed_listT ?_ | with_reducible refine ed_neg ?_ | with_reducible refine ed_max ?_ | with_reducible refine ed_min ?_ | with_reducible refine ed_intB ?_
  | with_reducible refine ev_rng1 ?_ | with_reducible refine ev_rng2 ?_)
local macro_rules | `(tactic| walk_at "sd") => `(tactic| first | rfl | assumption | (simp only [decide_eq_true_eq, decide_eq_false_iff_not, Bool.not_eq_true', Bool.not_eq_false', Bool.and_eq_true, Bool.or_eq_true, List.length_map, List.length_cons, List.length_nil, List.length_append, List.length_range] at *; omega))
local macro_rules | `(tactic| walk_at "e2") => `(tactic| first
  | walk_at "e1" | with_reducible refine ⟨_, rfl, ?_⟩ | with_reducible refine ⟨_, _, rfl, ?_⟩
  | with_reducible refine And.intro (Eq.refl (List.length _)) ?_ | with_reducible refine And.intro (Nat.le_of_ble_eq_true (n := List.length _) rfl) ?_
  | with_reducible refine And.intro (Eq.refl (_ : Sx)) (?_ : Ed _ _)
  | ((with_reducible refine And.intro ?_ (And.intro ?_ (?_ : Ev _ _))); (· rfl); (· rfl))
  | ((with_reducible refine ed_ixT ?_ ?_ ?_); (· decide); (· rfl)) | ((with_reducible refine ed_ixL ?_ ?_ ?_); (· decide); (· rfl)) | ((with_reducible refine ed_at ?_ ?_ ?_); (· decide); (· rfl))
  | ((with_reducible refine ed_modI ?_ ?_); (· first | decide | omega))
  | with_reducible exact gives_nx | ((with_reducible refine gives_rt ?_); (· rfl)) | ((with_reducible refine And.intro ?_ ?_); (· exact rfl); (· with_reducible exact Eq.refl (_ : Sx))))
local macro_rules | `(tactic| walk_at "e") => `(tactic| repeat walk_at "e2")
/-- begin a def's spec -/
local macro_rules | `(tactic| walk_at "i") => `(tactic| simp only [initS, List.map_cons, List.map_nil, List.length_cons, List.length_nil, Nat.reduceAdd, Nat.reduceSub, List.replicate, List.cons_append, List.nil_append])
/-- a known truth decides -/
local macro_rules | `(tactic| walk_at "t") => `(tactic| first | ((with_reducible refine split_t ?_ ?_); (· walk_at "sd")) | ((with_reducible refine split_t' ?_ ?_); (· walk_at "sd")))
local macro_rules | `(tactic| walk_at "f") => `(tactic| first | ((with_reducible refine split_f ?_ ?_); (· walk_at "sd")) | ((with_reducible refine split_f' ?_ ?_); (· walk_at "sd")))
/-- all that is seen in a look -/
local macro_rules | `(tactic| walk_at "v") => `(tactic| (rw [sealAll_mk (by (simp only [List.set_cons_zero, List.set_cons_succ, List.map_cons, List.map_nil, sealS_none, sealS_dat, sealS_scr, sealS_own, List.getElem?_cons_zero, List.getElem?_cons_succ, sealC_lst]; rfl)) (by (simp only [List.set_cons_zero, List.set_cons_succ, List.map_cons, List.map_nil]; rfl))]))
namespace Sp
/-- a text of letters -/
def Letters (x : Str) : Prop := 0 < x.length ∧ x.length ≤ 26 ∧ ∀ c ∈ x.cps.toList, Let c
theorem letters_az : Letters "abcdefghijklmnopqrstuvwxyz" := ⟨by decide +kernel, by decide +kernel, by
  rw [letters]
  intro c hc
  obtain ⟨i, hi, rfl⟩ := List.mem_map.mp hc
  rw [List.mem_range] at hi
  exact ⟨by omega, by omega⟩⟩
theorem letters_few {x : Str} {l : List Nat} (e : x.cps.toList = l) (h0 : 0 < l.length) (h1 : l.length ≤ 26) (h : ∀ c ∈ l, Let c) : Letters x := by
  have : x.length = l.length := by rw [← e, Array.length_toList]; rfl
  exact ⟨by omega, by omega, by rw [e]; exact h⟩
end Sp
end Lw

set_option maxHeartbeats 4000000
namespace Lw
open PySem Fu
local macro_rules | `(tactic| walk_at "e1") => `(tactic| first
  | with_reducible refine eo_seq ?_ | (with_reducible refine then_nx' ?_; refine ⟨?_, ?_, ?_⟩; rotate_left; · (try dsimp only [List.set, List.length_cons, List.length_nil, List.cons_append, List.nil_append, Nat.zero_add, Nat.reduceAdd]); exact rfl) | with_reducible refine then_rt ?_ | with_reducible refine eo_if ?_ | with_reducible refine eo_ret ?_ | with_reducible refine eo_set ?_ | with_reducible refine eo_asg ?_ | with_reducible refine eo_drop ?_ | with_reducible refine eo_nx ?_ | with_reducible refine eo_par ?_ | with_reducible refine eo_own ?_ | with_reducible refine eo_retN ?_ | with_reducible refine eo_for ?_ | with_reducible refine eo_retO ?_
  | with_reducible refine ev_c ?_ | (with_reducible refine ev_var ?_; refine ⟨_, rfl, ?_⟩) | with_reducible refine ev_bin ?_ | with_reducible refine ev_un ?_ | with_reducible refine ev_nil ?_ | with_reducible refine ev_cons ?_
  | with_reducible refine ev_tup ?_ | with_reducible refine ev_lst ?_ | with_reducible refine ev_call ?_ | with_reducible refine ev_callF ?_ | with_reducible refine ev_isi ?_ | with_reducible refine ev_isi2 ?_ | with_reducible refine ev_andV ?_ | with_reducible refine ev_orV ?_ | with_reducible refine ev_notV ?_
  | with_reducible refine ev_B ?_ | with_reducible refine ev_and ?_ | with_reducible refine ev_or ?_ | with_reducible refine ev_not ?_ | with_reducible refine ev_yes ?_ | with_reducible refine ev_if ?_ | with_reducible refine ev_no ?_ | with_reducible refine ev_so ?_ | with_reducible refine ev_sl ?_ | with_reducible refine ev_items ?_
  | (with_reducible refine ev_ixO ?_; refine ⟨_, _, rfl, rfl, ?_⟩) | (with_reducible refine ev_varO ?_; refine ⟨_, _, rfl, rfl, ?_⟩) | (with_reducible refine ev_lenO ?_; refine ⟨_, _, rfl, rfl, ?_⟩) | (with_reducible refine ev_scrSl ?_; refine ⟨_, rfl, ?_⟩) | (with_reducible refine ev_scrLen ?_; refine ⟨_, rfl, ?_⟩) | (with_reducible refine ev_callScr ?_; refine ⟨_, rfl, ?_⟩) | (with_reducible refine ev_OL ?_; refine ⟨_, _, rfl, rfl, ?_⟩) | with_reducible refine ev_OR ?_ | with_reducible refine ev_rep ?_ | with_reducible refine ev_listRng1 ?_ | with_reducible refine eo_setO ?_
  | with_reducible refine es_name ?_ | with_reducible refine es_tup2 ?_ | with_reducible refine es_tup3 ?_
  | with_reducible refine ed_addI ?_ | with_reducible refine ed_subI ?_ | with_reducible refine ed_cmp ?_ | with_reducible refine ed_eqI ?_ | with_reducible refine ed_neI ?_ | with_reducible refine ed_slT ?_ | with_reducible refine ed_slL ?_ | with_reducible refine ed_lenT ?_ | with_reducible refine ed_lenL ?_ | with_reducible refine ed_lenS ?_ | with_reducible refine ed_inS ?_ | with_reducible refine ed_itT ?_ | with_reducible refine ed_itL ?_ | with_reducible refine ed_tupL ?_ | with_reducible refine ed_tupT ?_ | with_reducible refine ed_listL ?_ | with_reducible refine ed_listT ?_ | with_reducible refine ed_neg ?_ | with_reducible refine ed_max ?_ | with_reducible refine ed_min ?_ | with_reducible refine ed_intB ?_
  | with_reducible refine ev_rng1 ?_ | with_reducible refine ev_rng2 ?_)
local macro_rules | `(tactic| walk_at "sd") => `(tactic| first | rfl | assumption | (simp only [decide_eq_true_eq, decide_eq_false_iff_not, Bool.not_eq_true', Bool.not_eq_false', Bool.and_eq_true, Bool.or_eq_true, List.length_map, List.length_cons, List.length_nil, List.length_append, List.length_range] at *; omega))
local macro_rules | `(tactic| walk_at "e2") => `(tactic| first
  | walk_at "e1" | with_reducible refine ⟨_, rfl, ?_⟩ | with_reducible refine ⟨_, _, rfl, ?_⟩
  | with_reducible refine And.intro (Eq.refl (List.length _)) ?_ | with_reducible refine And.intro (Nat.le_of_ble_eq_true (n := List.length _) rfl) ?_
  | with_reducible refine And.intro (Eq.refl (_ : Sx)) (?_ : Ed _ _)
  | ((with_reducible refine And.intro ?_ (And.intro ?_ (?_ : Ev _ _))); (· rfl); (· rfl))
  | ((with_reducible refine ed_ixT ?_ ?_ ?_); (· decide); (· rfl)) | ((with_reducible refine ed_ixL ?_ ?_ ?_); (· decide); (· rfl)) | ((with_reducible refine ed_at ?_ ?_ ?_); (· decide); (· rfl))
  | ((with_reducible refine ed_modI ?_ ?_); (· first | decide | omega))
  | with_reducible exact gives_nx | ((with_reducible refine gives_rt ?_); (· rfl)) | ((with_reducible refine And.intro ?_ ?_); (· exact rfl); (· with_reducible exact Eq.refl (_ : Sx))))
local macro_rules | `(tactic| walk_at "e") => `(tactic| repeat walk_at "e2")
/-- begin a def's spec -/
local macro_rules | `(tactic| walk_at "i") => `(tactic| simp only [initS, List.map_cons, List.map_nil, List.length_cons, List.length_nil, Nat.reduceAdd, Nat.reduceSub, List.replicate, List.cons_append, List.nil_append])
/-- a known truth decides -/
local macro_rules | `(tactic| walk_at "t") => `(tactic| first | ((with_reducible refine split_t ?_ ?_); (· walk_at "sd")) | ((with_reducible refine split_t' ?_ ?_); (· walk_at "sd")))
local macro_rules | `(tactic| walk_at "f") => `(tactic| first | ((with_reducible refine split_f ?_ ?_); (· walk_at "sd")) | ((with_reducible refine split_f' ?_ ?_); (· walk_at "sd")))
/-- all that is seen in a look -/
local macro_rules | `(tactic| walk_at "v") => `(tactic| (rw [sealAll_mk (by (simp only [List.set_cons_zero, List.set_cons_succ, List.map_cons, List.map_nil, sealS_none, sealS_dat, sealS_scr, sealS_own, List.getElem?_cons_zero, List.getElem?_cons_succ, sealC_lst]; rfl)) (by (simp only [List.set_cons_zero, List.set_cons_succ, List.map_cons, List.map_nil]; rfl))]))
namespace Sp
end Sp
end Lw

set_option maxHeartbeats 4000000
namespace Lw
open PySem Fu
local macro_rules | `(tactic| walk_at "e1") => `(tactic| first
  | with_reducible refine eo_seq ?_ | (with_reducible refine then_nx' ?_; refine ⟨?_, ?_, ?_⟩; rotate_left; · (try dsimp only [List.set, List.length_cons, List.length_nil, List.cons_append, List.nil_append, Nat.zero_add, Nat.reduceAdd]); exact rfl) | with_reducible refine then_rt ?_ | with_reducible refine eo_if ?_ | with_reducible refine eo_ret ?_ | with_reducible refine eo_set ?_ | with_reducible refine eo_asg ?_ | with_reducible refine eo_drop ?_ | with_reducible refine eo_nx ?_ | with_reducible refine eo_par ?_ | with_reducible refine eo_own ?_ | with_reducible refine eo_retN ?_ | with_reducible refine eo_for ?_ | with_reducible refine eo_retO ?_
  | with_reducible refine ev_c ?_ | (with_reducible refine ev_var ?_; refine ⟨_, rfl, ?_⟩) | with_reducible refine ev_bin ?_ | with_reducible refine ev_un ?_ | with_reducible refine ev_nil ?_ | with_reducible refine ev_cons ?_
  | with_reducible refine ev_tup ?_ | with_reducible refine ev_lst ?_ | with_reducible refine ev_call ?_ | with_reducible refine ev_callF ?_ | with_reducible refine ev_isi ?_ | with_reducible refine ev_isi2 ?_ | with_reducible refine ev_andV ?_ | with_reducible refine ev_orV ?_ | with_reducible refine ev_notV ?_
  | with_reducible refine ev_B ?_ | with_reducible refine ev_and ?_ | with_reducible refine ev_or ?_ | with_reducible refine ev_not ?_ | with_reducible refine ev_yes ?_ | with_reducible refine ev_if ?_ | with_reducible refine ev_no ?_ | with_reducible refine ev_so ?_ | with_reducible refine ev_sl ?_ | with_reducible refine ev_items ?_
  | (with_reducible refine ev_ixO ?_; refine ⟨_, _, rfl, rfl, ?_⟩) | (with_reducible refine ev_varO ?_; refine ⟨_, _, rfl, rfl, ?_⟩) | (with_reducible refine ev_lenO ?_; refine ⟨_, _, rfl, rfl, ?_⟩) | (with_reducible refine ev_scrSl ?_; refine ⟨_, rfl, ?_⟩) | (with_reducible refine ev_scrLen ?_; refine ⟨_, rfl, ?_⟩) | (with_reducible refine ev_callScr ?_; refine ⟨_, rfl, ?_⟩) | (with_reducible refine ev_OL ?_; refine ⟨_, _, rfl, rfl, ?_⟩) | with_reducible refine ev_OR ?_ | with_reducible refine ev_rep ?_ | with_reducible refine ev_listRng1 ?_ | with_reducible refine eo_setO ?_
  | with_reducible refine es_name ?_ | with_reducible refine es_tup2 ?_ | with_reducible refine es_tup3 ?_
  | with_reducible refine ed_addI ?_ | with_reducible refine ed_subI ?_ | with_reducible refine ed_cmp ?_ | with_reducible refine ed_eqI ?_ | with_reducible refine ed_neI ?_ | with_reducible refine ed_slT ?_ | with_reducible refine ed_slL ?_ | with_reducible refine ed_lenT ?_ | with_reducible refine ed_lenL ?_ | with_reducible refine ed_lenS ?_ | with_reducible refine ed_inS ?_ | with_reducible refine ed_itT ?_ | with_reducible refine ed_itL ?_ | with_reducible refine ed_tupL ?_ | with_reducible refine ed_tupT ?_ | with_reducible refine ed_listL ?_ | with_reducible refine ed_listT ?_ | with_reducible refine ed_neg ?_ | with_reducible refine ed_max ?_ | with_reducible refine ed_min ?_ | with_reducible refine ed_intB ?_
  | with_reducible refine ev_rng1 ?_ | with_reducible refine ev_rng2 ?_)
local macro_rules | `(tactic| walk_at "sd") => `(tactic| first | rfl | assumption | (simp only [decide_eq_true_eq, decide_eq_false_iff_not, Bool.not_eq_true', Bool.not_eq_false', Bool.and_eq_true, Bool.or_eq_true, List.length_map, List.length_cons, List.length_nil, List.length_append, List.length_range] at *; omega))
local macro_rules | `(tactic| walk_at "e2") => `(tactic| first
  | walk_at "e1" | with_reducible refine ⟨_, rfl, ?_⟩ | with_reducible refine ⟨_, _, rfl, ?_⟩
  | with_reducible refine And.intro (Eq.refl (List.length _)) ?_ | with_reducible refine And.intro (Nat.le_of_ble_eq_true (n := List.length _) rfl) ?_
  | with_reducible refine And.intro (Eq.refl (_ : Sx)) (?_ : Ed _ _)
  | ((with_reducible refine And.intro ?_ (And.intro ?_ (?_ : Ev _ _))); (· rfl); (· rfl))
  | ((with_reducible refine ed_ixT ?_ ?_ ?_); (· decide); (· rfl)) | ((with_reducible refine ed_ixL ?_ ?_ ?_); (· decide); (· rfl)) | ((with_reducible refine ed_at ?_ ?_ ?_); (· decide); (· rfl))
  | ((with_reducible refine ed_modI ?_ ?_); (· first | decide | omega))
  | with_reducible exact gives_nx | ((with_reducible refine gives_rt ?_); (· rfl)) | ((with_reducible refine And.intro ?_ ?_); (· exact rfl); (· with_reducible exact Eq.refl (_ : Sx))))
local macro_rules | `(tactic| walk_at "e") => `(tactic| repeat walk_at "e2")
/-- begin a def's spec -/
local macro_rules | `(tactic| walk_at "i") => `(tactic| simp only [initS, List.map_cons, List.map_nil, List.length_cons, List.length_nil, Nat.reduceAdd, Nat.reduceSub, List.replicate, List.cons_append, List.nil_append])
/-- a known truth decides -/
local macro_rules | `(tactic| walk_at "t") => `(tactic| first | ((with_reducible refine split_t ?_ ?_); (· walk_at "sd")) | ((with_reducible refine split_t' ?_ ?_); (· walk_at "sd")))
local macro_rules | `(tactic| walk_at "f") => `(tactic| first | ((with_reducible refine split_f ?_ ?_); (· walk_at "sd")) | ((with_reducible refine split_f' ?_ ?_); (· walk_at "sd")))
/-- all that is seen in a look -/
local macro_rules | `(tactic| walk_at "v") => `(tactic| (rw [sealAll_mk (by (simp only [List.set_cons_zero, List.set_cons_succ, List.map_cons, List.map_nil, sealS_none, sealS_dat, sealS_scr, sealS_own, List.getElem?_cons_zero, List.getElem?_cons_succ, sealC_lst]; rfl)) (by (simp only [List.set_cons_zero, List.set_cons_succ, List.map_cons, List.map_nil]; rfl))]))
namespace Sp
end Sp
end Lw

set_option maxHeartbeats 4000000
namespace Lw
open PySem Fu
local macro_rules | `(tactic| walk_at "e1") => `(tactic| first
  | with_reducible refine eo_seq ?_ | (with_reducible refine then_nx' ?_; refine ⟨?_, ?_, ?_⟩; rotate_left; · (try dsimp only [List.set, List.length_cons, List.length_nil, List.cons_append, List.nil_append, Nat.zero_add, Nat.reduceAdd]); exact rfl) | with_reducible refine then_rt ?_ | with_reducible refine eo_if ?_ | with_reducible refine eo_ret ?_ | with_reducible refine eo_set ?_ | with_reducible refine eo_asg ?_ | with_reducible refine eo_drop ?_ | with_reducible refine eo_nx ?_ | with_reducible refine eo_par ?_ | with_reducible refine eo_own ?_ | with_reducible refine eo_retN ?_ | with_reducible refine eo_for ?_ | with_reducible refine eo_retO ?_
  | with_reducible refine ev_c ?_ | (with_reducible refine ev_var ?_; refine ⟨_, rfl, ?_⟩) | with_reducible refine ev_bin ?_ | with_reducible refine ev_un ?_ | with_reducible refine ev_nil ?_ | with_reducible refine ev_cons ?_
  | with_reducible refine ev_tup ?_ | with_reducible refine ev_lst ?_ | with_reducible refine ev_call ?_ | with_reducible refine ev_callF ?_ | with_reducible refine ev_isi ?_ | with_reducible refine ev_isi2 ?_ | with_reducible refine ev_andV ?_ | with_reducible refine ev_orV ?_ | with_reducible refine ev_notV ?_
  | with_reducible refine ev_B ?_ | with_reducible refine ev_and ?_ | with_reducible refine ev_or ?_ | with_reducible refine ev_not ?_ | with_reducible refine ev_yes ?_ | with_reducible refine ev_if ?_ | with_reducible refine ev_no ?_ | with_reducible refine ev_so ?_ | with_reducible refine ev_sl ?_ | with_reducible refine ev_items ?_
  | (with_reducible refine ev_ixO ?_; refine ⟨_, _, rfl, rfl, ?_⟩) | (with_reducible refine ev_varO ?_; refine ⟨_, _, rfl, rfl, ?_⟩) | (with_reducible refine ev_lenO ?_; refine ⟨_, _, rfl, rfl, ?_⟩) | (with_reducible refine ev_scrSl ?_; refine ⟨_, rfl, ?_⟩) | (with_reducible refine ev_scrLen ?_; refine ⟨_, rfl, ?_⟩) | (with_reducible refine ev_callScr ?_; refine ⟨_, rfl, ?_⟩) | (with_reducible refine ev_OL ?_; refine ⟨_, _, rfl, rfl, ?_⟩) | with_reducible refine ev_OR ?_ | with_reducible refine ev_rep ?_ | with_reducible refine ev_listRng1 ?_ | with_reducible refine eo_setO ?_
  | with_reducible refine es_name ?_ | with_reducible refine es_tup2 ?_ | with_reducible refine es_tup3 ?_
  | with_reducible refine ed_addI ?_ | with_reducible refine ed_subI ?_ | with_reducible refine ed_cmp ?_ | with_reducible refine ed_eqI ?_ | with_reducible refine ed_neI ?_ | with_reducible refine ed_slT ?_ | with_reducible refine ed_slL ?_ | with_reducible refine ed_lenT ?_ | with_reducible refine ed_lenL ?_ | with_reducible refine ed_lenS ?_ | with_reducible refine ed_inS ?_ | with_reducible refine ed_itT ?_ | with_reducible refine ed_itL ?_ | with_reducible refine ed_tupL ?_ | with_reducible refine ed_tupT ?_ | with_reducible refine ed_listL ?_ | with_reducible refine ed_listT ?_ | with_reducible refine ed_neg ?_ | with_reducible refine ed_max ?_ | with_reducible refine ed_min ?_ | with_reducible refine ed_intB ?_
  | with_reducible refine ev_rng1 ?_ | with_reducible refine ev_rng2 ?_)
local macro_rules | `(tactic| walk_at "sd") => `(tactic| first | rfl | assumption | (simp only [decide_eq_true_eq, decide_eq_false_iff_not, Bool.not_eq_true', Bool.not_eq_false', Bool.and_eq_true, Bool.or_eq_true, List.length_map, List.length_cons, List.length_nil, List.length_append, List.length_range] at *; omega))
local macro_rules | `(tactic| walk_at "e2") => `(tactic| first
  | walk_at "e1" | with_reducible refine ⟨_, rfl, ?_⟩ | with_reducible refine ⟨_, _, rfl, ?_⟩
  | with_reducible refine And.intro (Eq.refl (List.length _)) ?_ | with_reducible refine And.intro (Nat.le_of_ble_eq_true (n := List.length _) rfl) ?_
  | with_reducible refine And.intro (Eq.refl (_ : Sx)) (?_ : Ed _ _)
  | ((with_reducible refine And.intro ?_ (And.intro ?_ (?_ : Ev _ _))); (· rfl); (· rfl))
  | ((with_reducible refine ed_ixT ?_ ?_ ?_); (· decide); (· rfl)) | ((with_reducible refine ed_ixL ?_ ?_ ?_); (· decide); (· rfl)) | ((with_reducible refine ed_at ?_ ?_ ?_); (· decide); (· rfl))
  | ((with_reducible refine ed_modI ?_ ?_); (· first | decide | omega))
  | with_reducible exact gives_nx | ((with_reducible refine gives_rt ?_); (· rfl)) | ((with_reducible refine And.intro ?_ ?_); (· exact rfl); (· with_reducible exact Eq.refl (_ : Sx))))
local macro_rules | `(tactic| walk_at "e") => `(tactic| repeat walk_at "e2")
/-- begin a def's spec -/
local macro_rules | `(tactic| walk_at "i") => `(tactic| simp only [initS, List.map_cons, List.map_nil, List.length_cons, List.length_nil, Nat.reduceAdd, Nat.reduceSub, List.replicate, List.cons_append, List.nil_append])
/-- a known truth decides -/
local macro_rules | `(tactic| walk_at "t") => `(tactic| first | ((with_reducible refine split_t ?_ ?_); (· walk_at "sd")) | ((with_reducible refine split_t' ?_ ?_); (· walk_at "sd")))
local macro_rules | `(tactic| walk_at "f") => `(tactic| first | ((with_reducible refine split_f ?_ ?_); (· walk_at "sd")) | ((with_reducible refine split_f' ?_ ?_); (· walk_at "sd")))
/-- all that is seen in a look -/
local macro_rules | `(tactic| walk_at "v") => `(tactic| (rw [sealAll_mk (by (simp only [List.set_cons_zero, List.set_cons_succ, List.map_cons, List.map_nil, sealS_none, sealS_dat, sealS_scr, sealS_own, List.getElem?_cons_zero, List.getElem?_cons_succ, sealC_lst]; rfl)) (by (simp only [List.set_cons_zero, List.set_cons_succ, List.map_cons, List.map_nil]; rfl))]))
namespace Sp
end Sp
end Lw

set_option maxHeartbeats 4000000
namespace Lw
open PySem Fu
local macro_rules | `(tactic| walk_at "e1") => `(tactic| first
  | with_reducible refine eo_seq ?_ | (with_reducible refine then_nx' ?_; refine ⟨?_, ?_, ?_⟩; rotate_left; · (try dsimp only [List.set, List.length_cons, List.length_nil, List.cons_append, List.nil_append, Nat.zero_add, Nat.reduceAdd]); exact rfl) | with_reducible refine then_rt ?_ | with_reducible refine eo_if ?_ | with_reducible refine eo_ret ?_ | with_reducible refine eo_set ?_ | with_reducible refine eo_asg ?_ | with_reducible refine eo_drop ?_ | with_reducible refine eo_nx ?_ | with_reducible refine eo_par ?_ | with_reducible refine eo_own ?_ | with_reducible refine eo_retN ?_ | with_reducible refine eo_for ?_ | with_reducible refine eo_retO ?_
  | with_reducible refine ev_c ?_ | (with_reducible refine ev_var ?_; refine ⟨_, rfl, ?_⟩) | with_reducible refine ev_bin ?_ | with_reducible refine ev_un ?_ | with_reducible refine ev_nil ?_ | with_reducible refine ev_cons ?_
  | with_reducible refine ev_tup ?_ | with_reducible refine ev_lst ?_ | with_reducible refine ev_call ?_ | with_reducible refine ev_callF ?_ | with_reducible refine ev_isi ?_ | with_reducible refine ev_isi2 ?_ | with_reducible refine ev_andV ?_ | with_reducible refine ev_orV ?_ | with_reducible refine ev_notV ?_
  | with_reducible refine ev_B ?_ | with_reducible refine ev_and ?_ | with_reducible refine ev_or ?_ | with_reducible refine ev_not ?_ | with_reducible refine ev_yes ?_ | with_reducible refine ev_if ?_ | with_reducible refine ev_no ?_ | with_reducible refine ev_so ?_ | with_reducible refine ev_sl ?_ | with_reducible refine ev_items ?_
  | (with_reducible refine ev_ixO ?_; refine ⟨_, _, rfl, rfl, ?_⟩) | (with_reducible refine ev_varO ?_; refine ⟨_, _, rfl, rfl, ?_⟩) | (with_reducible refine ev_lenO ?_; refine ⟨_, _, rfl, rfl, ?_⟩) | (with_reducible refine ev_scrSl ?_; refine ⟨_, rfl, ?_⟩) | (with_reducible refine ev_scrLen ?_; refine ⟨_, rfl, ?_⟩) | (with_reducible refine ev_callScr ?_; refine ⟨_, rfl, ?_⟩) | (with_reducible refine ev_OL ?_; refine ⟨_, _, rfl, rfl, ?_⟩) | with_reducible refine ev_OR ?_ | with_reducible refine ev_rep ?_ | with_reducible refine ev_listRng1 ?_ | with_reducible refine eo_setO ?_
  | with_reducible refine es_name ?_ | with_reducible refine es_tup2 ?_ | with_reducible refine es_tup3 ?_
  | with_reducible refine ed_addI ?_ | with_reducible refine ed_subI ?_ | with_reducible refine ed_cmp ?_ | with_reducible refine ed_eqI ?_ | with_reducible refine ed_neI ?_ | with_reducible refine ed_slT ?_ | with_reducible refine ed_slL ?_ | with_reducible refine ed_lenT ?_ | with_reducible refine ed_lenL ?_ | with_reducible refine ed_lenS ?_ | with_reducible refine ed_inS ?_ | with_reducible refine ed_itT ?_ | with_reducible refine ed_itL ?_ | with_reducible refine ed_tupL ?_ | with_reducible refine ed_tupT ?_ | with_reducible refine ed_listL ?_ | with_reducible refine ed_listT ?_ | with_reducible refine ed_neg ?_ | with_reducible refine ed_max ?_ | with_reducible refine ed_min ?_ | with_reducible refine ed_intB ?_
  | with_reducible refine ev_rng1 ?_ | with_reducible refine ev_rng2 ?_)
local macro_rules | `(tactic| walk_at "sd") => `(tactic| first | rfl | assumption | (simp only [decide_eq_true_eq, decide_eq_false_iff_not, Bool.not_eq_true', Bool.not_eq_false', Bool.and_eq_true, Bool.or_eq_true, List.length_map, List.length_cons, List.length_nil, List.length_append, List.length_range] at *; omega))
local macro_rules | `(tactic| walk_at "e2") => `(tactic| first
  | walk_at "e1" | with_reducible refine ⟨_, rfl, ?_⟩ | with_reducible refine ⟨_, _, rfl, ?_⟩
  | with_reducible refine And.intro (Eq.refl (List.length _)) ?_ | with_reducible refine And.intro (Nat.le_of_ble_eq_true (n := List.length _) rfl) ?_
  | with_reducible refine And.intro (Eq.refl (_ : Sx)) (?_ : Ed _ _)
  | ((with_reducible refine And.intro ?_ (And.intro ?_ (?_ : Ev _ _))); (· rfl); (· rfl))
  | ((with_reducible refine ed_ixT ?_ ?_ ?_); (· decide); (· rfl)) | ((with_reducible refine ed_ixL ?_ ?_ ?_); (· decide); (· rfl)) | ((with_reducible refine ed_at ?_ ?_ ?_); (· decide); (· rfl))
  | ((with_reducible refine ed_modI ?_ ?_); (· first | decide | omega))
  | with_reducible exact gives_nx | ((with_reducible refine gives_rt ?_); (· rfl)) | ((with_reducible refine And.intro ?_ ?_); (· exact rfl); (· with_reducible exact Eq.refl (_ : Sx))))
local macro_rules | `(tactic| walk_at "e") => `(tactic| repeat walk_at "e2")
/-- begin a def's spec -/
local macro_rules | `(tactic| walk_at "i") => `(tactic| simp only [initS, List.map_cons, List.map_nil, List.length_cons, List.length_nil, Nat.reduceAdd, Nat.reduceSub, List.replicate, List.cons_append, List.nil_append])
/-- a known truth decides -/
local macro_rules | `(tactic| walk_at "t") => `(tactic| first | ((with_reducible refine split_t ?_ ?_); (· walk_at "sd")) | ((with_reducible refine split_t' ?_ ?_); (· walk_at "sd")))
local macro_rules | `(tactic| walk_at "f") => `(tactic| first | ((with_reducible refine split_f ?_ ?_); (· walk_at "sd")) | ((with_reducible refine split_f' ?_ ?_); (· walk_at "sd")))
/-- all that is seen in a look -/
local macro_rules | `(tactic| walk_at "v") => `(tactic| (rw [sealAll_mk (by (simp only [List.set_cons_zero, List.set_cons_succ, List.map_cons, List.map_nil, sealS_none, sealS_dat, sealS_scr, sealS_own, List.getElem?_cons_zero, List.getElem?_cons_succ, sealC_lst]; rfl)) (by (simp only [List.set_cons_zero, List.set_cons_succ, List.map_cons, List.map_nil]; rfl))]))
namespace Bg
/-! ### the bag -/
structure Bag (b : Nat) (cs : List D) : Prop where
  ex : ∃ (ns : List Int) (pos : Nat) (rest cnt total : Int), cs = [.list (ns.map .int), .int pos, .int rest, .int cnt, .int total] ∧ ns.length ≤ 63 ∧ pos ≤ ns.length ∧ 0 ≤ rest ∧ 0 ≤ cnt ∧ cnt + b ≤ 4294967296 ∧ 0 ≤ total ∧ total < 2305843009213693951
theorem Bag.mono {a b : Nat} {cs : List D} (h : Bag a cs) (l : b ≤ a) : Bag b cs := by
  obtain ⟨f, s, n, t, u, h1, h2, h3, h4, h5, h6, h7⟩ := h
  exact ⟨f, s, n, t, u, h1, h2, h3, h4, h5, by omega, h7⟩
end Bg
end Lw

set_option maxHeartbeats 4000000
namespace Lw
open PySem Fu
local macro_rules | `(tactic| walk_at "e1") => `(tactic| first
  | with_reducible refine eo_seq ?_ | (with_reducible refine then_nx' ?_; refine ⟨?_, ?_, ?_⟩; rotate_left; · (try dsimp only [List.set, List.length_cons, List.length_nil, List.cons_append, List.nil_append, Nat.zero_add, Nat.reduceAdd]); exact rfl) | with_reducible refine then_rt ?_ | with_reducible refine eo_if ?_ | with_reducible refine eo_ret ?_ | with_reducible refine eo_set ?_ | with_reducible refine eo_asg ?_ | with_reducible refine eo_drop ?_ | with_reducible refine eo_nx ?_ | with_reducible refine eo_par ?_ | with_reducible refine eo_own ?_ | with_reducible refine eo_retN ?_ | with_reducible refine eo_for ?_ | with_reducible refine eo_retO ?_
  | with_reducible refine ev_c ?_ | (with_reducible refine ev_var ?_; refine ⟨_, rfl, ?_⟩) | with_reducible refine ev_bin ?_ | with_reducible refine ev_un ?_ | with_reducible refine ev_nil ?_ | with_reducible refine ev_cons ?_
  | with_reducible refine ev_tup ?_ | with_reducible refine ev_lst ?_ | with_reducible refine ev_call ?_ | with_reducible refine ev_callF ?_ | with_reducible refine ev_isi ?_ | with_reducible refine ev_isi2 ?_ | with_reducible refine ev_andV ?_ | with_reducible refine ev_orV ?_ | with_reducible refine ev_notV ?_
  | with_reducible refine ev_B ?_ | with_reducible refine ev_and ?_ | with_reducible refine ev_or ?_ | with_reducible refine ev_not ?_ | with_reducible refine ev_yes ?_ | with_reducible refine ev_if ?_ | with_reducible refine ev_no ?_ | with_reducible refine ev_so ?_ | with_reducible refine ev_sl ?_ | with_reducible refine ev_items ?_
  | (with_reducible refine ev_ixO ?_; refine ⟨_, _, rfl, rfl, ?_⟩) | (with_reducible refine ev_varO ?_; refine ⟨_, _, rfl, rfl, ?_⟩) | (with_reducible refine ev_lenO ?_; refine ⟨_, _, rfl, rfl, ?_⟩) | (with_reducible refine ev_scrSl ?_; refine ⟨_, rfl, ?_⟩) | (with_reducible refine ev_scrLen ?_; refine ⟨_, rfl, ?_⟩) | (with_reducible refine ev_callScr ?_; refine ⟨_, rfl, ?_⟩) | (with_reducible refine ev_OL ?_; refine ⟨_, _, rfl, rfl, ?_⟩) | with_reducible refine ev_OR ?_ | with_reducible refine ev_rep ?_ | with_reducible refine ev_listRng1 ?_ | with_reducible refine eo_setO ?_
  | with_reducible refine es_name ?_ | with_reducible refine es_tup2 ?_ | with_reducible refine es_tup3 ?_
  | with_reducible refine ed_addI ?_ | with_reducible refine ed_subI ?_ | with_reducible refine ed_cmp ?_ | with_reducible refine ed_eqI ?_ | with_reducible refine ed_neI ?_ | with_reducible refine ed_slT ?_ | with_reducible refine ed_slL ?_ | with_reducible refine ed_lenT ?_ | with_reducible refine ed_lenL ?_ | with_reducible refine ed_lenS ?_ | with_reducible refine ed_inS ?_ | with_reducible refine ed_itT ?_ | with_reducible refine ed_itL ?_ | with_reducible refine ed_tupL ?_ | with_reducible refine ed_tupT ?_ | with_reducible refine ed_listL ?_ | with_reducible refine ed_listT ?_ | with_reducible refine ed_neg ?_ | with_reducible refine ed_max ?_ | with_reducible refine ed_min ?_ | with_reducible refine ed_intB ?_
  | with_reducible refine ev_rng1 ?_ | with_reducible refine ev_rng2 ?_)
local macro_rules | `(tactic| walk_at "sd") => `(tactic| first | rfl | assumption | (simp only [decide_eq_true_eq, decide_eq_false_iff_not, Bool.not_eq_true', Bool.not_eq_false', Bool.and_eq_true, Bool.or_eq_true, List.length_map, List.length_cons, List.length_nil, List.length_append, List.length_range] at *; omega))
local macro_rules | `(tactic| walk_at "e2") => `(tactic| first
  | walk_at "e1" | with_reducible refine ⟨_, rfl, ?_⟩ | with_reducible refine ⟨_, _, rfl, ?_⟩
  | with_reducible refine And.intro (Eq.refl (List.length _)) ?_ | with_reducible refine And.intro (Nat.le_of_ble_eq_true (n := List.length _) rfl) ?_
  | with_reducible refine And.intro (Eq.refl (_ : Sx)) (?_ : Ed _ _)
  | ((with_reducible refine And.intro ?_ (And.intro ?_ (?_ : Ev _ _))); (· rfl); (· rfl))
  | ((with_reducible refine ed_ixT ?_ ?_ ?_); (· decide); (· rfl)) | ((with_reducible refine ed_ixL ?_ ?_ ?_); (· decide); (· rfl)) | ((with_reducible refine ed_at ?_ ?_ ?_); (· decide); (· rfl))
  | ((with_reducible refine ed_modI ?_ ?_); (· first | decide | omega))
  | with_reducible exact gives_nx | ((with_reducible refine gives_rt ?_); (· rfl)) | ((with_reducible refine And.intro ?_ ?_); (· exact rfl); (· with_reducible exact Eq.refl (_ : Sx))))
local macro_rules | `(tactic| walk_at "e") => `(tactic| repeat walk_at "e2")
/-- begin a def's spec -/
local macro_rules | `(tactic| walk_at "i") => `(tactic| simp only [initS, List.map_cons, List.map_nil, List.length_cons, List.length_nil, Nat.reduceAdd, Nat.reduceSub, List.replicate, List.cons_append, List.nil_append])
/-- a known truth decides -/
local macro_rules | `(tactic| walk_at "t") => `(tactic| first | ((with_reducible refine split_t ?_ ?_); (· walk_at "sd")) | ((with_reducible refine split_t' ?_ ?_); (· walk_at "sd")))
local macro_rules | `(tactic| walk_at "f") => `(tactic| first | ((with_reducible refine split_f ?_ ?_); (· walk_at "sd")) | ((with_reducible refine split_f' ?_ ?_); (· walk_at "sd")))
/-- all that is seen in a look -/
local macro_rules | `(tactic| walk_at "v") => `(tactic| (rw [sealAll_mk (by (simp only [List.set_cons_zero, List.set_cons_succ, List.map_cons, List.map_nil, sealS_none, sealS_dat, sealS_scr, sealS_own, List.getElem?_cons_zero, List.getElem?_cons_succ, sealC_lst]; rfl)) (by (simp only [List.set_cons_zero, List.set_cons_succ, List.map_cons, List.map_nil]; rfl))]))
/-- a comprehension that writes lists: what stands is said of all that was gathered -/
theorem turns_acc {gg : D → Sx → Option Sx} {ge : M D} {vs : List Nat} {w : List (Option R)} {ds0 : List D} (J : List D → List (Option Cell) → Prop)
    (h : ∀ i d acc os, ds0[i]? = some d → acc.length = i → J acc os → ∃ S2, gg d ⟨w, os⟩ = some S2 ∧ ∃ e S4, ge S2 = some (e, S4) ∧ wipeS S4.sl vs = w ∧ J (acc ++ [e]) S4.os) :
    ∀ (ds : List D) (acc : List D) (sl : List (Option R)) (os : List (Option Cell)), ds = ds0.drop acc.length → wipeS sl vs = w → J acc os →
      ∃ es sl' os', gTurns gg gYes ge vs ds ⟨sl, os⟩ = some (es, ⟨sl', os'⟩) ∧ wipeS sl' vs = w ∧ J (acc ++ es) os' ∧ es.length = ds.length
  | [], acc, sl, os, _, hw, hj => ⟨[], sl, os, rfl, hw, by rw [List.append_nil]; exact hj, rfl⟩
  | d :: ds, acc, sl, os, hd, hw, hj => by
    have hi : ds0[acc.length]? = some d := by
      have : (ds0.drop acc.length)[0]? = some d := by rw [← hd]; rfl
      rwa [List.getElem?_drop, Nat.add_zero] at this
    obtain ⟨S2, e2, e, ⟨sl4, os4⟩, e4, hw4, hj4⟩ := h _ d acc os hi rfl hj
    obtain ⟨es, sl', os', e5, hw5, hj5, hl⟩ := turns_acc J h ds (acc ++ [e]) sl4 os4 (by
      rw [List.length_append, List.length_singleton, ← List.drop_drop, ← hd]; rfl) hw4 hj4
    refine ⟨e :: es, sl', os', ?_, hw5, by rw [List.append_assoc] at hj5; exact hj5, by simp [hl]⟩
    rw [gTurns]
    simp only [hw, e2, Option.bind_some, gYes, if_true, e4, e5]
theorem ev_lcA {S : Sx} {Q : D → Sx → Prop} {gi : M (List D)} {gg : D → Sx → Option Sx} {ge : M D} {vs : List Nat} (J : List D → List (Option Cell) → Prop)
    (h : Ev (gi S) fun ds S1 => J [] S1.os ∧ (∀ i d acc os, ds[i]? = some d → acc.length = i → J acc os → Es (gg d ⟨wipeS S1.sl vs, os⟩) fun S2 => Ev (ge S2) fun e S4 => wipeS S4.sl vs = wipeS S1.sl vs ∧ J (acc ++ [e]) S4.os) ∧
      (∀ acc os, acc.length = ds.length → J acc os → Q (.list acc) ⟨S1.sl, os⟩)) : Ev (gLc gi gg gYes ge vs S) Q := by
  obtain ⟨ds, ⟨sl1, os1⟩, e1, h0, h1, q⟩ := h
  obtain ⟨es, sl', os', e2, hw, hj, hl⟩ := turns_acc (gg := gg) (ge := ge) (vs := vs) (w := wipeS sl1 vs) (ds0 := ds) J (fun i d acc os hd ha hj => by
    obtain ⟨S2, h2, e, S4, h4, h5⟩ := h1 i d acc os hd ha hj
    exact ⟨S2, h2, e, S4, h4, h5⟩) ds [] sl1 os1 rfl rfl h0
  refine ⟨_, _, ?_, q es os' hl (by simpa using hj)⟩
  unfold gLc
  rw [e1]
  simp only [Option.bind_some, e2, backS_same hw]
namespace Bg
end Bg
end Lw

set_option maxHeartbeats 4000000
namespace Lw
open PySem Fu
local macro_rules | `(tactic| walk_at "e1") => `(tactic| first
  | with_reducible refine eo_seq ?_ | (with_reducible refine then_nx' ?_; refine ⟨?_, ?_, ?_⟩; rotate_left; · (try dsimp only [List.set, List.length_cons, List.length_nil, List.cons_append, List.nil_append, Nat.zero_add, Nat.reduceAdd]); exact rfl) | with_reducible refine then_rt ?_ | with_reducible refine eo_if ?_ | with_reducible refine eo_ret ?_ | with_reducible refine eo_set ?_ | with_reducible refine eo_asg ?_ | with_reducible refine eo_drop ?_ | with_reducible refine eo_nx ?_ | with_reducible refine eo_par ?_ | with_reducible refine eo_own ?_ | with_reducible refine eo_retN ?_ | with_reducible refine eo_for ?_ | with_reducible refine eo_retO ?_
  | with_reducible refine ev_c ?_ | (with_reducible refine ev_var ?_; refine ⟨_, rfl, ?_⟩) | with_reducible refine ev_bin ?_ | with_reducible refine ev_un ?_ | with_reducible refine ev_nil ?_ | with_reducible refine ev_cons ?_
  | with_reducible refine ev_tup ?_ | with_reducible refine ev_lst ?_ | with_reducible refine ev_call ?_ | with_reducible refine ev_callF ?_ | with_reducible refine ev_isi ?_ | with_reducible refine ev_isi2 ?_ | with_reducible refine ev_andV ?_ | with_reducible refine ev_orV ?_ | with_reducible refine ev_notV ?_
  | with_reducible refine ev_B ?_ | with_reducible refine ev_and ?_ | with_reducible refine ev_or ?_ | with_reducible refine ev_not ?_ | with_reducible refine ev_yes ?_ | with_reducible refine ev_if ?_ | with_reducible refine ev_no ?_ | with_reducible refine ev_so ?_ | with_reducible refine ev_sl ?_ | with_reducible refine ev_items ?_
  | (with_reducible refine ev_ixO ?_; refine ⟨_, _, rfl, rfl, ?_⟩) | (with_reducible refine ev_varO ?_; refine ⟨_, _, rfl, rfl, ?_⟩) | (with_reducible refine ev_lenO ?_; refine ⟨_, _, rfl, rfl, ?_⟩) | (with_reducible refine ev_scrSl ?_; refine ⟨_, rfl, ?_⟩) | (with_reducible refine ev_scrLen ?_; refine ⟨_, rfl, ?_⟩) | (with_reducible refine ev_callScr ?_; refine ⟨_, rfl, ?_⟩) | (with_reducible refine ev_OL ?_; refine ⟨_, _, rfl, rfl, ?_⟩) | with_reducible refine ev_OR ?_ | with_reducible refine ev_rep ?_ | with_reducible refine ev_listRng1 ?_ | with_reducible refine eo_setO ?_
  | with_reducible refine es_name ?_ | with_reducible refine es_tup2 ?_ | with_reducible refine es_tup3 ?_
  | with_reducible refine ed_addI ?_ | with_reducible refine ed_subI ?_ | with_reducible refine ed_cmp ?_ | with_reducible refine ed_eqI ?_ | with_reducible refine ed_neI ?_ | with_reducible refine ed_slT ?_ | with_reducible refine ed_slL ?_ | with_reducible refine ed_lenT ?_ | with_reducible refine ed_lenL ?_ | with_reducible refine ed_lenS ?_ | with_reducible refine ed_inS ?_ | with_reducible refine ed_itT ?_ | with_reducible refine ed_itL ?_ | with_reducible refine ed_tupL ?_ | with_reducible refine ed_tupT ?_ | with_reducible refine ed_listL ?_ | with_reducible refine ed_listT ?_ | with_reducible refine ed_neg ?_ | with_reducible refine ed_max ?_ | with_reducible refine ed_min ?_ | with_reducible refine ed_intB ?_
  | with_reducible refine ev_rng1 ?_ | with_reducible refine ev_rng2 ?_)
local macro_rules | `(tactic| walk_at "sd") => `(tactic| first | rfl | assumption | (simp only [decide_eq_true_eq, decide_eq_false_iff_not, Bool.not_eq_true', Bool.not_eq_false', Bool.and_eq_true, Bool.or_eq_true, List.length_map, List.length_cons, List.length_nil, List.length_append, List.length_range] at *; omega))
local macro_rules | `(tactic| walk_at "e2") => `(tactic| first
  | walk_at "e1" | with_reducible refine ⟨_, rfl, ?_⟩ | with_reducible refine ⟨_, _, rfl, ?_⟩
  | with_reducible refine And.intro (Eq.refl (List.length _)) ?_ | with_reducible refine And.intro (Nat.le_of_ble_eq_true (n := List.length _) rfl) ?_
  | with_reducible refine And.intro (Eq.refl (_ : Sx)) (?_ : Ed _ _)
  | ((with_reducible refine And.intro ?_ (And.intro ?_ (?_ : Ev _ _))); (· rfl); (· rfl))
  | ((with_reducible refine ed_ixT ?_ ?_ ?_); (· decide); (· rfl)) | ((with_reducible refine ed_ixL ?_ ?_ ?_); (· decide); (· rfl)) | ((with_reducible refine ed_at ?_ ?_ ?_); (· decide); (· rfl))
  | ((with_reducible refine ed_modI ?_ ?_); (· first | decide | omega))
  | with_reducible exact gives_nx | ((with_reducible refine gives_rt ?_); (· rfl)) | ((with_reducible refine And.intro ?_ ?_); (· exact rfl); (· with_reducible exact Eq.refl (_ : Sx))))
local macro_rules | `(tactic| walk_at "e") => `(tactic| repeat walk_at "e2")
/-- begin a def's spec -/
local macro_rules | `(tactic| walk_at "i") => `(tactic| simp only [initS, List.map_cons, List.map_nil, List.length_cons, List.length_nil, Nat.reduceAdd, Nat.reduceSub, List.replicate, List.cons_append, List.nil_append])
/-- a known truth decides -/
local macro_rules | `(tactic| walk_at "t") => `(tactic| first | ((with_reducible refine split_t ?_ ?_); (· walk_at "sd")) | ((with_reducible refine split_t' ?_ ?_); (· walk_at "sd")))
local macro_rules | `(tactic| walk_at "f") => `(tactic| first | ((with_reducible refine split_f ?_ ?_); (· walk_at "sd")) | ((with_reducible refine split_f' ?_ ?_); (· walk_at "sd")))
/-- all that is seen in a look -/
local macro_rules | `(tactic| walk_at "v") => `(tactic| (rw [sealAll_mk (by (simp only [List.set_cons_zero, List.set_cons_succ, List.map_cons, List.map_nil, sealS_none, sealS_dat, sealS_scr, sealS_own, List.getElem?_cons_zero, List.getElem?_cons_succ, sealC_lst]; rfl)) (by (simp only [List.set_cons_zero, List.set_cons_succ, List.map_cons, List.map_nil]; rfl))]))
/-! ### one and the same -/
namespace Rl
theorem neB_self (b : Bool) : dNe (.bool b) (.bool b) = some (.bool false) := dNe_self (shaped_bool b)
end Rl
end Lw

set_option maxHeartbeats 4000000
namespace Lw
open PySem Fu
local macro_rules | `(tactic| walk_at "e1") => `(tactic| first
  | with_reducible refine eo_seq ?_ | (with_reducible refine then_nx' ?_; refine ⟨?_, ?_, ?_⟩; rotate_left; · (try dsimp only [List.set, List.length_cons, List.length_nil, List.cons_append, List.nil_append, Nat.zero_add, Nat.reduceAdd]); exact rfl) | with_reducible refine then_rt ?_ | with_reducible refine eo_if ?_ | with_reducible refine eo_ret ?_ | with_reducible refine eo_set ?_ | with_reducible refine eo_asg ?_ | with_reducible refine eo_drop ?_ | with_reducible refine eo_nx ?_ | with_reducible refine eo_par ?_ | with_reducible refine eo_own ?_ | with_reducible refine eo_retN ?_ | with_reducible refine eo_for ?_ | with_reducible refine eo_retO ?_
  | with_reducible refine ev_c ?_ | (with_reducible refine ev_var ?_; refine ⟨_, rfl, ?_⟩) | with_reducible refine ev_bin ?_ | with_reducible refine ev_un ?_ | with_reducible refine ev_nil ?_ | with_reducible refine ev_cons ?_
  | with_reducible refine ev_tup ?_ | with_reducible refine ev_lst ?_ | with_reducible refine ev_call ?_ | with_reducible refine ev_callF ?_ | with_reducible refine ev_isi ?_ | with_reducible refine ev_isi2 ?_ | with_reducible refine ev_andV ?_ | with_reducible refine ev_orV ?_ | with_reducible refine ev_notV ?_
  | with_reducible refine ev_B ?_ | with_reducible refine ev_and ?_ | with_reducible refine ev_or ?_ | with_reducible refine ev_not ?_ | with_reducible refine ev_yes ?_ | with_reducible refine ev_if ?_ | with_reducible refine ev_no ?_ | with_reducible refine ev_so ?_ | with_reducible refine ev_sl ?_ | with_reducible refine ev_items ?_
  | (with_reducible refine ev_ixO ?_; refine ⟨_, _, rfl, rfl, ?_⟩) | (with_reducible refine ev_varO ?_; refine ⟨_, _, rfl, rfl, ?_⟩) | (with_reducible refine ev_lenO ?_; refine ⟨_, _, rfl, rfl, ?_⟩) | (with_reducible refine ev_scrSl ?_; refine ⟨_, rfl, ?_⟩) | (with_reducible refine ev_scrLen ?_; refine ⟨_, rfl, ?_⟩) | (with_reducible refine ev_callScr ?_; refine ⟨_, rfl, ?_⟩) | (with_reducible refine ev_OL ?_; refine ⟨_, _, rfl, rfl, ?_⟩) | with_reducible refine ev_OR ?_ | with_reducible refine ev_rep ?_ | with_reducible refine ev_listRng1 ?_ | with_reducible refine eo_setO ?_
  | with_reducible refine es_name ?_ | with_reducible refine es_tup2 ?_ | with_reducible refine es_tup3 ?_
  | with_reducible refine ed_addI ?_ | with_reducible refine ed_subI ?_ | with_reducible refine ed_cmp ?_ | with_reducible refine ed_eqI ?_ | with_reducible refine ed_neI ?_ | with_reducible refine ed_slT ?_ | with_reducible refine ed_slL ?_ | with_reducible refine ed_lenT ?_ | with_reducible refine ed_lenL ?_ | with_reducible refine ed_lenS ?_ | with_reducible refine ed_inS ?_ | with_reducible refine ed_itT ?_ | with_reducible refine ed_itL ?_ | with_reducible refine ed_tupL ?_ | with_reducible refine ed_tupT ?_ | with_reducible refine ed_listL ?_ | with_reducible refine ed_listT ?_ | with_reducible refine ed_neg ?_ | with_reducible refine ed_max ?_ | with_reducible refine ed_min ?_ | with_reducible refine ed_intB ?_)
local macro_rules | `(tactic| walk_at "e2") => `(tactic| first
  | walk_at "e1" | with_reducible refine ⟨_, rfl, ?_⟩ | with_reducible refine ⟨_, _, rfl, ?_⟩
  | with_reducible refine And.intro (Eq.refl (List.length _)) ?_ | with_reducible refine And.intro (Nat.le_of_ble_eq_true (n := List.length _) rfl) ?_
  | with_reducible refine And.intro (Eq.refl (_ : Sx)) (?_ : Ed _ _)
  | with_reducible exact gives_nx | with_reducible (refine gives_rt ?_; rfl))
local macro_rules | `(tactic| walk_at "e") => `(tactic| repeat walk_at "e2")
/-- begin a def's spec -/
local macro_rules | `(tactic| walk_at "i") => `(tactic| simp only [initS, List.map_cons, List.map_nil, List.length_cons, List.length_nil, Nat.reduceAdd, Nat.reduceSub, List.replicate, List.cons_append, List.nil_append])
namespace Rl
/-! ### the reel -/
def iLs (xs : List Int) : List D := xs.map PyData.int
structure Reel (b : Nat) (cs : List D) : Prop where
  ex : ∃ (great cells : List Int) (n stir : Int), cs = [.list (iLs great), .list (iLs cells), .int n, .int stir] ∧ (∀ g ∈ great, 0 ≤ g) ∧ great.length ≤ 63 ∧ 0 < cells.length ∧ cells.length ≤ 64 ∧ (∀ c ∈ cells, 0 ≤ c ∧ c < 1000003) ∧ 0 ≤ n ∧ n + b ≤ 10000000000000000000000000000000 ∧ 0 ≤ stir ∧ stir < 170141183460469231731687303715884105728
theorem Reel.mono {a b : Nat} {cs : List D} (h : Reel a cs) (l : b ≤ a) : Reel b cs := by
  obtain ⟨g, c, n, s, h1, h2, h3, h4, h5, h6, h7, h8, h9⟩ := h
  exact ⟨g, c, n, s, h1, h2, h3, h4, h5, h6, h7, by omega, h9⟩
theorem mulW {i j : Int} (a : -170141183460469231731687303715884105728 < i ∧ i < 170141183460469231731687303715884105728) (b : -170141183460469231731687303715884105728 < j ∧ j < 170141183460469231731687303715884105728) : L2.CMulW i j := Sp.mulW a b
theorem divW {i j : Int} (a : 0 < j ∧ j < 170141183460469231731687303715884105728) : L2.CDivW i j := Sp.divW a
theorem good_iLs (xs : List Int) : Good 1 (.list (iLs xs)) := good_list fun d hd => by
  obtain ⟨i, _, rfl⟩ := List.mem_map.mp hd
  exact good_int i
theorem x_draw {b : Nat} {cs : List D} {many : Int} (h : Reel (b + 1) cs) (m0 : 0 < many) (m1 : many ≤ 10000000000000000000000000000000) : ∃ d cs', m__law_draw cs [.int many] = some (d, cs') ∧ ∃ v, d = .int v ∧ 0 ≤ v ∧ v < many ∧ Reel b cs' := by
  obtain ⟨great, cells, n, stir, rfl, hg, hgl, hc0, hcl, hc, n0, n1, s0, s1⟩ := h
  unfold m__law_draw; refine mIO_of ?_; walk_at "i"; unfold g__law_draw
  walk_at "e"
  refine ed_at (by decide) rfl ?_
  walk_at "e"
  refine Ed.of (dNe_good (good_iLs great) (good_list_le (n := 1) (m := 0) (ds := []) (fun _ h => nomatch h) (by decide))) ?_
  walk_at "e"
  cases great with
  | cons g gs =>
    refine split_t (by simp [iLs]) ?_
    walk_at "e"
    refine ed_at (by decide) rfl ?_
    walk_at "e"
    refine ed_ixL (by decide) rfl ?_
    walk_at "e"
    refine ed_divI (divW ⟨m0, by omega⟩) ?_
    walk_at "e"
    refine ed_repB (Nat.le_of_ble_eq_true rfl) ?_
    walk_at "e"
    refine ed_at (by decide) rfl ?_
    walk_at "e"
    rw [cut_from (by decide)]
    have hlen : ((if (decide (many ≤ g)) = true then [PyData.int (g / many)] else [])).length ≤ 1 := by split <;> simp
    refine ed_addL (by
      have : gs.length ≤ 62 := by simpa using hgl
      simp only [iLs, List.map_cons, List.length_drop, List.length_cons, List.length_map] at hlen ⊢
      omega) ?_
    walk_at "e"
    refine ⟨0, _, rfl, rfl, ?_⟩
    walk_at "e"
    refine ⟨rfl, 0, rfl, by simp, ?_⟩
    walk_at "e"
    refine ed_modI m0 ?_
    refine ⟨_, rfl, _, rfl, Int.emod_nonneg _ (by omega), Int.emod_lt_of_pos _ m0, ?_⟩
    have hg0 := hg g List.mem_cons_self
    have hq : 0 ≤ g / many := Int.ediv_nonneg hg0 (by omega)
    refine ⟨(if (decide (many ≤ g)) = true then [g / many] else []) ++ gs, cells, n, stir, ?_, ?_, ?_, hc0, hcl, hc, n0, by omega, s0, s1⟩
    · simp only [List.set_cons_zero, iLs, List.map_append]
      congr 3
      split <;> simp
    · intro x hx
      rcases List.mem_append.mp hx with hx | hx
      · split at hx
        · rw [List.mem_singleton.mp hx]; exact hq
        · exact nomatch hx
      · exact hg x (List.mem_cons_of_mem _ hx)
    · have : gs.length ≤ 62 := by simpa using hgl
      have h2 : ((if (decide (many ≤ g)) = true then [g / many] else [])).length ≤ 1 := by split <;> simp
      rw [List.length_append]; omega
  | nil =>
    refine split_f (by simp [iLs]) ?_
    walk_at "e"
    refine ed_at (by decide) rfl ?_
    walk_at "e"
    refine ⟨0, _, rfl, rfl, ?_⟩
    walk_at "e"
    refine ⟨rfl, 2, rfl, by simp, ?_⟩
    walk_at "e"
    refine ed_at (by decide) rfl ?_
    walk_at "e"
    refine ed_at (by decide) rfl ?_
    walk_at "e"
    refine ed_at (by decide) rfl ?_
    walk_at "e"
    have hc0' : (0 : Int) < ((iLs cells).length : Int) := by simp [iLs]; omega
    refine ed_modI hc0' ?_
    have hi0 := Int.emod_nonneg (n + 1) (show ((iLs cells).length : Int) ≠ 0 by omega)
    have hi1 := Int.emod_lt_of_pos (n + 1) hc0'
    have hcl2 : (iLs cells).length = cells.length := by simp [iLs]
    have hk : ((n + 1) % ((iLs cells).length : Int)).toNat < cells.length := by omega
    have hm := hc _ (List.getElem_mem hk)
    refine ed_ixL hi0 (by
      unfold iLs
      rw [List.getElem?_map, show (List.map PyData.int cells).length = (iLs cells).length from rfl, List.getElem?_eq_getElem hk]; rfl) ?_
    generalize hv : cells[((n + 1) % ((iLs cells).length : Int)).toNat] = told at hm ⊢
    walk_at "e"
    refine ed_at (by decide) rfl ?_
    walk_at "e"
    refine ed_at (by decide) rfl ?_
    walk_at "e"
    refine ed_mulI (mulW ⟨by omega, s1⟩ ⟨by omega, s1⟩) ?_
    walk_at "e"
    refine ed_mulI (mulW ⟨by omega, by omega⟩ ⟨by decide, by decide⟩) ?_
    walk_at "e"
    refine ed_at (by decide) rfl ?_
    walk_at "e"
    refine ed_mulI (mulW ⟨by omega, by omega⟩ ⟨by decide, by decide⟩) ?_
    walk_at "e"
    refine ed_powI (by decide) ?_
    walk_at "e"
    refine ed_powI (by decide) ?_
    refine ed_mulI (by decide) ?_
    walk_at "e"
    refine ed_modI (by decide) ?_
    refine ⟨0, _, rfl, rfl, ?_⟩
    walk_at "e"
    refine ⟨rfl, 3, rfl, by simp, ?_⟩
    walk_at "e"
    refine ed_at (by decide) rfl ?_
    walk_at "e"
    refine ed_powI (by decide) ?_
    refine ed_divI (divW ⟨by decide, by decide⟩) ?_
    walk_at "e"
    refine ed_modI m0 ?_
    refine ⟨_, rfl, _, rfl, Int.emod_nonneg _ (by omega), Int.emod_lt_of_pos _ m0, ?_⟩
    refine ⟨[], cells, n + 1, _, rfl, (fun _ h => nomatch h), by simp, hc0, hcl, hc, by omega, by omega, Int.emod_nonneg _ (by decide), ?_⟩
    refine Int.lt_of_lt_of_le (Int.emod_lt_of_pos _ (by decide)) (by decide)
theorem x_reel {ns : List Int} (h : ns.length ≤ 63) : ∃ cs, m__law_reel ns = some cs ∧ Reel 4294967296 cs := by
  unfold m__law_reel; refine mScrN_of ?_; walk_at "i"; unfold g__law_reel
  walk_at "e"
  refine ed_powI (by decide) ?_
  walk_at "e"
  rw [cut_to (by decide), List.take_of_length_le (by simpa using h)]
  refine eo_loop (fun i S => ∃ st x, S = ⟨[some (.scr ns), some (.dat (.int st)), x, none], []⟩ ∧ 0 ≤ st ∧ st < 170141183460469231731687303715884105727) ⟨_, _, rfl, by decide, by decide⟩ ?_ ?_
  · rintro i d S hd ⟨st, x, rfl, h0, h1⟩
    obtain ⟨c, hc, rfl⟩ := List.mem_map.mp (List.mem_of_getElem? hd)
    walk_at "e"
    refine ed_mulI (mulW ⟨by omega, by omega⟩ ⟨by omega, by omega⟩) ?_
    walk_at "e"
    refine ed_modI (by decide) ?_
    walk_at "e"
    refine ed_powI (by decide) ?_
    walk_at "e"
    refine ed_powI (by decide) ?_
    refine ed_mulI (by decide) ?_
    walk_at "e"
    refine ed_modI (by decide) ?_
    refine ⟨_, rfl, _, _, rfl, Int.emod_nonneg _ (by decide), Int.lt_of_lt_of_le (Int.emod_lt_of_pos _ (by decide)) (by decide)⟩
  · rintro S ⟨st, x, rfl, h0, h1⟩
    walk_at "e"
    refine ev_lc (fun d => match d with | .int i => decide (1000000000000000000 ≤ i) | _ => false) (fun d => match d with | .int i => .int (i - 1000000000000000000) | d => d) ?_
    walk_at "e"
    rw [cut_to (by decide), List.take_of_length_le (by simpa using h)]
    refine ⟨fun d hd => ?_, ?_⟩
    · obtain ⟨c, hc, rfl⟩ := List.mem_map.mp hd
      walk_at "e"
      refine ⟨rfl, rfl, ?_⟩
      walk_at "e"
      refine ed_powI (by decide) ?_
      walk_at "e"
      refine ⟨rfl, rfl, fun _ => ?_⟩
      walk_at "e"
      refine ed_powI (by decide) ?_
      walk_at "e"
      exact ⟨rfl, rfl⟩
    · walk_at "e"
      refine ev_map (fun d => match d with | .int i => .int (i % 1000003) | d => d) ?_
      walk_at "e"
      rw [cut_to (by decide), List.take_of_length_le (by simpa using h)]
      refine ⟨fun d hd => ?_, ?_⟩
      · obtain ⟨c, hc, rfl⟩ := List.mem_map.mp hd
        walk_at "e"
        refine ⟨rfl, rfl, ?_⟩
        walk_at "e"
        refine ed_modI (by decide) ?_
        exact ⟨rfl, rfl⟩
      · walk_at "e"
        refine ed_addL (by simp; omega) ?_
        walk_at "e"
        refine ⟨_, _, _, rfl, rfl, ?_⟩
        refine ⟨(ns.filter fun i => decide (1000000000000000000 ≤ i)).map (· - 1000000000000000000), ns.map (· % 1000003) ++ [41], 0, st, ?_, ?_, ?_, by simp, by simp; omega, ?_, by decide, by decide, h0, by omega⟩
        · congr 2
          · unfold iLs
            rw [List.filter_map, List.map_map, List.map_map]
            rfl
          · congr 2
            unfold iLs
            rw [List.map_append, List.map_map, List.map_map]
            rfl
        · intro g hg
          obtain ⟨i, hi, rfl⟩ := List.mem_map.mp hg
          have := of_decide_eq_true (List.mem_filter.mp hi).2
          omega
        · rw [List.length_map]
          exact Nat.le_trans (List.length_filter_le _ _) h
        · intro c hc
          rcases List.mem_append.mp hc with hc | hc
          · obtain ⟨i, hi, rfl⟩ := List.mem_map.mp hc
            exact ⟨Int.emod_nonneg _ (by decide), Int.emod_lt_of_pos _ (by decide)⟩
          · rw [List.mem_singleton.mp hc]; exact ⟨by decide, by decide⟩
theorem ev_drawL {sl : List (Option R)} {os : List (Option Cell)} {i : Nat} {g : M (List D)} {Q : D → Sx → Prop}
    (h : ∃ j, sl[i]? = some (some (.own j)) ∧ Ev (g ⟨sl, os⟩) fun ds S1 => ∃ cs many c, S1.os[j]? = some (some (.lst cs)) ∧ ds = [.int many] ∧ Reel c cs ∧ 1 ≤ c ∧ 0 < many ∧ many ≤ 10000000000000000000000000000000 ∧ ∀ v cs', 0 ≤ v → v < many → Reel (c - 1) cs' → Q (.int v) ⟨S1.sl, S1.os.set j (some (.lst cs'))⟩) : Ev (gIO i 1 m__law_draw g ⟨sl, os⟩) Q := by
  obtain ⟨j, hi, h⟩ := h
  refine ev_IO ⟨j, hi, h.mono ?_⟩
  rintro ds S1 ⟨cs, many, c, hc, rfl, hR, c1, m0, m1, h⟩
  obtain ⟨d, cs', e, v, rfl, v0, v1, hR'⟩ := x_draw (b := c - 1) (hR.mono (by omega)) m0 m1
  exact ⟨cs, hc, rfl, _, cs', e, h v cs' v0 v1 hR'⟩
end Rl
end Lw

set_option maxHeartbeats 4000000
namespace Lw
open PySem Fu
local macro_rules | `(tactic| walk_at "e1") => `(tactic| first
  | with_reducible refine eo_seq ?_ | (with_reducible refine then_nx' ?_; refine ⟨?_, ?_, ?_⟩; rotate_left; · (try dsimp only [List.set, List.length_cons, List.length_nil, List.cons_append, List.nil_append, Nat.zero_add, Nat.reduceAdd]); exact rfl) | with_reducible refine then_rt ?_ | with_reducible refine eo_if ?_ | with_reducible refine eo_ret ?_ | with_reducible refine eo_set ?_ | with_reducible refine eo_asg ?_ | with_reducible refine eo_drop ?_ | with_reducible refine eo_nx ?_ | with_reducible refine eo_par ?_ | with_reducible refine eo_own ?_ | with_reducible refine eo_retN ?_ | with_reducible refine eo_for ?_ | with_reducible refine eo_retO ?_
  | with_reducible refine ev_c ?_ | (with_reducible refine ev_var ?_; refine ⟨_, rfl, ?_⟩) | with_reducible refine ev_bin ?_ | with_reducible refine ev_un ?_ | with_reducible refine ev_nil ?_ | with_reducible refine ev_cons ?_
  | with_reducible refine ev_tup ?_ | with_reducible refine ev_lst ?_ | with_reducible refine ev_call ?_ | with_reducible refine ev_callF ?_ | with_reducible refine ev_isi ?_ | with_reducible refine ev_isi2 ?_ | with_reducible refine ev_andV ?_ | with_reducible refine ev_orV ?_ | with_reducible refine ev_notV ?_
  | with_reducible refine ev_B ?_ | with_reducible refine ev_and ?_ | with_reducible refine ev_or ?_ | with_reducible refine ev_not ?_ | with_reducible refine ev_yes ?_ | with_reducible refine ev_if ?_ | with_reducible refine ev_no ?_ | with_reducible refine ev_so ?_ | with_reducible refine ev_sl ?_ | with_reducible refine ev_items ?_
  | (with_reducible refine ev_ixO ?_; refine ⟨_, _, rfl, rfl, ?_⟩) | (with_reducible refine ev_varO ?_; refine ⟨_, _, rfl, rfl, ?_⟩) | (with_reducible refine ev_lenO ?_; refine ⟨_, _, rfl, rfl, ?_⟩) | (with_reducible refine ev_scrSl ?_; refine ⟨_, rfl, ?_⟩) | (with_reducible refine ev_scrLen ?_; refine ⟨_, rfl, ?_⟩) | (with_reducible refine ev_callScr ?_; refine ⟨_, rfl, ?_⟩) | (with_reducible refine ev_OL ?_; refine ⟨_, _, rfl, rfl, ?_⟩) | with_reducible refine ev_OR ?_ | with_reducible refine ev_rep ?_ | with_reducible refine ev_listRng1 ?_ | with_reducible refine eo_setO ?_
  | with_reducible refine es_name ?_ | with_reducible refine es_tup2 ?_ | with_reducible refine es_tup3 ?_
  | with_reducible refine ed_addI ?_ | with_reducible refine ed_subI ?_ | with_reducible refine ed_cmp ?_ | with_reducible refine ed_eqI ?_ | with_reducible refine ed_neI ?_ | with_reducible refine ed_slT ?_ | with_reducible refine ed_slL ?_ | with_reducible refine ed_lenT ?_ | with_reducible refine ed_lenL ?_ | with_reducible refine ed_lenS ?_ | with_reducible refine ed_inS ?_ | with_reducible refine ed_itT ?_ | with_reducible refine ed_itL ?_ | with_reducible refine ed_tupL ?_ | with_reducible refine ed_tupT ?_ | with_reducible refine ed_listL ?_ | with_reducible refine ed_listT ?_ | with_reducible refine ed_neg ?_ | with_reducible refine ed_max ?_ | with_reducible refine ed_min ?_ | with_reducible refine ed_intB ?_
  | with_reducible refine ev_rng1 ?_ | with_reducible refine ev_rng2 ?_)
local macro_rules | `(tactic| walk_at "sd") => `(tactic| first | rfl | assumption | (simp only [decide_eq_true_eq, decide_eq_false_iff_not, Bool.not_eq_true', Bool.not_eq_false', Bool.and_eq_true, Bool.or_eq_true, List.length_map, List.length_cons, List.length_nil, List.length_append, List.length_range] at *; omega))
local macro_rules | `(tactic| walk_at "e2") => `(tactic| first
  | walk_at "e1" | with_reducible refine ⟨_, rfl, ?_⟩ | with_reducible refine ⟨_, _, rfl, ?_⟩
  | with_reducible refine And.intro (Eq.refl (List.length _)) ?_ | with_reducible refine And.intro (Nat.le_of_ble_eq_true (n := List.length _) rfl) ?_
  | with_reducible refine And.intro (Eq.refl (_ : Sx)) (?_ : Ed _ _)
  | ((with_reducible refine And.intro ?_ (And.intro ?_ (?_ : Ev _ _))); (· rfl); (· rfl))
  | ((with_reducible refine ed_ixT ?_ ?_ ?_); (· decide); (· rfl)) | ((with_reducible refine ed_ixL ?_ ?_ ?_); (· decide); (· rfl)) | ((with_reducible refine ed_at ?_ ?_ ?_); (· decide); (· rfl))
  | ((with_reducible refine ed_modI ?_ ?_); (· first | decide | omega))
  | with_reducible exact gives_nx | ((with_reducible refine gives_rt ?_); (· rfl)) | ((with_reducible refine And.intro ?_ ?_); (· exact rfl); (· with_reducible exact Eq.refl (_ : Sx))))
local macro_rules | `(tactic| walk_at "e") => `(tactic| repeat walk_at "e2")
/-- begin a def's spec -/
local macro_rules | `(tactic| walk_at "i") => `(tactic| simp only [initS, List.map_cons, List.map_nil, List.length_cons, List.length_nil, Nat.reduceAdd, Nat.reduceSub, List.replicate, List.cons_append, List.nil_append])
/-- a known truth decides -/
local macro_rules | `(tactic| walk_at "t") => `(tactic| first | ((with_reducible refine split_t ?_ ?_); (· walk_at "sd")) | ((with_reducible refine split_t' ?_ ?_); (· walk_at "sd")))
local macro_rules | `(tactic| walk_at "f") => `(tactic| first | ((with_reducible refine split_f ?_ ?_); (· walk_at "sd")) | ((with_reducible refine split_f' ?_ ?_); (· walk_at "sd")))
/-- all that is seen in a look -/
local macro_rules | `(tactic| walk_at "v") => `(tactic| (rw [sealAll_mk (by (simp only [List.set_cons_zero, List.set_cons_succ, List.map_cons, List.map_nil, sealS_none, sealS_dat, sealS_scr, sealS_own, List.getElem?_cons_zero, List.getElem?_cons_succ, sealC_lst]; rfl)) (by (simp only [List.set_cons_zero, List.set_cons_succ, List.map_cons, List.map_nil]; rfl))]))
namespace Rl
theorem some_letters {x : Str} {l : List Nat} (e : x.cps.toList = l) (h0 : 0 < l.length) (h1 : l.length ≤ 26) (h : ∀ c ∈ l, Let c) : Sp.Letters x := Sp.letters_few e h0 h1 h
theorem x__law_net {c : Nat} {most : Int} {cs : List D} (m0 : 0 ≤ most) (m1 : most ≤ 100) (hR : Reel c cs) (hc : 320 ≤ c) :
    ∃ d cs', m__law_net cs [.int most] = some (d, cs') ∧ ∃ p ls, d = wb p ls ∧ WbOk p ls ∧ p ≤ 24 ∧ ls.length ≤ most ∧ Reel (c - 320) cs' := by
  unfold m__law_net; refine mIO_of ?_; walk_at "i"; unfold g__law_net
  walk_at "e"
  refine ev_drawL ⟨_, rfl, ?_⟩
  walk_at "e"
  refine ⟨_, _, _, rfl, rfl, hR, by omega, by decide, by decide, fun v1 cs a1 b1 hR => ?_⟩
  walk_at "e"
  refine ev_drawL ⟨_, rfl, ?_⟩
  walk_at "e"
  refine ⟨_, _, _, rfl, rfl, hR, by omega, by decide, by decide, fun v2 cs a2 b2 hR => ?_⟩
  walk_at "e"
  refine ev_drawL ⟨_, rfl, ?_⟩
  walk_at "e"
  refine ⟨_, _, _, rfl, rfl, hR, by omega, by decide, by decide, fun v3 cs a3 b3 hR => ?_⟩
  walk_at "e"
  refine ev_drawL ⟨_, rfl, ?_⟩
  walk_at "e"
  refine ⟨_, _, _, rfl, rfl, hR, by omega, by decide, by decide, fun v4 cs a4 b4 hR => ?_⟩
  walk_at "e"
  refine ev_drawL ⟨_, rfl, ?_⟩
  walk_at "e"
  refine ⟨_, _, _, rfl, rfl, hR, by omega, by decide, by decide, fun v5 cs a5 b5 hR => ?_⟩
  refine ed_pick (P := fun d => ∃ n : Int, d = .int n ∧ 0 ≤ n ∧ n ≤ 24) a5 b5 (fun d hd => ?_) ?_
  · simp only [List.mem_cons, List.not_mem_nil, or_false] at hd
    rcases hd with rfl | rfl | rfl | rfl <;> exact ⟨_, rfl, by omega, by omega⟩
  rintro _ ⟨p, rfl, p0, p1⟩
  walk_at "e"
  refine ev_drawL ⟨_, rfl, ?_⟩
  walk_at "e"
  refine ⟨_, _, _, rfl, rfl, hR, by omega, by decide, by decide, fun v6 cs a6 b6 hR => ?_⟩
  walk_at "e"
  refine ev_drawL ⟨_, rfl, ?_⟩
  walk_at "e"
  refine ⟨_, _, _, rfl, rfl, hR, by omega, by decide, by decide, fun v7 cs a7 b7 hR => ?_⟩
  walk_at "e"
  refine ev_drawL ⟨_, rfl, ?_⟩
  walk_at "e"
  refine ⟨_, _, _, rfl, rfl, hR, by omega, by omega, by omega, fun v8 cs a8 b8 hR => ?_⟩
  walk_at "e"
  refine ev_drawL ⟨_, rfl, ?_⟩
  walk_at "e"
  refine ⟨_, _, _, rfl, rfl, hR, by omega, by decide, by decide, fun v9 cs a9 b9 hR => ?_⟩
  refine ed_pick (P := fun d => ∃ n : Int, d = .int n ∧ 0 ≤ n ∧ n ≤ 100) a9 b9 (fun d hd => ?_) ?_
  · simp only [List.mem_cons, List.not_mem_nil, or_false] at hd
    rcases hd with rfl | rfl | rfl <;> exact ⟨_, rfl, by omega, by omega⟩
  rintro _ ⟨many, rfl, n0, n1⟩
  walk_at "e"
  refine ev_drawL ⟨_, rfl, ?_⟩
  walk_at "e"
  refine ⟨_, _, _, rfl, rfl, hR, by omega, by decide, by decide, fun v10 cs a10 b10 hR => ?_⟩
  refine ed_pick (P := fun d => ∃ x : Str, d = .str x ∧ Sp.Letters x) a10 b10 (fun d hd => ?_) ?_
  · simp only [List.mem_cons, List.not_mem_nil, or_false] at hd
    rcases hd with rfl | rfl | rfl | rfl | rfl | rfl
    · exact ⟨_, rfl, some_letters (l := [97]) rfl (by decide) (by decide) (by decide)⟩
    · exact ⟨_, rfl, some_letters (l := [97, 98]) rfl (by decide) (by decide) (by decide)⟩
    · exact ⟨_, rfl, some_letters (l := [97, 97, 98]) rfl (by decide) (by decide) (by decide)⟩
    · exact ⟨_, rfl, some_letters (l := [97, 98, 99]) rfl (by decide) (by decide) (by decide)⟩
    · exact ⟨_, rfl, some_letters (l := [97, 98, 99, 100, 120, 121, 122]) rfl (by decide) (by decide) (by decide)⟩
    · exact ⟨_, rfl, Sp.letters_az⟩
  rintro _ ⟨word, rfl, hw⟩
  walk_at "e"
  refine ev_drawL ⟨_, rfl, ?_⟩
  walk_at "e"
  refine ⟨_, _, _, rfl, rfl, hR, by omega, by omega, by omega, fun v11 cs a11 b11 hR => ?_⟩
  walk_at "e"
  refine ed_mulI (mulW ⟨by omega, by omega⟩ ⟨by split <;> omega, by split <;> omega⟩) ?_
  walk_at "e"
  have hz : min many most * (if decide (0 < p) = true then 1 else 0) = if 0 < p then min many most else 0 := by
    by_cases h : 0 < p <;> simp [h]
  rw [hz]
  have hq : 0 ≤ (if 0 < p then min many most else 0) ∧ (if 0 < p then min many most else 0) ≤ most ∧ ((if 0 < p then min many most else 0) ≠ 0 → 0 < p) := by split <;> refine ⟨by omega, by omega, ?_⟩ <;> simp_all
  generalize (if 0 < p then min many most else 0) = q at hq
  obtain ⟨q0, q1, q2⟩ := hq
  refine ⟨by omega, by omega, ?_⟩
  refine eo_loopS 8 (fun i os => ∃ cs ls, os = [some (.lst cs), some (.lst (ls.map ln))] ∧ ls.length = i ∧ (∀ l ∈ ls, LnOk p l) ∧ Reel (c - 11 - 3 * i) cs) (Nat.le_of_ble_eq_true rfl) ⟨cs, [], rfl, rfl, (fun _ h => nomatch h), hR.mono (by omega)⟩ ?_ ?_
  · rintro i z x os hz ⟨cs, ls, rfl, hi, hall, hR⟩
    obtain ⟨hi2, rfl⟩ := rng_at hz
    have hp : 0 < p := q2 (by omega)
    walk_at "e"
    refine ev_app ⟨_, _, rfl, rfl, ?_⟩
    walk_at "e"
    refine ev_drawL ⟨_, rfl, ?_⟩
    walk_at "e"
    refine ⟨_, _, _, rfl, rfl, hR, by omega, by omega, by omega, fun x1 cs c1 d1 hR => ?_⟩
    walk_at "e"
    refine ev_drawL ⟨_, rfl, ?_⟩
    walk_at "e"
    refine ⟨_, _, _, rfl, rfl, hR, by omega, by omega, by omega, fun x2 cs c2 d2 hR => ?_⟩
    walk_at "e"
    refine ev_drawL ⟨_, rfl, ?_⟩
    walk_at "e"
    have hw0 := hw.1
    have hw1 := hw.2.1
    refine ⟨_, _, _, rfl, rfl, hR, by omega, by omega, by omega, fun x3 cs c3 d3 hR => ?_⟩
    refine ed_pickS (P := Let) c3 d3 hw.2.2 fun k kc => ?_
    walk_at "e"
    refine ⟨by simp; omega, ?_⟩
    refine ⟨_, _, rfl, cs, ls ++ [(x1, x2, k)], ?_, by simp; omega, ?_, hR.mono (by omega)⟩
    · rw [List.map_append]; rfl
    · intro l hl
      rcases List.mem_append.mp hl with hl | hl
      · exact hall l hl
      · rw [List.mem_singleton.mp hl]
        exact ⟨c1, by simp only; omega, c2, by simp only; omega, kc⟩
  · rintro x os ⟨cs, ls, rfl, hi, hall, hR⟩
    rw [rng_len] at hi hR
    walk_at "e"
    refine ⟨_, rfl, p, ls, rfl, ⟨p0, hall, by omega⟩, p1, by omega, hR.mono (by omega)⟩
/-! ### lists or tuples all through -/
end Rl
end Lw

set_option maxHeartbeats 4000000
namespace Lw
open PySem Fu
local macro_rules | `(tactic| walk_at "e1") => `(tactic| first
  | with_reducible refine eo_seq ?_ | (with_reducible refine then_nx' ?_; refine ⟨?_, ?_, ?_⟩; rotate_left; · (try dsimp only [List.set, List.length_cons, List.length_nil, List.cons_append, List.nil_append, Nat.zero_add, Nat.reduceAdd]); exact rfl) | with_reducible refine then_rt ?_ | with_reducible refine eo_if ?_ | with_reducible refine eo_ret ?_ | with_reducible refine eo_set ?_ | with_reducible refine eo_asg ?_ | with_reducible refine eo_drop ?_ | with_reducible refine eo_nx ?_ | with_reducible refine eo_par ?_ | with_reducible refine eo_own ?_ | with_reducible refine eo_retN ?_ | with_reducible refine eo_for ?_ | with_reducible refine eo_retO ?_
  | with_reducible refine ev_c ?_ | (with_reducible refine ev_var ?_; refine ⟨_, rfl, ?_⟩) | with_reducible refine ev_bin ?_ | with_reducible refine ev_un ?_ | with_reducible refine ev_nil ?_ | with_reducible refine ev_cons ?_
  | with_reducible refine ev_tup ?_ | with_reducible refine ev_lst ?_ | with_reducible refine ev_call ?_ | with_reducible refine ev_callF ?_ | with_reducible refine ev_isi ?_ | with_reducible refine ev_isi2 ?_ | with_reducible refine ev_andV ?_ | with_reducible refine ev_orV ?_ | with_reducible refine ev_notV ?_
  | with_reducible refine ev_B ?_ | with_reducible refine ev_and ?_ | with_reducible refine ev_or ?_ | with_reducible refine ev_not ?_ | with_reducible refine ev_yes ?_ | with_reducible refine ev_if ?_ | with_reducible refine ev_no ?_ | with_reducible refine ev_so ?_ | with_reducible refine ev_sl ?_ | with_reducible refine ev_items ?_
  | (with_reducible refine ev_ixO ?_; refine ⟨_, _, rfl, rfl, ?_⟩) | (with_reducible refine ev_varO ?_; refine ⟨_, _, rfl, rfl, ?_⟩) | (with_reducible refine ev_lenO ?_; refine ⟨_, _, rfl, rfl, ?_⟩) | (with_reducible refine ev_scrSl ?_; refine ⟨_, rfl, ?_⟩) | (with_reducible refine ev_scrLen ?_; refine ⟨_, rfl, ?_⟩) | (with_reducible refine ev_callScr ?_; refine ⟨_, rfl, ?_⟩) | (with_reducible refine ev_OL ?_; refine ⟨_, _, rfl, rfl, ?_⟩) | with_reducible refine ev_OR ?_ | with_reducible refine ev_rep ?_ | with_reducible refine ev_listRng1 ?_ | with_reducible refine eo_setO ?_
  | with_reducible refine es_name ?_ | with_reducible refine es_tup2 ?_ | with_reducible refine es_tup3 ?_
  | with_reducible refine ed_addI ?_ | with_reducible refine ed_subI ?_ | with_reducible refine ed_cmp ?_ | with_reducible refine ed_eqI ?_ | with_reducible refine ed_neI ?_ | with_reducible refine ed_slT ?_ | with_reducible refine ed_slL ?_ | with_reducible refine ed_lenT ?_ | with_reducible refine ed_lenL ?_ | with_reducible refine ed_lenS ?_ | with_reducible refine ed_inS ?_ | with_reducible refine ed_itT ?_ | with_reducible refine ed_itL ?_ | with_reducible refine ed_tupL ?_ | with_reducible refine ed_tupT ?_ | with_reducible refine ed_listL ?_ | with_reducible refine ed_listT ?_ | with_reducible refine ed_neg ?_ | with_reducible refine ed_max ?_ | with_reducible refine ed_min ?_ | with_reducible refine ed_intB ?_
  | with_reducible refine ev_rng1 ?_ | with_reducible refine ev_rng2 ?_)
local macro_rules | `(tactic| walk_at "sd") => `(tactic| first | rfl | assumption | (simp only [decide_eq_true_eq, decide_eq_false_iff_not, Bool.not_eq_true', Bool.not_eq_false', Bool.and_eq_true, Bool.or_eq_true, List.length_map, List.length_cons, List.length_nil, List.length_append, List.length_range] at *; omega))
local macro_rules | `(tactic| walk_at "e2") => `(tactic| first
  | walk_at "e1" | with_reducible refine ⟨_, rfl, ?_⟩ | with_reducible refine ⟨_, _, rfl, ?_⟩
  | with_reducible refine And.intro (Eq.refl (List.length _)) ?_ | with_reducible refine And.intro (Nat.le_of_ble_eq_true (n := List.length _) rfl) ?_
  | with_reducible refine And.intro (Eq.refl (_ : Sx)) (?_ : Ed _ _)
  | ((with_reducible refine And.intro ?_ (And.intro ?_ (?_ : Ev _ _))); (· rfl); (· rfl))
  | ((with_reducible refine ed_ixT ?_ ?_ ?_); (· decide); (· rfl)) | ((with_reducible refine ed_ixL ?_ ?_ ?_); (· decide); (· rfl)) | ((with_reducible refine ed_at ?_ ?_ ?_); (· decide); (· rfl))
  | ((with_reducible refine ed_modI ?_ ?_); (· first | decide | omega))
  | with_reducible exact gives_nx | ((with_reducible refine gives_rt ?_); (· rfl)) | ((with_reducible refine And.intro ?_ ?_); (· exact rfl); (· with_reducible exact Eq.refl (_ : Sx))))
local macro_rules | `(tactic| walk_at "e") => `(tactic| repeat walk_at "e2")
/-- begin a def's spec -/
local macro_rules | `(tactic| walk_at "i") => `(tactic| simp only [initS, List.map_cons, List.map_nil, List.length_cons, List.length_nil, Nat.reduceAdd, Nat.reduceSub, List.replicate, List.cons_append, List.nil_append])
/-- a known truth decides -/
local macro_rules | `(tactic| walk_at "t") => `(tactic| first | ((with_reducible refine split_t ?_ ?_); (· walk_at "sd")) | ((with_reducible refine split_t' ?_ ?_); (· walk_at "sd")))
local macro_rules | `(tactic| walk_at "f") => `(tactic| first | ((with_reducible refine split_f ?_ ?_); (· walk_at "sd")) | ((with_reducible refine split_f' ?_ ?_); (· walk_at "sd")))
/-- all that is seen in a look -/
local macro_rules | `(tactic| walk_at "v") => `(tactic| (rw [sealAll_mk (by (simp only [List.set_cons_zero, List.set_cons_succ, List.map_cons, List.map_nil, sealS_none, sealS_dat, sealS_scr, sealS_own, List.getElem?_cons_zero, List.getElem?_cons_succ, sealC_lst]; rfl)) (by (simp only [List.set_cons_zero, List.set_cons_succ, List.map_cons, List.map_nil]; rfl))]))
theorem ed_ixLx {xs : List D} {i : Int} {Q : D → Prop} (h : ∃ d, 0 ≤ i ∧ xs[i.toNat]? = some d ∧ Q d) : Ed (dIx (.list xs) (.int i)) Q := by
  obtain ⟨d, h0, e, q⟩ := h
  exact ed_ixL h0 e q
theorem ed_ixTx {xs : List D} {i : Int} {Q : D → Prop} (h : ∃ d, 0 ≤ i ∧ xs[i.toNat]? = some d ∧ Q d) : Ed (dIx (.tuple xs) (.int i)) Q := by
  obtain ⟨d, h0, e, q⟩ := h
  exact ed_ixT h0 e q
theorem es_star {i j : Nat} {d : D} {ds : List D} {S : Sx} {W : Sx → Prop} (h : W ⟨(S.sl.set i (some (.dat d))).set j (some (.dat (.list ds))), S.os⟩) : Es (sStar1 (sCons (sName i) (sCons (sName j) sNil)) (.list (d :: ds)) S) W := ⟨_, rfl, h⟩
theorem ed_dneSelf {x : Str} {Q : D → Prop} (q : Q (.bool false)) : Ed (dNe (.str x) (.str x)) Q := ⟨_, dNe_str_self x, q⟩
theorem ed_deqSelf {x : Str} {Q : D → Prop} (q : Q (.bool true)) : Ed (dEq (.str x) (.str x)) Q := ⟨_, dEq_str_self x, q⟩
section
variable {P R : Prop}
theorem an_tt (h : P) : (true = true → P) ∧ (true = false → R) := ⟨fun _ => h, fun z => (nomatch z)⟩
theorem an_ft (h : P) : (false = true → R) ∧ (false = false → P) := ⟨fun z => (nomatch z), fun _ => h⟩
theorem an_tf (h : P) : (true = false → R) ∧ (true = true → P) := ⟨fun z => (nomatch z), fun _ => h⟩
theorem an_ff (h : P) : (false = false → P) ∧ (false = true → R) := ⟨fun _ => h, fun z => (nomatch z)⟩
theorem an_ntt (h : P) : ((!true) = true → R) ∧ ((!true) = false → P) := ⟨fun z => absurd z (by decide), fun _ => h⟩
theorem an_nft (h : P) : ((!false) = true → P) ∧ ((!false) = false → R) := ⟨fun _ => h, fun z => absurd z (by decide)⟩
theorem an_ntf (h : P) : ((!true) = false → P) ∧ ((!true) = true → R) := ⟨fun _ => h, fun z => absurd z (by decide)⟩
theorem an_nff (h : P) : ((!false) = false → R) ∧ ((!false) = true → P) := ⟨fun z => absurd z (by decide), fun _ => h⟩
end
end Lw

set_option maxHeartbeats 4000000
namespace Lw
open PySem Fu
local macro_rules | `(tactic| walk_at "e1") => `(tactic| first
  | with_reducible refine eo_seq ?_ | (with_reducible refine then_nx' ?_; refine ⟨?_, ?_, ?_⟩; rotate_left; · (try dsimp only [List.set, List.length_cons, List.length_nil, List.cons_append, List.nil_append, Nat.zero_add, Nat.reduceAdd]); exact rfl) | with_reducible refine then_rt ?_ | with_reducible refine eo_if ?_ | with_reducible refine eo_ret ?_ | with_reducible refine eo_set ?_ | with_reducible refine eo_asg ?_ | with_reducible refine eo_drop ?_ | with_reducible refine eo_nx ?_ | with_reducible refine eo_par ?_ | with_reducible refine eo_own ?_ | with_reducible refine eo_retN ?_ | with_reducible refine eo_for ?_ | with_reducible refine eo_retO ?_
  | with_reducible refine ev_c ?_ | (with_reducible refine ev_var ?_; refine ⟨_, rfl, ?_⟩) | with_reducible refine ev_bin ?_ | with_reducible refine ev_un ?_ | with_reducible refine ev_nil ?_ | with_reducible refine ev_cons ?_
  | with_reducible refine ev_tup ?_ | with_reducible refine ev_lst ?_ | with_reducible refine ev_call ?_ | with_reducible refine ev_callF ?_ | with_reducible refine ev_isi ?_ | with_reducible refine ev_isi2 ?_ | with_reducible refine ev_andV ?_ | with_reducible refine ev_orV ?_ | with_reducible refine ev_notV ?_
  | with_reducible refine ev_B ?_ | with_reducible refine ev_and ?_ | with_reducible refine ev_or ?_ | with_reducible refine ev_not ?_ | with_reducible refine ev_yes ?_ | with_reducible refine ev_if ?_ | with_reducible refine ev_no ?_ | with_reducible refine ev_so ?_ | with_reducible refine ev_sl ?_ | with_reducible refine ev_items ?_
  | (with_reducible refine ev_ixO ?_; refine ⟨_, _, rfl, rfl, ?_⟩) | (with_reducible refine ev_varO ?_; refine ⟨_, _, rfl, rfl, ?_⟩) | (with_reducible refine ev_lenO ?_; refine ⟨_, _, rfl, rfl, ?_⟩) | (with_reducible refine ev_scrSl ?_; refine ⟨_, rfl, ?_⟩) | (with_reducible refine ev_scrLen ?_; refine ⟨_, rfl, ?_⟩) | (with_reducible refine ev_callScr ?_; refine ⟨_, rfl, ?_⟩) | (with_reducible refine ev_OL ?_; refine ⟨_, _, rfl, rfl, ?_⟩) | with_reducible refine ev_OR ?_ | with_reducible refine ev_rep ?_ | with_reducible refine ev_listRng1 ?_ | with_reducible refine eo_setO ?_
  | with_reducible refine es_name ?_ | with_reducible refine es_tup2 ?_ | with_reducible refine es_tup3 ?_
  | with_reducible refine ed_addI ?_ | with_reducible refine ed_subI ?_ | with_reducible refine ed_cmp ?_ | with_reducible refine ed_eqI ?_ | with_reducible refine ed_neI ?_ | with_reducible refine ed_slT ?_ | with_reducible refine ed_slL ?_ | with_reducible refine ed_lenT ?_ | with_reducible refine ed_lenL ?_ | with_reducible refine ed_lenS ?_ | with_reducible refine ed_inS ?_ | with_reducible refine ed_itT ?_ | with_reducible refine ed_itL ?_ | with_reducible refine ed_tupL ?_ | with_reducible refine ed_tupT ?_ | with_reducible refine ed_listL ?_ | with_reducible refine ed_listT ?_ | with_reducible refine ed_neg ?_ | with_reducible refine ed_max ?_ | with_reducible refine ed_min ?_ | with_reducible refine ed_intB ?_
  | with_reducible refine ev_rng1 ?_ | with_reducible refine ev_rng2 ?_)
local macro_rules | `(tactic| walk_at "sd") => `(tactic| first | rfl | assumption | (simp only [decide_eq_true_eq, decide_eq_false_iff_not, Bool.not_eq_true', Bool.not_eq_false', Bool.and_eq_true, Bool.or_eq_true, List.length_map, List.length_cons, List.length_nil, List.length_append, List.length_range] at *; omega))
local macro_rules | `(tactic| walk_at "e2") => `(tactic| first
  | walk_at "e1" | with_reducible refine ⟨_, rfl, ?_⟩ | with_reducible refine ⟨_, _, rfl, ?_⟩
  | with_reducible refine And.intro (Eq.refl (List.length _)) ?_ | with_reducible refine And.intro (Nat.le_of_ble_eq_true (n := List.length _) rfl) ?_
  | with_reducible refine And.intro (Eq.refl (_ : Sx)) (?_ : Ed _ _)
  | ((with_reducible refine And.intro ?_ (And.intro ?_ (?_ : Ev _ _))); (· rfl); (· rfl))
  | ((with_reducible refine ed_ixTx ?_); refine ⟨_, by decide, rfl, ?_⟩) | ((with_reducible refine ed_ixLx ?_); refine ⟨_, by decide, rfl, ?_⟩) | ((with_reducible refine es_star ?_))
  | with_reducible refine an_tt ?_ | with_reducible refine an_ft ?_ | with_reducible refine an_tf ?_ | with_reducible refine an_ff ?_ | with_reducible refine an_ntt ?_ | with_reducible refine an_nft ?_ | with_reducible refine an_ntf ?_ | with_reducible refine an_nff ?_
  | ((with_reducible refine ed_dneSelf ?_)) | ((with_reducible refine ed_deqSelf ?_))
  | ((with_reducible refine ed_ixT ?_ ?_ ?_); (· decide); (· rfl)) | ((with_reducible refine ed_ixL ?_ ?_ ?_); (· decide); (· rfl)) | ((with_reducible refine ed_at ?_ ?_ ?_); (· decide); (· rfl))
  | ((with_reducible refine ed_modI ?_ ?_); (· first | decide | omega))
  | with_reducible exact gives_nx | ((with_reducible refine gives_rt ?_); (· rfl)) | ((with_reducible refine And.intro ?_ ?_); (· exact rfl); (· with_reducible exact Eq.refl (_ : Sx))))
local macro_rules | `(tactic| walk_at "e") => `(tactic| repeat walk_at "e2")
/-- begin a def's spec -/
local macro_rules | `(tactic| walk_at "i") => `(tactic| simp only [initS, List.map_cons, List.map_nil, List.length_cons, List.length_nil, Nat.reduceAdd, Nat.reduceSub, List.replicate, List.cons_append, List.nil_append])
/-- a known truth decides -/
local macro_rules | `(tactic| walk_at "t") => `(tactic| first | ((with_reducible refine split_t ?_ ?_); (· walk_at "sd")) | ((with_reducible refine split_t' ?_ ?_); (· walk_at "sd")))
local macro_rules | `(tactic| walk_at "f") => `(tactic| first | ((with_reducible refine split_f ?_ ?_); (· walk_at "sd")) | ((with_reducible refine split_f' ?_ ?_); (· walk_at "sd")))
/-- all that is seen in a look -/
local macro_rules | `(tactic| walk_at "v") => `(tactic| (rw [sealAll_mk (by (simp only [List.set_cons_zero, List.set_cons_succ, List.map_cons, List.map_nil, sealS_none, sealS_dat, sealS_scr, sealS_own, List.getElem?_cons_zero, List.getElem?_cons_succ, sealC_lst]; rfl)) (by (simp only [List.set_cons_zero, List.set_cons_succ, List.map_cons, List.map_nil]; rfl))]))
/-! ### texts -/
open TL
def str1 (c : Nat) : Str := ⟨#[c]⟩
theorem numS_nat (n : Nat) : numS (n : Int) = Str.ofString (toString ((n : Nat) : Int)) := rfl
theorem tl_numS (n : Nat) : tl (numS (n : Int)) = numL n := tl_num n
theorem numS_len {n k : Nat} (hk : 0 < k) (h : n < 10 ^ k) : (numS (n : Int)).length ≤ k := by rw [len_tl, tl_numS]; exact numL_len hk h
theorem tl_one (c : Nat) : tl (str1 c) = [c] := rfl
theorem str_len_app (x y : Str) : (x ++ y).length = x.length + y.length := by rw [len_tl, tl_append, List.length_append, ← len_tl, ← len_tl]
theorem joinL_len (S : List Nat) : ∀ ps : List (List Nat), (joinL S ps).length ≤ (ps.map List.length).sum + ps.length * S.length
  | [] => by simp [joinL]
  | [p] => by simp [joinL]
  | p :: q :: r => by
    have := joinL_len S (q :: r)
    simp only [joinL, List.length_append, List.map_cons, List.sum_cons, List.length_cons] at this ⊢
    have e : (r.length + 1 + 1) * S.length = (r.length + 1) * S.length + S.length := by rw [Nat.add_mul, Nat.one_mul]
    omega
theorem join_len (a : Str) (ys : List Str) : (Txt.join a ys).length ≤ (ys.map (·.length)).sum + ys.length * a.length := by
  have := joinL_len (tl a) (ys.map tl)
  rw [join_eq, len_tl, tl_join]
  rw [List.map_map, List.length_map] at this
  have e : (List.length ∘ tl) = fun y : Str => y.length := funext fun y => (len_tl y).symm
  rw [e, ← len_tl] at this
  exact this
theorem sum_le {ys : List Str} {k : Nat} (h : ∀ y ∈ ys, y.length ≤ k) : (ys.map (·.length)).sum ≤ ys.length * k := by
  induction ys with
  | nil => simp
  | cons y ys ih =>
    have h1 := h y (List.mem_cons_self ..)
    have h2 := ih fun z hz => h z (List.mem_cons_of_mem _ hz)
    simp only [List.map_cons, List.sum_cons, List.length_cons]
    rw [Nat.add_mul, Nat.one_mul]
    omega
theorem ed_join {a : Str} {ys : List Str} {k : Nat} {Q : D → Prop} (h : ∀ y ∈ ys, y.length ≤ k) (hz : ys.length * k + ys.length * a.length ≤ 16777216) (q : Q (.str (Txt.join a ys))) : Ed (dJoin (.str a) (.list (ys.map PyData.str))) Q := by
  have h1 := sum_le h
  have h2 := join_len a ys
  refine ⟨_, ?_, q⟩
  simp only [dJoin, allStrs_of, Option.bind_some]
  rw [if_pos ⟨by omega, by show _ ≤ 16777216; omega⟩]
theorem ed_strI {n : Nat} {Q : D → Prop} (h : n < 10 ^ 40) (q : Q (.str (numS (n : Int)))) : Ed (dStrI [.int (n : Int)]) Q := by
  refine ⟨_, ?_, q⟩
  have h1 := numS_len (k := 40) (by decide) h
  have h2 : ((n : Int)).natAbs.log2 < 1920 := by
    show n.log2 < 1920
    exact PySem.Spec.log2_small (Nat.lt_of_lt_of_le h (by decide +kernel))
  simp only [dStrI]
  rw [if_pos ⟨h2, Nat.le_trans h1 (by decide)⟩]
theorem ed_addS {x y : Str} {Q : D → Prop} (h : x.length + y.length ≤ 16777216) (q : Q (.str (x ++ y))) : Ed (dAdd (.str x) (.str y)) Q := ⟨_, by simp only [dAdd]; rw [if_pos (show x.length + y.length ≤ sizeLine from h)], q⟩
theorem ed_intT {n : Nat} {Q : D → Prop} (h : n < 10 ^ 600) (q : Q (.int (n : Int))) : Ed (dIntT [.str (numS (n : Int))]) Q := by
  refine ⟨_, ?_, q⟩
  have h1 := numS_len (k := 600) (by decide) h
  have h2 : (numL n).length ≤ 600 := numL_len (by decide) h
  simp only [dIntT]
  rw [if_pos (by omega), numS_nat, int_num (by omega)]
  rfl
theorem ed_split {y : Str} {s : Nat} {S : List Nat} {parts : List Str} {k : Nat} {Q : D → Prop} (ey : tl y = s :: S) (hk : y.cps.all (· < 256) = true) (hne : parts ≠ []) (hp : ∀ p ∈ parts, s ∉ tl p) (hl : ∀ p ∈ parts, p.length ≤ k) (hz : parts.length * k + parts.length * y.length ≤ 16000000) (hkz : k ≤ 16000000) (hn : parts.length ≤ 16000000) (q : Q (.list (parts.map PyData.str))) :
    Ed (dSplit (.str (Txt.join y parts)) (.str y)) Q := by
  have e := split_join ey hk hne hp
  refine ⟨_, ?_, q⟩
  simp only [dSplit, e]
  have h1 := sum_le hl
  have h2 := join_len y parts
  have h3 : y.length = (s :: S).length := by rw [len_tl, ey]
  rw [if_pos ⟨⟨by rw [h3]; rfl, by show _ ≤ 16777216; omega⟩, fun p hp => Nat.le_trans (hl p hp) (Nat.le_trans hkz (by decide)), Nat.le_trans hn (by decide)⟩]
theorem ed_part {a y b : Str} {s : Nat} {S : List Nat} {Q : D → Prop} (ey : tl y = s :: S) (h : s ∉ tl a) (hz : a.length + y.length + b.length ≤ 16000000) (q : Q (.tuple [.str a, .str y, .str b])) : Ed (dPart (.str (a ++ y ++ b)) (.str y)) Q := by
  have e := partition_app ey (b := b) h
  refine ⟨_, ?_, q⟩
  simp only [dPart, e]
  have h3 : y.length = (s :: S).length := by rw [len_tl, ey]
  have h4 : (a ++ y ++ b).length = a.length + y.length + b.length := by rw [str_len_app, str_len_app]
  rw [if_pos ⟨⟨by rw [h3]; rfl, by show _ ≤ 16777216; omega⟩, by show _ ≤ 16777216; omega, by show _ ≤ 16777216; omega, by show _ ≤ 16777216; omega⟩]
/-- a number's first sign -/
theorem numL_head {n : Nat} (h : 0 < n) : ∃ c cs, numL n = c :: cs ∧ c ≠ 48 := by
  induction n using Nat.strongRecOn with
  | _ n ih =>
    by_cases hn : n < 10
    · exact ⟨_, _, numL_lt hn, by omega⟩
    · obtain ⟨c, cs, e, hc⟩ := ih (n / 10) (by omega) (by omega)
      exact ⟨c, cs ++ [48 + n % 10], by rw [numL_step (by omega), e]; rfl, hc⟩
theorem figs : (Str.ofString "0123456789").cps.toList = [48, 49, 50, 51, 52, 53, 54, 55, 56, 57] := by decide +kernel
theorem fig_in {c : Nat} (h : 48 ≤ c ∧ c ≤ 57) : c ∈ (Str.ofString "0123456789").cps.toList := by
  rw [figs]
  obtain ⟨h1, h2⟩ := h
  simp only [List.mem_cons, List.not_mem_nil, or_false]
  omega
theorem ed_itS {x : Str} {Q : List D → Prop} (q : Q (chars x)) : Ed (itemsOf (.str x)) Q := ⟨_, rfl, q⟩
theorem ed_allT {α : Type} {xs : List α} {Q : D → Prop} (q : Q (.bool true)) : Ed (dAll [.list (xs.map fun _ => PyData.bool true)]) Q := by
  refine ⟨_, ?_, q⟩
  have e : (xs.map fun _ => PyData.bool true) = (xs.map fun _ => true).map PyData.bool := by rw [List.map_map]; rfl
  simp only [dAll, e, allBools_of, Option.bind_some]
  congr 2
  simp
theorem x_is_number_word (n : Nat) (hz : n < 10 ^ 600) : m_is_number_word [.str (numS (n : Int))] = some (.bool true) := by
  unfold m_is_number_word; refine mF_of ?_; walk_at "i"; unfold g_is_number_word
  walk_at "e"
  by_cases h0 : n = 0
  · subst h0
    refine Ed.of (dEq_str _ _) ?_
    rw [decide_eq_true (by decide +kernel)]
    walk_at "e"
  · obtain ⟨c, cs, e, hc⟩ := numL_head (n := n) (by omega)
    have hd := numL_digits n
    have et : (numS (n : Int)).cps.toList = c :: cs := (tl_numS n).trans e
    have e0 : (Str.ofString "0").cps.toList = [48] := by decide +kernel
    refine Ed.of (dEq_str _ _) ?_
    rw [decide_eq_false (fun z => by rw [z, e0] at et; exact hc (List.cons.inj et).1.symm)]
    walk_at "e"
    refine Ed.of (dNe_str _ _) ?_
    rw [decide_eq_false (fun z => by rw [z] at et; exact absurd et (by rw [show (Str.ofString "").cps.toList = [] by decide +kernel]; simp))]
    walk_at "e"
    refine ed_ixS (c := c) (by decide) (by rw [et]; rfl) ?_
    walk_at "e"
    refine Ed.of (dNe_str _ _) ?_
    rw [decide_eq_false (fun z => by
      have z2 : [c] = [48] := (congrArg (fun x : Str => x.cps.toList) z).trans e0
      exact hc (List.cons.inj z2).1)]
    walk_at "e"
    refine ev_mapX (xs := numL n) (enc := ch) (g := fun _ => .bool true) ?_
    walk_at "e"
    refine ed_itS ⟨?_, fun x hx => ?_, ?_⟩
    · unfold chars
      rw [show (numS (n : Int)).cps.toList = numL n from tl_numS n]
      rfl
    · walk_at "e"
      unfold ch
      walk_at "e"
      rw [decide_eq_true (fig_in (hd x hx))]
      exact ⟨rfl, rfl⟩
    walk_at "e"
    refine ed_allT ⟨_, rfl, _, rfl, _, rfl, rfl⟩
def lineT (l : Ln) : Str := Str.ofString "line " ++ numS l.1 ++ Str.ofString " " ++ numS l.2.1 ++ Str.ofString " " ++ str1 l.2.2
def headT (p : Int) : Str := Str.ofString "places " ++ numS p
def webT (p : Int) (ls : List Ln) : Str := Txt.join (Str.ofString "\n") (headT p :: ls.map lineT)
theorem sp_len : (Str.ofString " ").length = 1 := by decide +kernel
theorem line_parts {a b c : Nat} : lineT ((a : Int), (b : Int), c) = Txt.join (Str.ofString " ") [Str.ofString "line", numS (a : Int), numS (b : Int), str1 c] := by
  apply ext_tl
  rw [join_eq, tl_join]
  unfold lineT
  simp only [tl_append, List.map_cons, List.map_nil, joinL, tl_numS, tl_one]
  have e1 : tl (Str.ofString "line ") = tl (Str.ofString "line") ++ tl (Str.ofString " ") := by decide +kernel
  rw [e1]
  simp only [List.append_assoc]
theorem lineT_len {p : Int} {l : Ln} (h : LnOk p l) (hp : p ≤ 1000000) : (lineT l).length ≤ 24 := by
  have h0 := h.a0; have h1 := h.a1; have h2 := h.b0; have h3 := h.b1
  obtain ⟨a, ha⟩ : ∃ a : Nat, l.1 = (a : Int) := ⟨l.1.toNat, by omega⟩
  obtain ⟨b, hb⟩ : ∃ a : Nat, l.2.1 = (a : Int) := ⟨l.2.1.toNat, by omega⟩
  have n1 := numS_len (n := a) (k := 7) (by decide) (by omega)
  have n2 := numS_len (n := b) (k := 7) (by decide) (by omega)
  unfold lineT
  simp only [str_len_app, ha, hb, sp_len]
  have e1 : (Str.ofString "line ").length = 5 := by decide +kernel
  have e2 : (str1 l.2.2).length = 1 := rfl
  omega
theorem headT_len {p : Int} (p0 : 0 ≤ p) (hp : p ≤ 1000000) : (headT p).length ≤ 24 := by
  obtain ⟨a, rfl⟩ : ∃ a : Nat, p = (a : Int) := ⟨p.toNat, by omega⟩
  have n1 := numS_len (n := a) (k := 7) (by decide) (by omega)
  unfold headT
  rw [str_len_app]
  have e1 : (Str.ofString "places ").length = 7 := by decide +kernel
  omega
theorem x_line_read {p : Int} {l : Ln} (h : LnOk p l) (hp : p ≤ 1000000) : m_line_read [.str (lineT l)] = some (ln l) := by
  have h0 := h.a0; have h1 := h.a1; have h2 := h.b0; have h3 := h.b1; have hc := h.c
  obtain ⟨a', b', c⟩ := l
  obtain ⟨a, rfl⟩ : ∃ a : Nat, a' = (a : Int) := ⟨a'.toNat, by simp only at h0; omega⟩
  obtain ⟨b, rfl⟩ : ∃ a : Nat, b' = (a : Int) := ⟨b'.toNat, by simp only at h2; omega⟩
  simp only at h0 h1 h2 h3 hc
  have n1 := numS_len (n := a) (k := 7) (by decide) (by omega)
  have n2 := numS_len (n := b) (k := 7) (by decide) (by omega)
  rw [line_parts]
  unfold m_line_read; refine mF_of ?_; walk_at "i"; unfold g_line_read
  walk_at "e"
  refine ed_split (s := 32) (S := []) (k := 24) (by decide +kernel) (by decide +kernel) (by simp) (fun q hq => ?_) (fun q hq => ?_) (by simp only [List.length_cons, List.length_nil, sp_len]; omega) (by decide) (by simp) ?_
  · simp only [List.mem_cons, List.not_mem_nil, or_false] at hq
    rcases hq with rfl | rfl | rfl | rfl
    · decide +kernel
    · rw [tl_numS]; exact numL_free (.inl (by decide))
    · rw [tl_numS]; exact numL_free (.inl (by decide))
    · rw [tl_one]; have := hc.1; simp; omega
  · simp only [List.mem_cons, List.not_mem_nil, or_false] at hq
    rcases hq with rfl | rfl | rfl | rfl
    · decide +kernel
    · omega
    · omega
    · show 1 ≤ 24; decide
  simp only [List.map_cons, List.map_nil]
  walk_at "e"
  walk_at "f"
  walk_at "e"
  refine Ed.of (x_is_company _) ?_
  rw [show companyD (.str (str1 c)) = true from companyD_ch hc]
  walk_at "e"
  refine Ed.of (x_is_number_word a (by omega)) ?_
  walk_at "e"
  refine Ed.of (x_is_number_word b (by omega)) ?_
  walk_at "e"
  refine ed_intT (by omega) ?_
  walk_at "e"
  refine ed_intT (by omega) ?_
  walk_at "e"
theorem lineT_free {p : Int} {l : Ln} (h : LnOk p l) : 10 ∉ tl (lineT l) := by
  have h0 := h.a0; have h2 := h.b0; have hc := h.c
  obtain ⟨a', b', c⟩ := l
  obtain ⟨a, rfl⟩ : ∃ a : Nat, a' = (a : Int) := ⟨a'.toNat, by simp only at h0; omega⟩
  obtain ⟨b, rfl⟩ : ∃ a : Nat, b' = (a : Int) := ⟨b'.toNat, by simp only at h2; omega⟩
  unfold lineT
  simp only [tl_append, tl_numS, tl_one, List.mem_append, not_or]
  have e1 : 10 ∉ tl (Str.ofString "line ") := by decide +kernel
  have e2 : 10 ∉ tl (Str.ofString " ") := by decide +kernel
  refine ⟨⟨⟨⟨⟨e1, numL_free (.inl (by decide))⟩, e2⟩, numL_free (.inl (by decide))⟩, e2⟩, ?_⟩
  have := hc.1
  simp only at this
  simp only [List.mem_singleton]
  omega
theorem headT_free {p : Int} (p0 : 0 ≤ p) : 10 ∉ tl (headT p) := by
  obtain ⟨a, rfl⟩ : ∃ a : Nat, p = (a : Int) := ⟨p.toNat, by omega⟩
  unfold headT
  rw [tl_append, tl_numS, List.mem_append, not_or]
  exact ⟨by decide +kernel, numL_free (.inl (by decide))⟩
theorem nl_len : (Str.ofString "\n").length = 1 := by decide +kernel
theorem rows_ok {p : Int} {ls : List Ln} (h : WbOk p ls) (hp : p ≤ 1000000) : (∀ q ∈ headT p :: ls.map lineT, 10 ∉ tl q) ∧ ∀ q ∈ headT p :: ls.map lineT, q.length ≤ 24 := by
  constructor <;> intro q hq <;> rcases List.mem_cons.mp hq with rfl | hq
  · exact headT_free h.p0
  · obtain ⟨l, hl, rfl⟩ := List.mem_map.mp hq
    exact lineT_free (h.all l hl)
  · exact headT_len h.p0 hp
  · obtain ⟨l, hl, rfl⟩ := List.mem_map.mp hq
    exact lineT_len (h.all l hl) hp
theorem ed_inNone {ls : List Ln} {p : Int} {Q : D → Prop} (h : ∀ l ∈ ls, LnOk p l) (q : Q (.bool false)) : Ed (dIn .none (.list (ls.map ln))) Q := by
  refine ⟨_, ?_, q⟩
  have g : Good 2 (.list (ls.map ln)) := good_list fun d hd => by
    obtain ⟨l, hl, rfl⟩ := List.mem_map.mp hd
    exact good_ln (h l hl)
  simp only [dIn]
  rw [if_pos ⟨good_none.shaped, g.shaped⟩]
  congr 2
  rw [List.any_eq_false]
  intro d hd
  obtain ⟨l, hl, rfl⟩ := List.mem_map.mp hd
  simp [ln, PyData.eqv]
theorem x_read_web {p : Int} {ls : List Ln} (h : WbOk p ls) (hp : p ≤ 1000000) (hl : ls.length ≤ 100000) : m_read_web [.str (webT p ls)] = some (wb p ls) := by
  have p0 := h.p0
  obtain ⟨n, rfl⟩ : ∃ a : Nat, p = (a : Int) := ⟨p.toNat, by omega⟩
  obtain ⟨r1, r2⟩ := rows_ok h hp
  have n1 := numS_len (n := n) (k := 7) (by decide) (by omega)
  unfold m_read_web; refine mF_of ?_; walk_at "i"; unfold g_read_web
  unfold webT
  walk_at "e"
  walk_at "t"
  walk_at "e"
  refine ed_split (s := 10) (S := []) (k := 24) (by decide +kernel) (by decide +kernel) (by simp) r1 r2 (by simp only [List.length_cons, List.length_map, nl_len]; omega) (by decide) (by simp; omega) ?_
  rw [List.map_cons]
  walk_at "e"
  have eh : headT (n : Int) = Str.ofString "places" ++ Str.ofString " " ++ numS (n : Int) := by
    apply ext_tl
    unfold headT
    simp only [tl_append]
    rw [show tl (Str.ofString "places ") = tl (Str.ofString "places") ++ tl (Str.ofString " ") by decide +kernel]
  rw [eh]
  refine ed_part (s := 32) (S := []) (by decide +kernel) (by decide +kernel) (by rw [sp_len, show (Str.ofString "places").length = 6 by decide +kernel]; omega) ?_
  walk_at "e"
  refine Ed.of (x_is_number_word n (by omega)) ?_
  walk_at "e"
  refine ev_mapX (xs := ls) (enc := fun l => .str (lineT l)) (g := ln) ?_
  walk_at "e"
  refine ⟨by rw [List.map_map]; rfl, fun l hl => ?_, ?_⟩
  · walk_at "e"
    exact Ed.of (x_line_read (h.all l hl) hp) ⟨rfl, rfl⟩
  walk_at "e"
  refine ed_inNone h.all ?_
  walk_at "e"
  refine ed_intT (by omega) ?_
  walk_at "e"
  exact Ed.of (x_web_of (lns_of (sq_l _)) h) rfl
/-- the text's rows -/
theorem ev_row {p : Int} {l : Ln} (h : LnOk p l) (hp : p ≤ 1000000) {i j k : Nat} {S : Sx} {Q : D → Sx → Prop} (h1 : S.sl[i]? = some (some (.dat (.int l.1)))) (h2 : S.sl[j]? = some (some (.dat (.int l.2.1)))) (h3 : S.sl[k]? = some (some (.dat (ch l.2.2)))) (q : Q (.str (lineT l)) S) :
    Ev (gBin dAdd (gBin dAdd (gBin dAdd (gBin dAdd (gBin dAdd (gC (.str "line ")) (gCall dStrI (gCons (gVar i) gNil))) (gC (.str " "))) (gCall dStrI (gCons (gVar j) gNil))) (gC (.str " "))) (gVar k) S) Q := by
  have h0' := h.a0; have h1' := h.a1; have h2' := h.b0; have h3' := h.b1
  obtain ⟨a', b', c⟩ := l
  obtain ⟨a, rfl⟩ : ∃ a : Nat, a' = (a : Int) := ⟨a'.toNat, by simp only at h0'; omega⟩
  obtain ⟨b, rfl⟩ : ∃ a : Nat, b' = (a : Int) := ⟨b'.toNat, by simp only at h2'; omega⟩
  simp only at h0' h1' h2' h3' h1 h2 h3
  have n1 := numS_len (n := a) (k := 7) (by decide) (by omega)
  have n2 := numS_len (n := b) (k := 7) (by decide) (by omega)
  have e1 : (Str.ofString "line ").length = 5 := by decide +kernel
  have e2 := sp_len
  refine ev_bin (ev_bin (ev_bin (ev_bin (ev_bin (ev_c (ev_call (ev_cons (ev_var ⟨_, h1, ev_nil ?_⟩))))))))
  refine ed_strI (by omega) ?_
  refine ed_addS (by omega) (ev_c ?_)
  refine ed_addS (by simp only [str_len_app]; omega) (ev_call (ev_cons (ev_var ⟨_, h2, ev_nil ?_⟩)))
  refine ed_strI (by omega) ?_
  refine ed_addS (by simp only [str_len_app]; omega) (ev_c ?_)
  refine ed_addS (by simp only [str_len_app]; omega) (ev_var ⟨_, h3, ?_⟩)
  refine ed_addS (by simp only [str_len_app]; show _ + 1 ≤ _; omega) ?_
  exact q
theorem ed_joinW {p : Int} {ls : List Ln} {Q : D → Prop} (h : WbOk p ls) (hp : p ≤ 1000000) (hl : ls.length ≤ 100000) (q : Q (.str (webT p ls))) :
    Ed (dJoin (.str (Str.ofString "\n")) (.list ([PyData.str (headT p)] ++ ls.map fun l => PyData.str (lineT l)))) Q := by
  obtain ⟨r1, r2⟩ := rows_ok h hp
  have e : [PyData.str (headT p)] ++ ls.map (fun l => PyData.str (lineT l)) = (headT p :: ls.map lineT).map PyData.str := by
    rw [List.map_cons, List.map_map]; rfl
  rw [e]
  exact ed_join (k := 24) r2 (by simp only [List.length_cons, List.length_map, nl_len]; omega) q
theorem x_web_text {w : D} {p : Int} {ls : List Ln} (hw : Web w p ls) (h : WbOk p ls) (hp : p ≤ 1000000) (hl : ls.length ≤ 100000) : m_web_text [w] = some (.str (webT p ls)) := by
  have p0 := h.p0
  obtain ⟨n, rfl⟩ : ∃ a : Nat, p = (a : Int) := ⟨p.toNat, by omega⟩
  have n1 := numS_len (n := n) (k := 7) (by decide) (by omega)
  unfold m_web_text; refine mF_of ?_; walk_at "i"; unfold g_web_text
  walk_at "e"
  refine Ed.of (x_kept hw h) ?_
  unfold wb
  walk_at "e"
  refine ev_mapX (xs := ls) (enc := ln) (g := fun l => .str (lineT l)) ?_
  walk_at "e"
  refine ⟨rfl, fun l hl => ?_, ?_⟩
  · refine es_tup3 ⟨rfl, rfl, ?_⟩
    exact ev_row (h.all l hl) hp rfl rfl rfl ⟨rfl, rfl⟩
  walk_at "e"
  refine ed_strI (by omega) ?_
  refine ed_addS (by rw [show (Str.ofString "places ").length = 7 by decide +kernel]; omega) ?_
  walk_at "e"
  refine ed_addL (by simp; omega) ?_
  exact ed_joinW h hp hl rfl
end Lw

set_option maxHeartbeats 4000000
namespace Lw
open PySem Fu
local macro_rules | `(tactic| walk_at "e1") => `(tactic| first
  | with_reducible refine eo_seq ?_ | (with_reducible refine then_nx' ?_; refine ⟨?_, ?_, ?_⟩; rotate_left; · (try dsimp only [List.set, List.length_cons, List.length_nil, List.cons_append, List.nil_append, Nat.zero_add, Nat.reduceAdd]); exact rfl) | with_reducible refine then_rt ?_ | with_reducible refine eo_if ?_ | with_reducible refine eo_ret ?_ | with_reducible refine eo_set ?_ | with_reducible refine eo_asg ?_ | with_reducible refine eo_drop ?_ | with_reducible refine eo_nx ?_ | with_reducible refine eo_par ?_ | with_reducible refine eo_own ?_ | with_reducible refine eo_retN ?_ | with_reducible refine eo_for ?_ | with_reducible refine eo_retO ?_
  | with_reducible refine ev_c ?_ | (with_reducible refine ev_var ?_; refine ⟨_, rfl, ?_⟩) | with_reducible refine ev_bin ?_ | with_reducible refine ev_un ?_ | with_reducible refine ev_nil ?_ | with_reducible refine ev_cons ?_
  | with_reducible refine ev_tup ?_ | with_reducible refine ev_lst ?_ | with_reducible refine ev_call ?_ | with_reducible refine ev_callF ?_ | with_reducible refine ev_isi ?_ | with_reducible refine ev_isi2 ?_ | with_reducible refine ev_andV ?_ | with_reducible refine ev_orV ?_ | with_reducible refine ev_notV ?_
  | with_reducible refine ev_B ?_ | with_reducible refine ev_and ?_ | with_reducible refine ev_or ?_ | with_reducible refine ev_not ?_ | with_reducible refine ev_yes ?_ | with_reducible refine ev_if ?_ | with_reducible refine ev_no ?_ | with_reducible refine ev_so ?_ | with_reducible refine ev_sl ?_ | with_reducible refine ev_items ?_
  | (with_reducible refine ev_ixO ?_; refine ⟨_, _, rfl, rfl, ?_⟩) | (with_reducible refine ev_varO ?_; refine ⟨_, _, rfl, rfl, ?_⟩) | (with_reducible refine ev_lenO ?_; refine ⟨_, _, rfl, rfl, ?_⟩) | (with_reducible refine ev_scrSl ?_; refine ⟨_, rfl, ?_⟩) | (with_reducible refine ev_scrLen ?_; refine ⟨_, rfl, ?_⟩) | (with_reducible refine ev_callScr ?_; refine ⟨_, rfl, ?_⟩) | (with_reducible refine ev_OL ?_; refine ⟨_, _, rfl, rfl, ?_⟩) | with_reducible refine ev_OR ?_ | with_reducible refine ev_rep ?_ | with_reducible refine ev_listRng1 ?_ | with_reducible refine eo_setO ?_
  | with_reducible refine es_name ?_ | with_reducible refine es_tup2 ?_ | with_reducible refine es_tup3 ?_
  | with_reducible refine ed_addI ?_ | with_reducible refine ed_subI ?_ | with_reducible refine ed_cmp ?_ | with_reducible refine ed_eqI ?_ | with_reducible refine ed_neI ?_ | with_reducible refine ed_slT ?_ | with_reducible refine ed_slL ?_ | with_reducible refine ed_lenT ?_ | with_reducible refine ed_lenL ?_ | with_reducible refine ed_lenS ?_ | with_reducible refine ed_inS ?_ | with_reducible refine ed_itT ?_ | with_reducible refine ed_itL ?_ | with_reducible refine ed_tupL ?_ | with_reducible refine ed_tupT ?_ | with_reducible refine ed_listL ?_ | with_reducible refine ed_listT ?_ | with_reducible refine ed_neg ?_ | with_reducible refine ed_max ?_ | with_reducible refine ed_min ?_ | with_reducible refine ed_intB ?_
  | with_reducible refine ev_rng1 ?_ | with_reducible refine ev_rng2 ?_)
local macro_rules | `(tactic| walk_at "sd") => `(tactic| first | rfl | assumption | (simp only [decide_eq_true_eq, decide_eq_false_iff_not, Bool.not_eq_true', Bool.not_eq_false', Bool.and_eq_true, Bool.or_eq_true, List.length_map, List.length_cons, List.length_nil, List.length_append, List.length_range] at *; omega))
local macro_rules | `(tactic| walk_at "e2") => `(tactic| first
  | walk_at "e1" | with_reducible refine ⟨_, rfl, ?_⟩ | with_reducible refine ⟨_, _, rfl, ?_⟩
  | with_reducible refine And.intro (Eq.refl (List.length _)) ?_ | with_reducible refine And.intro (Nat.le_of_ble_eq_true (n := List.length _) rfl) ?_
  | with_reducible refine And.intro (Eq.refl (_ : Sx)) (?_ : Ed _ _)
  | ((with_reducible refine And.intro ?_ (And.intro ?_ (?_ : Ev _ _))); (· rfl); (· rfl))
  | ((with_reducible refine ed_ixTx ?_); refine ⟨_, by decide, rfl, ?_⟩) | ((with_reducible refine ed_ixLx ?_); refine ⟨_, by decide, rfl, ?_⟩) | ((with_reducible refine es_star ?_))
  | with_reducible refine an_tt ?_ | with_reducible refine an_ft ?_ | with_reducible refine an_tf ?_ | with_reducible refine an_ff ?_ | with_reducible refine an_ntt ?_ | with_reducible refine an_nft ?_ | with_reducible refine an_ntf ?_ | with_reducible refine an_nff ?_
  | ((with_reducible refine ed_dneSelf ?_)) | ((with_reducible refine ed_deqSelf ?_))
  | ((with_reducible refine ed_ixT ?_ ?_ ?_); (· decide); (· rfl)) | ((with_reducible refine ed_ixL ?_ ?_ ?_); (· decide); (· rfl)) | ((with_reducible refine ed_at ?_ ?_ ?_); (· decide); (· rfl))
  | ((with_reducible refine ed_modI ?_ ?_); (· first | decide | omega))
  | with_reducible exact gives_nx | ((with_reducible refine gives_rt ?_); (· rfl)) | ((with_reducible refine And.intro ?_ ?_); (· exact rfl); (· with_reducible exact Eq.refl (_ : Sx))))
local macro_rules | `(tactic| walk_at "e") => `(tactic| repeat walk_at "e2")
/-- begin a def's spec -/
local macro_rules | `(tactic| walk_at "i") => `(tactic| simp only [initS, List.map_cons, List.map_nil, List.length_cons, List.length_nil, Nat.reduceAdd, Nat.reduceSub, List.replicate, List.cons_append, List.nil_append])
/-- a known truth decides -/
local macro_rules | `(tactic| walk_at "t") => `(tactic| first | ((with_reducible refine split_t ?_ ?_); (· walk_at "sd")) | ((with_reducible refine split_t' ?_ ?_); (· walk_at "sd")))
local macro_rules | `(tactic| walk_at "f") => `(tactic| first | ((with_reducible refine split_f ?_ ?_); (· walk_at "sd")) | ((with_reducible refine split_f' ?_ ?_); (· walk_at "sd")))
/-- all that is seen in a look -/
local macro_rules | `(tactic| walk_at "v") => `(tactic| (rw [sealAll_mk (by (simp only [List.set_cons_zero, List.set_cons_succ, List.map_cons, List.map_nil, sealS_none, sealS_dat, sealS_scr, sealS_own, List.getElem?_cons_zero, List.getElem?_cons_succ, sealC_lst]; rfl)) (by (simp only [List.set_cons_zero, List.set_cons_succ, List.map_cons, List.map_nil]; rfl))]))
open Rl
end Lw

set_option maxHeartbeats 4000000
namespace Lw
open PySem Fu
local macro_rules | `(tactic| walk_at "e1") => `(tactic| first
  | with_reducible refine eo_seq ?_ | (with_reducible refine then_nx' ?_; refine ⟨?_, ?_, ?_⟩; rotate_left; · (try dsimp only [List.set, List.length_cons, List.length_nil, List.cons_append, List.nil_append, Nat.zero_add, Nat.reduceAdd]); exact rfl) | with_reducible refine then_rt ?_ | with_reducible refine eo_if ?_ | with_reducible refine eo_ret ?_ | with_reducible refine eo_set ?_ | with_reducible refine eo_asg ?_ | with_reducible refine eo_drop ?_ | with_reducible refine eo_nx ?_ | with_reducible refine eo_par ?_ | with_reducible refine eo_own ?_ | with_reducible refine eo_retN ?_ | with_reducible refine eo_for ?_ | with_reducible refine eo_retO ?_
  | with_reducible refine ev_c ?_ | (with_reducible refine ev_var ?_; refine ⟨_, rfl, ?_⟩) | with_reducible refine ev_bin ?_ | with_reducible refine ev_un ?_ | with_reducible refine ev_nil ?_ | with_reducible refine ev_cons ?_
  | with_reducible refine ev_tup ?_ | with_reducible refine ev_lst ?_ | with_reducible refine ev_call ?_ | with_reducible refine ev_callF ?_ | with_reducible refine ev_isi ?_ | with_reducible refine ev_isi2 ?_ | with_reducible refine ev_andV ?_ | with_reducible refine ev_orV ?_ | with_reducible refine ev_notV ?_
  | with_reducible refine ev_B ?_ | with_reducible refine ev_and ?_ | with_reducible refine ev_or ?_ | with_reducible refine ev_not ?_ | with_reducible refine ev_yes ?_ | with_reducible refine ev_if ?_ | with_reducible refine ev_no ?_ | with_reducible refine ev_so ?_ | with_reducible refine ev_sl ?_ | with_reducible refine ev_items ?_
  | (with_reducible refine ev_ixO ?_; refine ⟨_, _, rfl, rfl, ?_⟩) | (with_reducible refine ev_varO ?_; refine ⟨_, _, rfl, rfl, ?_⟩) | (with_reducible refine ev_lenO ?_; refine ⟨_, _, rfl, rfl, ?_⟩) | (with_reducible refine ev_scrSl ?_; refine ⟨_, rfl, ?_⟩) | (with_reducible refine ev_scrLen ?_; refine ⟨_, rfl, ?_⟩) | (with_reducible refine ev_callScr ?_; refine ⟨_, rfl, ?_⟩) | (with_reducible refine ev_OL ?_; refine ⟨_, _, rfl, rfl, ?_⟩) | with_reducible refine ev_OR ?_ | with_reducible refine ev_rep ?_ | with_reducible refine ev_listRng1 ?_ | with_reducible refine eo_setO ?_
  | with_reducible refine es_name ?_ | with_reducible refine es_tup2 ?_ | with_reducible refine es_tup3 ?_
  | with_reducible refine ed_addI ?_ | with_reducible refine ed_subI ?_ | with_reducible refine ed_cmp ?_ | with_reducible refine ed_eqI ?_ | with_reducible refine ed_neI ?_ | with_reducible refine ed_slT ?_ | with_reducible refine ed_slL ?_ | with_reducible refine ed_lenT ?_ | with_reducible refine ed_lenL ?_ | with_reducible refine ed_lenS ?_ | with_reducible refine ed_inS ?_ | with_reducible refine ed_itT ?_ | with_reducible refine ed_itL ?_ | with_reducible refine ed_tupL ?_ | with_reducible refine ed_tupT ?_ | with_reducible refine ed_listL ?_ | with_reducible refine ed_listT ?_ | with_reducible refine ed_neg ?_ | with_reducible refine ed_max ?_ | with_reducible refine ed_min ?_ | with_reducible refine ed_intB ?_
  | with_reducible refine ev_rng1 ?_ | with_reducible refine ev_rng2 ?_)
local macro_rules | `(tactic| walk_at "sd") => `(tactic| first | rfl | assumption | (simp only [decide_eq_true_eq, decide_eq_false_iff_not, Bool.not_eq_true', Bool.not_eq_false', Bool.and_eq_true, Bool.or_eq_true, List.length_map, List.length_cons, List.length_nil, List.length_append, List.length_range] at *; omega))
local macro_rules | `(tactic| walk_at "e2") => `(tactic| first
  | walk_at "e1" | with_reducible refine ⟨_, rfl, ?_⟩ | with_reducible refine ⟨_, _, rfl, ?_⟩
  | with_reducible refine And.intro (Eq.refl (List.length _)) ?_ | with_reducible refine And.intro (Nat.le_of_ble_eq_true (n := List.length _) rfl) ?_
  | with_reducible refine And.intro (Eq.refl (_ : Sx)) (?_ : Ed _ _)
  | ((with_reducible refine And.intro ?_ (And.intro ?_ (?_ : Ev _ _))); (· rfl); (· rfl))
  | ((with_reducible refine ed_ixTx ?_); refine ⟨_, by decide, rfl, ?_⟩) | ((with_reducible refine ed_ixLx ?_); refine ⟨_, by decide, rfl, ?_⟩) | ((with_reducible refine es_star ?_))
  | with_reducible refine an_tt ?_ | with_reducible refine an_ft ?_ | with_reducible refine an_tf ?_ | with_reducible refine an_ff ?_ | with_reducible refine an_ntt ?_ | with_reducible refine an_nft ?_ | with_reducible refine an_ntf ?_ | with_reducible refine an_nff ?_
  | ((with_reducible refine ed_dneSelf ?_)) | ((with_reducible refine ed_deqSelf ?_))
  | ((with_reducible refine ed_ixT ?_ ?_ ?_); (· decide); (· rfl)) | ((with_reducible refine ed_ixL ?_ ?_ ?_); (· decide); (· rfl)) | ((with_reducible refine ed_at ?_ ?_ ?_); (· decide); (· rfl))
  | ((with_reducible refine ed_modI ?_ ?_); (· first | decide | omega))
  | with_reducible exact gives_nx | ((with_reducible refine gives_rt ?_); (· rfl)) | ((with_reducible refine And.intro ?_ ?_); (· exact rfl); (· with_reducible exact Eq.refl (_ : Sx))))
local macro_rules | `(tactic| walk_at "e") => `(tactic| repeat walk_at "e2")
/-- begin a def's spec -/
local macro_rules | `(tactic| walk_at "i") => `(tactic| simp only [initS, List.map_cons, List.map_nil, List.length_cons, List.length_nil, Nat.reduceAdd, Nat.reduceSub, List.replicate, List.cons_append, List.nil_append])
/-- a known truth decides -/
local macro_rules | `(tactic| walk_at "t") => `(tactic| first | ((with_reducible refine split_t ?_ ?_); (· walk_at "sd")) | ((with_reducible refine split_t' ?_ ?_); (· walk_at "sd")))
local macro_rules | `(tactic| walk_at "f") => `(tactic| first | ((with_reducible refine split_f ?_ ?_); (· walk_at "sd")) | ((with_reducible refine split_f' ?_ ?_); (· walk_at "sd")))
/-- all that is seen in a look -/
local macro_rules | `(tactic| walk_at "v") => `(tactic| (rw [sealAll_mk (by (simp only [List.set_cons_zero, List.set_cons_succ, List.map_cons, List.map_nil, sealS_none, sealS_dat, sealS_scr, sealS_own, List.getElem?_cons_zero, List.getElem?_cons_succ, sealC_lst]; rfl)) (by (simp only [List.set_cons_zero, List.set_cons_succ, List.map_cons, List.map_nil]; rfl))]))
/-! ### texts of rides -/
open TL
def sgn (s : Int) : Nat := if s = 0 then 43 else 45
def endT (e : Int × Int) : Str := numS e.1 ++ str1 (sgn e.2)
def rideT (es : List (Int × Int)) : Str := Txt.join (Str.ofString " ") (es.map endT)
/-- an end with a number of at most thirty-one figures -/
def EndW (e : Int × Int) : Prop := 0 ≤ e.1 ∧ e.1 < 10000000000000000000000000000000 ∧ (e.2 = 0 ∨ e.2 = 1)
theorem pm : (Str.ofString "+-").cps.toList = [43, 45] := by decide +kernel
theorem endW_nat {e : Int × Int} (h : EndW e) : ∃ n : Nat, e.1 = (n : Int) ∧ n < 10 ^ 31 := ⟨e.1.toNat, by have := h.1; omega, by have := h.1; have := h.2.1; omega⟩
theorem sgn_or (s : Int) : sgn s = 43 ∨ sgn s = 45 := by unfold sgn; split; exact .inl rfl; exact .inr rfl
theorem ed_sign {s : Int} {Q : D → Prop} (h : s = 0 ∨ s = 1) (q : Q (.str (str1 (sgn s)))) : Ed (dIx (.str (Str.ofString "+-")) (.int s)) Q := by
  rcases h with rfl | rfl
  · exact ed_ixS (c := 43) (by decide) (by rw [pm]; rfl) q
  · exact ed_ixS (c := 45) (by decide) (by rw [pm]; rfl) q
theorem tl_endT {e : Int × Int} {n : Nat} (h : e.1 = (n : Int)) : tl (endT e) = numL n ++ [sgn e.2] := by
  unfold endT
  rw [tl_append, h, tl_numS, tl_one]
theorem endT_len {e : Int × Int} (h : EndW e) : (endT e).length ≤ 32 := by
  obtain ⟨n, hn, hl⟩ := endW_nat h
  rw [len_tl, tl_endT hn, List.length_append, List.length_singleton]
  have := numL_len (n := n) (k := 31) (by decide) hl
  omega
theorem endT_free {e : Int × Int} (h : EndW e) : 32 ∉ tl (endT e) := by
  obtain ⟨n, hn, hl⟩ := endW_nat h
  rw [tl_endT hn, List.mem_append, not_or]
  refine ⟨numL_free (.inl (by decide)), ?_⟩
  rcases sgn_or e.2 with z | z <;> rw [z] <;> decide
theorem x_end_word {d : D} {e : Int × Int} (s : IsEn d e) (h : EndW e) : m_end_word [d] = some (.str (endT e)) := by
  obtain ⟨n, hn, hl⟩ := endW_nat h
  have n1 := numS_len (n := n) (k := 31) (by decide) hl
  unfold m_end_word; refine mF_of ?_; walk_at "i"; unfold g_end_word
  walk_at "e"
  refine ed_ixQ s (by decide) rfl ?_
  rw [hn]
  walk_at "e"
  refine ed_strI (by omega) ?_
  walk_at "e"
  refine ed_ixQ s (by decide) rfl ?_
  walk_at "e"
  refine ed_sign h.2.2 ?_
  refine ed_addS (by show _ + 1 ≤ _; omega) ?_
  show Fu.Gives _ (Out.rt _ _)
  unfold endT
  rw [hn]
  rfl
theorem ed_joinR {es : List (Int × Int)} {Q : D → Prop} (h : ∀ e ∈ es, EndW e) (hl : es.length ≤ 10000) (q : Q (.str (rideT es))) : Ed (dJoin (.str (Str.ofString " ")) (.list (es.map fun e => PyData.str (endT e)))) Q := by
  have e : es.map (fun e => PyData.str (endT e)) = (es.map endT).map PyData.str := by rw [List.map_map]; rfl
  rw [e]
  refine ed_join (k := 32) (fun y hy => ?_) (by rw [List.length_map, sp_len]; omega) q
  obtain ⟨e, he, rfl⟩ := List.mem_map.mp hy
  exact endT_len (h e he)
theorem x_ride_text {d : D} {es : List (Int × Int)} (s : IsRide d es) (h : ∀ e ∈ es, EndW e) (hl : es.length ≤ 10000) : m_ride_text [d] = some (.str (rideT es)) := by
  obtain ⟨ps, s1, rfl, hp⟩ := s
  unfold m_ride_text; refine mF_of ?_; walk_at "i"; unfold g_ride_text
  walk_at "e"
  refine ev_mapX (xs := ps) (enc := (·.1)) (g := fun q => .str (endT q.2)) ?_
  walk_at "e"
  refine ed_itQ s1 ⟨rfl, fun q hq => ?_, ?_⟩
  · walk_at "e"
    exact Ed.of (x_end_word (hp q hq) (h _ (List.mem_map.mpr ⟨q, hq, rfl⟩))) ⟨rfl, rfl⟩
  rw [show ps.map (fun q => PyData.str (endT q.2)) = (ps.map (·.2)).map fun e => PyData.str (endT e) by rw [List.map_map]; rfl]
  exact ed_joinR h hl rfl
theorem cut_last {x : Str} {c : Nat} : L2.cutS (x ++ str1 c) none (some (-1)) = x := by
  apply ext_tl
  have e : tl (x ++ str1 c) = tl x ++ [c] := by rw [tl_append, tl_one]
  show (((x ++ str1 c).cps.toList.drop _).take _) = tl x
  rw [show (x ++ str1 c).cps.toList = tl x ++ [c] from e]
  have hl : (x ++ str1 c).length = (tl x).length + 1 := by rw [len_tl, e]; simp
  rw [hl]
  have h0 : HT.sIx ((tl x).length + 1) 0 none = 0 := rfl
  have h1 : HT.sIx ((tl x).length + 1) ((tl x).length + 1) (some (-1)) = (tl x).length := by
    show (if (-1 : Int) < 0 then ((-1 : Int) + (((tl x).length + 1 : Nat) : Int)).toNat else min (-1 : Int).toNat ((tl x).length + 1)) = _
    rw [if_pos (by decide)]
    omega
  rw [h0, h1]
  simp
theorem atI_last {α : Type} {xs : List α} {c : α} : L2.atI (xs ++ [c]) (-1) = some c := by
  unfold L2.atI L2.ixN
  rw [if_neg (by decide), if_pos (by simp only [List.length_append, List.length_singleton]; omega)]
  show (xs ++ [c])[((-1 : Int) + ((xs ++ [c]).length : Int)).toNat]? = _
  rw [show ((-1 : Int) + ((xs ++ [c]).length : Int)).toNat = xs.length by simp only [List.length_append, List.length_singleton]; omega]
  simp
theorem ed_lastS {x : Str} {c : Nat} {Q : D → Prop} (q : Q (.str (str1 c))) : Ed (dIx (.str (x ++ str1 c)) (.int (-1))) Q := by
  refine ⟨_, ?_, q⟩
  show (L2.atI (x ++ str1 c).cps.toList (-1)).bind _ = _
  rw [show (x ++ str1 c).cps.toList = tl x ++ [c] by rw [show (x ++ str1 c).cps.toList = tl (x ++ str1 c) from rfl, tl_append, tl_one], atI_last]
  rfl
theorem ed_cutS {x : Str} {c : Nat} {Q : D → Prop} (q : Q (.str x)) : Ed (dSl (.str (x ++ str1 c)) none (some (-1))) Q := ⟨_, by simp only [dSl]; rw [cut_last], q⟩
theorem x_is_end_word {e : Int × Int} (h : EndW e) : m_is_end_word [.str (endT e)] = some (.bool true) := by
  obtain ⟨n, hn, hl⟩ := endW_nat h
  unfold m_is_end_word; refine mF_of ?_; walk_at "i"; unfold g_is_end_word
  unfold endT
  rw [hn]
  walk_at "e"
  refine ed_cutS ?_
  walk_at "e"
  refine Ed.of (x_is_number_word n (by omega)) ?_
  walk_at "e"
  refine ed_lastS ?_
  unfold str1
  walk_at "e"
  rw [pm]
  rcases sgn_or e.2 with z | z <;> rw [z] <;> rfl
theorem ed_sidx {s : Int} {Q : D → Prop} (h : s = 0 ∨ s = 1) (q : Q (.int s)) : Ed (dSIndex (.str (Str.ofString "+-")) (.str (str1 (sgn s)))) Q := by
  rcases h with rfl | rfl
  · refine ⟨_, ?_, q⟩
    have : (Builtin.Str.occurrences (Str.ofString "+-") (str1 43) 0 (Str.ofString "+-").length 1).head? = some 0 := by decide +kernel
    show ((Builtin.Str.occurrences (Str.ofString "+-") (str1 43) 0 (Str.ofString "+-").length 1).head?.map _) = _
    rw [this]; rfl
  · refine ⟨_, ?_, q⟩
    have : (Builtin.Str.occurrences (Str.ofString "+-") (str1 45) 0 (Str.ofString "+-").length 1).head? = some 1 := by decide +kernel
    show ((Builtin.Str.occurrences (Str.ofString "+-") (str1 45) 0 (Str.ofString "+-").length 1).head?.map _) = _
    rw [this]; rfl
theorem x_end_of {e : Int × Int} (h : EndW e) : m_end_of [.str (endT e)] = some (en e) := by
  obtain ⟨n, hn, hl⟩ := endW_nat h
  unfold m_end_of; refine mF_of ?_; walk_at "i"; unfold g_end_of
  unfold endT
  rw [hn]
  walk_at "e"
  refine ed_cutS ?_
  walk_at "e"
  refine ed_intT (by omega) ?_
  walk_at "e"
  refine ed_lastS ?_
  refine ed_sidx h.2.2 ?_
  walk_at "e"
  show Fu.Gives _ _
  unfold en
  rw [hn]
  rfl
theorem rideT_nil : rideT [] = Str.ofString "" := by decide +kernel
theorem rideT_ne {es : List (Int × Int)} (h : ∀ e ∈ es, EndW e) (hne : es ≠ []) : rideT es ≠ Str.ofString "" := by
  intro z
  have z2 := congrArg tl z
  unfold rideT at z2
  rw [join_eq, tl_join, show tl (Str.ofString "") = [] by decide +kernel] at z2
  match es, h, hne with
  | [e], h, _ =>
    obtain ⟨n, hn, _⟩ := endW_nat (h e (by simp))
    simp only [List.map_cons, List.map_nil, joinL, tl_endT hn] at z2
    simp at z2
  | e :: f :: r, h, _ =>
    obtain ⟨n, hn, _⟩ := endW_nat (h e (by simp))
    simp only [List.map_cons, joinL, tl_endT hn] at z2
    simp at z2
theorem endT_nn {e : Int × Int} (h : EndW e) : endT e ≠ Str.ofString "" := by
  intro z
  obtain ⟨n, hn, _⟩ := endW_nat h
  have z2 := congrArg tl z
  rw [tl_endT hn, show tl (Str.ofString "") = [] by decide +kernel] at z2
  simp at z2
theorem ed_splitR {es : List (Int × Int)} {Q : D → Prop} (h : ∀ e ∈ es, EndW e) (hne : es ≠ []) (hl : es.length ≤ 10000) (q : Q (.list (es.map fun e => PyData.str (endT e)))) : Ed (dSplit (.str (rideT es)) (.str (Str.ofString " "))) Q := by
  unfold rideT
  refine ed_split (s := 32) (S := []) (k := 32) (by decide +kernel) (by decide +kernel) (fun z => hne (List.map_eq_nil_iff.mp z)) (fun p hp => ?_) (fun p hp => ?_) (by rw [List.length_map, sp_len]; omega) (by decide) (by rw [List.length_map]; omega) ?_
  · obtain ⟨e, he, rfl⟩ := List.mem_map.mp hp
    exact endT_free (h e he)
  · obtain ⟨e, he, rfl⟩ := List.mem_map.mp hp
    exact endT_len (h e he)
  · rw [List.map_map]; exact q
theorem x_read_ride {es : List (Int × Int)} (h : ∀ e ∈ es, EndW e) (hl : es.length ≤ 10000) : m_read_ride [.str (rideT es)] = some (lE es) := by
  unfold m_read_ride; refine mF_of ?_; walk_at "i"; unfold g_read_ride
  walk_at "e"
  refine Ed.of (dEq_str _ _) ?_
  by_cases hne : es = []
  · subst hne
    rw [rideT_nil, decide_eq_true rfl]
    walk_at "e"
  · rw [decide_eq_false (rideT_ne h hne)]
    walk_at "e"
    walk_at "t"
    walk_at "e"
    refine ed_splitR h hne hl ?_
    walk_at "e"
    refine ev_mapX (xs := es) (enc := fun e => .str (endT e)) (g := fun _ => .bool true) ?_
    walk_at "e"
    refine ⟨rfl, fun e he => ?_, ?_⟩
    · walk_at "e"
      refine Ed.of (dNe_str _ _) ?_
      rw [decide_eq_false (endT_nn (h e he))]
      walk_at "e"
      exact Ed.of (x_is_end_word (h e he)) ⟨_, rfl, rfl, rfl⟩
    walk_at "e"
    refine ed_allT ?_
    walk_at "e"
    refine ev_mapX (xs := es) (enc := fun e => .str (endT e)) (g := en) ?_
    walk_at "e"
    refine ⟨rfl, fun e he => ?_, ?_⟩
    · walk_at "e"
      exact Ed.of (x_end_of (h e he)) ⟨rfl, rfl⟩
    exact rfl
end Lw

set_option maxHeartbeats 4000000
namespace Lw
open PySem Fu
local macro_rules | `(tactic| walk_at "e1") => `(tactic| first
  | with_reducible refine eo_seq ?_ | (with_reducible refine then_nx' ?_; refine ⟨?_, ?_, ?_⟩; rotate_left; · (try dsimp only [List.set, List.length_cons, List.length_nil, List.cons_append, List.nil_append, Nat.zero_add, Nat.reduceAdd]); exact rfl) | with_reducible refine then_rt ?_ | with_reducible refine eo_if ?_ | with_reducible refine eo_ret ?_ | with_reducible refine eo_set ?_ | with_reducible refine eo_asg ?_ | with_reducible refine eo_drop ?_ | with_reducible refine eo_nx ?_ | with_reducible refine eo_par ?_ | with_reducible refine eo_own ?_ | with_reducible refine eo_retN ?_ | with_reducible refine eo_for ?_ | with_reducible refine eo_retO ?_
  | with_reducible refine ev_c ?_ | (with_reducible refine ev_var ?_; refine ⟨_, rfl, ?_⟩) | with_reducible refine ev_bin ?_ | with_reducible refine ev_un ?_ | with_reducible refine ev_nil ?_ | with_reducible refine ev_cons ?_
  | with_reducible refine ev_tup ?_ | with_reducible refine ev_lst ?_ | with_reducible refine ev_call ?_ | with_reducible refine ev_callF ?_ | with_reducible refine ev_isi ?_ | with_reducible refine ev_isi2 ?_ | with_reducible refine ev_andV ?_ | with_reducible refine ev_orV ?_ | with_reducible refine ev_notV ?_
  | with_reducible refine ev_B ?_ | with_reducible refine ev_and ?_ | with_reducible refine ev_or ?_ | with_reducible refine ev_not ?_ | with_reducible refine ev_yes ?_ | with_reducible refine ev_if ?_ | with_reducible refine ev_no ?_ | with_reducible refine ev_so ?_ | with_reducible refine ev_sl ?_ | with_reducible refine ev_items ?_
  | (with_reducible refine ev_ixO ?_; refine ⟨_, _, rfl, rfl, ?_⟩) | (with_reducible refine ev_varO ?_; refine ⟨_, _, rfl, rfl, ?_⟩) | (with_reducible refine ev_lenO ?_; refine ⟨_, _, rfl, rfl, ?_⟩) | (with_reducible refine ev_scrSl ?_; refine ⟨_, rfl, ?_⟩) | (with_reducible refine ev_scrLen ?_; refine ⟨_, rfl, ?_⟩) | (with_reducible refine ev_callScr ?_; refine ⟨_, rfl, ?_⟩) | (with_reducible refine ev_OL ?_; refine ⟨_, _, rfl, rfl, ?_⟩) | with_reducible refine ev_OR ?_ | with_reducible refine ev_rep ?_ | with_reducible refine ev_listRng1 ?_ | with_reducible refine eo_setO ?_
  | with_reducible refine es_name ?_ | with_reducible refine es_tup2 ?_ | with_reducible refine es_tup3 ?_
  | with_reducible refine ed_addI ?_ | with_reducible refine ed_subI ?_ | with_reducible refine ed_cmp ?_ | with_reducible refine ed_eqI ?_ | with_reducible refine ed_neI ?_ | with_reducible refine ed_slT ?_ | with_reducible refine ed_slL ?_ | with_reducible refine ed_lenT ?_ | with_reducible refine ed_lenL ?_ | with_reducible refine ed_lenS ?_ | with_reducible refine ed_inS ?_ | with_reducible refine ed_itT ?_ | with_reducible refine ed_itL ?_ | with_reducible refine ed_tupL ?_ | with_reducible refine ed_tupT ?_ | with_reducible refine ed_listL ?_ | with_reducible refine ed_listT ?_ | with_reducible refine ed_neg ?_ | with_reducible refine ed_max ?_ | with_reducible refine ed_min ?_ | with_reducible refine ed_intB ?_
  | with_reducible refine ev_rng1 ?_ | with_reducible refine ev_rng2 ?_)
local macro_rules | `(tactic| walk_at "sd") => `(tactic| first | rfl | assumption | (simp only [decide_eq_true_eq, decide_eq_false_iff_not, Bool.not_eq_true', Bool.not_eq_false', Bool.and_eq_true, Bool.or_eq_true, List.length_map, List.length_cons, List.length_nil, List.length_append, List.length_range] at *; omega))
local macro_rules | `(tactic| walk_at "e2") => `(tactic| first
  | walk_at "e1" | with_reducible refine ⟨_, rfl, ?_⟩ | with_reducible refine ⟨_, _, rfl, ?_⟩
  | with_reducible refine And.intro (Eq.refl (List.length _)) ?_ | with_reducible refine And.intro (Nat.le_of_ble_eq_true (n := List.length _) rfl) ?_
  | with_reducible refine And.intro (Eq.refl (_ : Sx)) (?_ : Ed _ _)
  | ((with_reducible refine And.intro ?_ (And.intro ?_ (?_ : Ev _ _))); (· rfl); (· rfl))
  | ((with_reducible refine ed_ixTx ?_); refine ⟨_, by decide, rfl, ?_⟩) | ((with_reducible refine ed_ixLx ?_); refine ⟨_, by decide, rfl, ?_⟩) | ((with_reducible refine es_star ?_))
  | with_reducible refine an_tt ?_ | with_reducible refine an_ft ?_ | with_reducible refine an_tf ?_ | with_reducible refine an_ff ?_ | with_reducible refine an_ntt ?_ | with_reducible refine an_nft ?_ | with_reducible refine an_ntf ?_ | with_reducible refine an_nff ?_
  | ((with_reducible refine ed_dneSelf ?_)) | ((with_reducible refine ed_deqSelf ?_))
  | ((with_reducible refine ed_ixT ?_ ?_ ?_); (· decide); (· rfl)) | ((with_reducible refine ed_ixL ?_ ?_ ?_); (· decide); (· rfl)) | ((with_reducible refine ed_at ?_ ?_ ?_); (· decide); (· rfl))
  | ((with_reducible refine ed_modI ?_ ?_); (· first | decide | omega))
  | with_reducible exact gives_nx | ((with_reducible refine gives_rt ?_); (· rfl)) | ((with_reducible refine And.intro ?_ ?_); (· exact rfl); (· with_reducible exact Eq.refl (_ : Sx))))
local macro_rules | `(tactic| walk_at "e") => `(tactic| repeat walk_at "e2")
/-- begin a def's spec -/
local macro_rules | `(tactic| walk_at "i") => `(tactic| simp only [initS, List.map_cons, List.map_nil, List.length_cons, List.length_nil, Nat.reduceAdd, Nat.reduceSub, List.replicate, List.cons_append, List.nil_append])
/-- a known truth decides -/
local macro_rules | `(tactic| walk_at "t") => `(tactic| first | ((with_reducible refine split_t ?_ ?_); (· walk_at "sd")) | ((with_reducible refine split_t' ?_ ?_); (· walk_at "sd")))
local macro_rules | `(tactic| walk_at "f") => `(tactic| first | ((with_reducible refine split_f ?_ ?_); (· walk_at "sd")) | ((with_reducible refine split_f' ?_ ?_); (· walk_at "sd")))
/-- all that is seen in a look -/
local macro_rules | `(tactic| walk_at "v") => `(tactic| (rw [sealAll_mk (by (simp only [List.set_cons_zero, List.set_cons_succ, List.map_cons, List.map_nil, sealS_none, sealS_dat, sealS_scr, sealS_own, List.getElem?_cons_zero, List.getElem?_cons_succ, sealC_lst]; rfl)) (by (simp only [List.set_cons_zero, List.set_cons_succ, List.map_cons, List.map_nil]; rfl))]))
open Rl
end Lw

set_option maxHeartbeats 4000000
namespace Lw
open PySem Fu
local macro_rules | `(tactic| walk_at "e1") => `(tactic| first
  | with_reducible refine eo_seq ?_ | (with_reducible refine then_nx' ?_; refine ⟨?_, ?_, ?_⟩; rotate_left; · (try dsimp only [List.set, List.length_cons, List.length_nil, List.cons_append, List.nil_append, Nat.zero_add, Nat.reduceAdd]); exact rfl) | with_reducible refine then_rt ?_ | with_reducible refine eo_if ?_ | with_reducible refine eo_ret ?_ | with_reducible refine eo_set ?_ | with_reducible refine eo_asg ?_ | with_reducible refine eo_drop ?_ | with_reducible refine eo_nx ?_ | with_reducible refine eo_par ?_ | with_reducible refine eo_own ?_ | with_reducible refine eo_retN ?_ | with_reducible refine eo_for ?_ | with_reducible refine eo_retO ?_
  | with_reducible refine ev_c ?_ | (with_reducible refine ev_var ?_; refine ⟨_, rfl, ?_⟩) | with_reducible refine ev_bin ?_ | with_reducible refine ev_un ?_ | with_reducible refine ev_nil ?_ | with_reducible refine ev_cons ?_
  | with_reducible refine ev_tup ?_ | with_reducible refine ev_lst ?_ | with_reducible refine ev_call ?_ | with_reducible refine ev_callF ?_ | with_reducible refine ev_isi ?_ | with_reducible refine ev_isi2 ?_ | with_reducible refine ev_andV ?_ | with_reducible refine ev_orV ?_ | with_reducible refine ev_notV ?_
  | with_reducible refine ev_B ?_ | with_reducible refine ev_and ?_ | with_reducible refine ev_or ?_ | with_reducible refine ev_not ?_ | with_reducible refine ev_yes ?_ | with_reducible refine ev_if ?_ | with_reducible refine ev_no ?_ | with_reducible refine ev_so ?_ | with_reducible refine ev_sl ?_ | with_reducible refine ev_items ?_
  | (with_reducible refine ev_ixO ?_; refine ⟨_, _, rfl, rfl, ?_⟩) | (with_reducible refine ev_varO ?_; refine ⟨_, _, rfl, rfl, ?_⟩) | (with_reducible refine ev_lenO ?_; refine ⟨_, _, rfl, rfl, ?_⟩) | (with_reducible refine ev_scrSl ?_; refine ⟨_, rfl, ?_⟩) | (with_reducible refine ev_scrLen ?_; refine ⟨_, rfl, ?_⟩) | (with_reducible refine ev_callScr ?_; refine ⟨_, rfl, ?_⟩) | (with_reducible refine ev_OL ?_; refine ⟨_, _, rfl, rfl, ?_⟩) | with_reducible refine ev_OR ?_ | with_reducible refine ev_rep ?_ | with_reducible refine ev_listRng1 ?_ | with_reducible refine eo_setO ?_
  | with_reducible refine es_name ?_ | with_reducible refine es_tup2 ?_ | with_reducible refine es_tup3 ?_
  | with_reducible refine ed_addI ?_ | with_reducible refine ed_subI ?_ | with_reducible refine ed_cmp ?_ | with_reducible refine ed_eqI ?_ | with_reducible refine ed_neI ?_ | with_reducible refine ed_slT ?_ | with_reducible refine ed_slL ?_ | with_reducible refine ed_lenT ?_ | with_reducible refine ed_lenL ?_ | with_reducible refine ed_lenS ?_ | with_reducible refine ed_inS ?_ | with_reducible refine ed_itT ?_ | with_reducible refine ed_itL ?_ | with_reducible refine ed_tupL ?_ | with_reducible refine ed_tupT ?_ | with_reducible refine ed_listL ?_ | with_reducible refine ed_listT ?_ | with_reducible refine ed_neg ?_ | with_reducible refine ed_max ?_ | with_reducible refine ed_min ?_ | with_reducible refine ed_intB ?_
  | with_reducible refine ev_rng1 ?_ | with_reducible refine ev_rng2 ?_)
local macro_rules | `(tactic| walk_at "sd") => `(tactic| first | rfl | assumption | (simp only [decide_eq_true_eq, decide_eq_false_iff_not, Bool.not_eq_true', Bool.not_eq_false', Bool.and_eq_true, Bool.or_eq_true, List.length_map, List.length_cons, List.length_nil, List.length_append, List.length_range] at *; omega))
local macro_rules | `(tactic| walk_at "e2") => `(tactic| first
  | walk_at "e1" | with_reducible refine ⟨_, rfl, ?_⟩ | with_reducible refine ⟨_, _, rfl, ?_⟩
  | with_reducible refine And.intro (Eq.refl (List.length _)) ?_ | with_reducible refine And.intro (Nat.le_of_ble_eq_true (n := List.length _) rfl) ?_
  | with_reducible refine And.intro (Eq.refl (_ : Sx)) (?_ : Ed _ _)
  | ((with_reducible refine And.intro ?_ (And.intro ?_ (?_ : Ev _ _))); (· rfl); (· rfl))
  | ((with_reducible refine ed_ixT ?_ ?_ ?_); (· decide); (· rfl)) | ((with_reducible refine ed_ixL ?_ ?_ ?_); (· decide); (· rfl)) | ((with_reducible refine ed_at ?_ ?_ ?_); (· decide); (· rfl))
  | ((with_reducible refine ed_modI ?_ ?_); (· first | decide | omega))
  | with_reducible exact gives_nx | ((with_reducible refine gives_rt ?_); (· rfl)) | ((with_reducible refine And.intro ?_ ?_); (· exact rfl); (· with_reducible exact Eq.refl (_ : Sx))))
local macro_rules | `(tactic| walk_at "e") => `(tactic| repeat walk_at "e2")
/-- begin a def's spec -/
local macro_rules | `(tactic| walk_at "i") => `(tactic| simp only [initS, List.map_cons, List.map_nil, List.length_cons, List.length_nil, Nat.reduceAdd, Nat.reduceSub, List.replicate, List.cons_append, List.nil_append])
/-- a known truth decides -/
local macro_rules | `(tactic| walk_at "t") => `(tactic| first | ((with_reducible refine split_t ?_ ?_); (· walk_at "sd")) | ((with_reducible refine split_t' ?_ ?_); (· walk_at "sd")))
local macro_rules | `(tactic| walk_at "f") => `(tactic| first | ((with_reducible refine split_f ?_ ?_); (· walk_at "sd")) | ((with_reducible refine split_f' ?_ ?_); (· walk_at "sd")))
/-- all that is seen in a look -/
local macro_rules | `(tactic| walk_at "v") => `(tactic| (rw [sealAll_mk (by (simp only [List.set_cons_zero, List.set_cons_succ, List.map_cons, List.map_nil, sealS_none, sealS_dat, sealS_scr, sealS_own, List.getElem?_cons_zero, List.getElem?_cons_succ, sealC_lst]; rfl)) (by (simp only [List.set_cons_zero, List.set_cons_succ, List.map_cons, List.map_nil]; rfl))]))
/-! ### the five deeds -/
theorem x_with_line {w : D} {p : Int} {ls : List Ln} {a b : Int} {c : Nat} (hw : Web w p ls) (h : WbOk p ls) (k : LnOk p (a, b, c)) : m_with_line [w, .int a, .int b, ch c] = some (wb p (ls ++ [(a, b, c)])) := by
  unfold m_with_line; refine mF_of ?_; walk_at "i"; unfold g_with_line
  walk_at "e"
  refine Ed.of (x_need_place hw k.a0 k.a1) ?_
  walk_at "e"
  refine Ed.of (x_need_place hw k.b0 k.b1) ?_
  walk_at "e"
  refine Ed.of (x_need_company k.c) ?_
  walk_at "e"
  refine Ed.of (x_kept hw h) ?_
  unfold wb
  walk_at "e"
  refine ed_addT (by have := h.len; simp; omega) ?_
  walk_at "e"
  simp [ln]
theorem x_without_line {w : D} {p : Int} {ls : List Ln} {i : Int} (hw : Web w p ls) (h : WbOk p ls) (i0 : 0 ≤ i) (i1 : i < ls.length) : m_without_line [w, .int i] = some (wb p (ls.take i.toNat ++ ls.drop (i.toNat + 1))) := by
  unfold m_without_line; refine mF_of ?_; walk_at "i"; unfold g_without_line
  walk_at "e"
  refine Ed.of (x_need_line hw i0 i1) ?_
  walk_at "e"
  refine Ed.of (x_kept hw h) ?_
  unfold wb
  walk_at "e"
  rw [cut_to i0, cut_from (by omega)]
  refine ed_addT (by have := h.len; simp; omega) ?_
  walk_at "e"
  have : (i + 1).toNat = i.toNat + 1 := by omega
  simp [this]
theorem x_painted {w : D} {p : Int} {ls : List Ln} {i : Int} {l : Ln} {c : Nat} (hw : Web w p ls) (h : WbOk p ls) (i0 : 0 ≤ i) (e : ls[i.toNat]? = some l) (k : Let c) : m_painted [w, .int i, ch c] = some (wb p (ls.set i.toNat (l.1, l.2.1, c))) := by
  have i1 := (List.getElem?_eq_some_iff.mp e).1
  unfold m_painted; refine mF_of ?_; walk_at "i"; unfold g_painted
  walk_at "e"
  refine Ed.of (x_need_line hw i0 (by omega)) ?_
  walk_at "e"
  refine Ed.of (x_need_company k) ?_
  walk_at "e"
  refine Ed.of (x_kept hw h) ?_
  unfold wb
  walk_at "e"
  refine ed_ixT i0 (by rw [List.getElem?_map, e]; rfl) ?_
  unfold ln
  walk_at "e"
  refine ed_addT (Nat.le_of_ble_eq_true rfl) ?_
  walk_at "e"
  rw [cut_to i0]
  refine ed_addT (by have := h.len; simp; omega) ?_
  walk_at "e"
  rw [cut_from (by omega)]
  refine ed_addT (by have := h.len; simp; omega) ?_
  walk_at "e"
  have : (i + 1).toNat = i.toNat + 1 := by omega
  rw [gives_rtI, this, List.set_eq_take_append_cons_drop, if_pos i1]
  simp [show cutL [PyData.int l.1, PyData.int l.2.1, ch l.2.2] none (some 2) = [.int l.1, .int l.2.1] from rfl]
def mrg (c d : Nat) (l : Ln) : Ln := (l.1, l.2.1, if l.2.2 = c then d else l.2.2)
theorem x_merged {w : D} {p : Int} {ls : List Ln} {c d : Nat} (hw : Web w p ls) (h : WbOk p ls) (kc : Let c) (kd : Let d) : m_merged [w, ch c, ch d] = some (wb p (ls.map (mrg c d))) := by
  unfold m_merged; refine mF_of ?_; walk_at "i"; unfold g_merged
  walk_at "e"
  refine Ed.of (x_need_company kc) ?_
  walk_at "e"
  refine Ed.of (x_need_company kd) ?_
  walk_at "e"
  refine Ed.of (x_kept hw h) ?_
  unfold wb
  walk_at "e"
  refine ev_mapX (xs := ls) (enc := ln) (g := fun l => ln (mrg c d l)) ?_
  walk_at "e"
  refine ⟨rfl, fun l hl => ?_, ?_⟩
  · unfold ln mrg
    walk_at "e"
    refine ed_ixT (by decide) rfl ?_
    walk_at "e"
    refine Ed.of (dEq_ch (h.all l hl).c.ok kc.ok) ?_
    walk_at "e"
    refine ⟨fun ht => ?_, fun ht => ?_⟩
    · walk_at "e"
      refine ed_addT (Nat.le_of_ble_eq_true rfl) ⟨?_, rfl⟩
      rw [if_pos (of_decide_eq_true ht)]; rfl
    · walk_at "e"
      refine ed_ixT (by decide) rfl ?_
      walk_at "e"
      refine ed_addT (Nat.le_of_ble_eq_true rfl) ⟨?_, rfl⟩
      rw [if_neg (of_decide_eq_false ht)]; rfl
  · walk_at "e"
    rw [gives_rtI, List.map_map]
    rfl
def lsn (p s : Int) (l : Ln) : Ln := (if s = 0 then p else l.1, if s = 1 then p else l.2.1, l.2.2)
theorem x_loosened {w d : D} {p : Int} {ls : List Ln} {i s : Int} {l : Ln} (hw : Web w p ls) (h : WbOk p ls) (sd : IsEn d (i, s)) (i0 : 0 ≤ i) (e : ls[i.toNat]? = some l) (s0 : 0 ≤ s) (s1 : s < 2) : m_loosened [w, d] = some (wb (p + 1) (ls.set i.toNat (lsn p s l))) := by
  have i1 := (List.getElem?_eq_some_iff.mp e).1
  unfold m_loosened; refine mF_of ?_; walk_at "i"; unfold g_loosened
  walk_at "e"
  refine Ed.of (x_need_end hw sd ⟨i0, by show i < _; omega, s0, s1⟩) ?_
  unfold en
  walk_at "e"
  refine Ed.of (x_kept hw h) ?_
  unfold wb
  walk_at "e"
  refine ev_map (fun z => match z with | .int k => if k = s then .int p else if k = 0 then .int l.1 else .int l.2.1 | z => z) ?_
  walk_at "e"
  refine ⟨by decide, by decide, fun z hz => ?_, ?_⟩
  · rw [show rng 0 (Int.toNat 2) = [.int 0, .int 1] from rfl] at hz
    simp only [List.mem_cons, List.not_mem_nil, or_false] at hz
    rcases hz with rfl | rfl
    · walk_at "e"
      refine ⟨fun ht => ?_, fun ht => ?_⟩
      · walk_at "e"
        exact ⟨by simp [of_decide_eq_true ht], rfl⟩
      · walk_at "e"
        refine ed_ixT i0 (by rw [List.getElem?_map, e]; rfl) ?_
        unfold ln
        walk_at "e"
        refine ed_ixT (by decide) rfl ?_
        simp [of_decide_eq_false ht]
    · walk_at "e"
      refine ⟨fun ht => ?_, fun ht => ?_⟩
      · walk_at "e"
        exact ⟨by simp [of_decide_eq_true ht], rfl⟩
      · walk_at "e"
        refine ed_ixT i0 (by rw [List.getElem?_map, e]; rfl) ?_
        unfold ln
        walk_at "e"
        refine ed_ixT (by decide) rfl ?_
        simp [of_decide_eq_false ht]
  · rw [show rng 0 (Int.toNat 2) = [.int 0, .int 1] from rfl]
    walk_at "e"
    refine ed_ixL (by decide) rfl ?_
    walk_at "e"
    refine ed_ixL (by decide) rfl ?_
    walk_at "e"
    refine ed_ixT i0 (by rw [List.getElem?_map, e]; rfl) ?_
    walk_at "e"
    show Ed (dIx (.tuple [.int l.1, .int l.2.1, ch l.2.2]) _) _
    refine ed_ixT (by decide) rfl ?_
    walk_at "e"
    rw [cut_to i0]
    refine ed_addT (by have := h.len; simp; omega) ?_
    walk_at "e"
    rw [cut_from (by omega)]
    refine ed_addT (by have := h.len; simp; omega) ?_
    walk_at "e"
    have : (i + 1).toNat = i.toNat + 1 := by omega
    rw [gives_rtI, this, List.set_eq_take_append_cons_drop, if_pos i1]
    simp only [List.map_append, List.map_cons, List.map_take, List.map_drop, List.append_assoc, List.cons_append, List.nil_append]
    congr 5
    unfold ln lsn
    have : s = 0 ∨ s = 1 := by omega
    rcases this with rfl | rfl <;> simp
end Lw

set_option maxHeartbeats 4000000
namespace Lw
open PySem Fu
local macro_rules | `(tactic| walk_at "e1") => `(tactic| first
  | with_reducible refine eo_seq ?_ | (with_reducible refine then_nx' ?_; refine ⟨?_, ?_, ?_⟩; rotate_left; · (try dsimp only [List.set, List.length_cons, List.length_nil, List.cons_append, List.nil_append, Nat.zero_add, Nat.reduceAdd]); exact rfl) | with_reducible refine then_rt ?_ | with_reducible refine eo_if ?_ | with_reducible refine eo_ret ?_ | with_reducible refine eo_set ?_ | with_reducible refine eo_asg ?_ | with_reducible refine eo_drop ?_ | with_reducible refine eo_nx ?_ | with_reducible refine eo_par ?_ | with_reducible refine eo_own ?_ | with_reducible refine eo_retN ?_ | with_reducible refine eo_for ?_ | with_reducible refine eo_retO ?_
  | with_reducible refine ev_c ?_ | (with_reducible refine ev_var ?_; refine ⟨_, rfl, ?_⟩) | with_reducible refine ev_bin ?_ | with_reducible refine ev_un ?_ | with_reducible refine ev_nil ?_ | with_reducible refine ev_cons ?_
  | with_reducible refine ev_tup ?_ | with_reducible refine ev_lst ?_ | with_reducible refine ev_call ?_ | with_reducible refine ev_callF ?_ | with_reducible refine ev_isi ?_ | with_reducible refine ev_isi2 ?_ | with_reducible refine ev_andV ?_ | with_reducible refine ev_orV ?_ | with_reducible refine ev_notV ?_
  | with_reducible refine ev_B ?_ | with_reducible refine ev_and ?_ | with_reducible refine ev_or ?_ | with_reducible refine ev_not ?_ | with_reducible refine ev_yes ?_ | with_reducible refine ev_if ?_ | with_reducible refine ev_no ?_ | with_reducible refine ev_so ?_ | with_reducible refine ev_sl ?_ | with_reducible refine ev_items ?_
  | (with_reducible refine ev_ixO ?_; refine ⟨_, _, rfl, rfl, ?_⟩) | (with_reducible refine ev_varO ?_; refine ⟨_, _, rfl, rfl, ?_⟩) | (with_reducible refine ev_lenO ?_; refine ⟨_, _, rfl, rfl, ?_⟩) | (with_reducible refine ev_scrSl ?_; refine ⟨_, rfl, ?_⟩) | (with_reducible refine ev_scrLen ?_; refine ⟨_, rfl, ?_⟩) | (with_reducible refine ev_callScr ?_; refine ⟨_, rfl, ?_⟩) | (with_reducible refine ev_OL ?_; refine ⟨_, _, rfl, rfl, ?_⟩) | with_reducible refine ev_OR ?_ | with_reducible refine ev_rep ?_ | with_reducible refine ev_listRng1 ?_ | with_reducible refine eo_setO ?_
  | with_reducible refine es_name ?_ | with_reducible refine es_tup2 ?_ | with_reducible refine es_tup3 ?_
  | with_reducible refine ed_addI ?_ | with_reducible refine ed_subI ?_ | with_reducible refine ed_cmp ?_ | with_reducible refine ed_eqI ?_ | with_reducible refine ed_neI ?_ | with_reducible refine ed_slT ?_ | with_reducible refine ed_slL ?_ | with_reducible refine ed_lenT ?_ | with_reducible refine ed_lenL ?_ | with_reducible refine ed_lenS ?_ | with_reducible refine ed_inS ?_ | with_reducible refine ed_itT ?_ | with_reducible refine ed_itL ?_ | with_reducible refine ed_tupL ?_ | with_reducible refine ed_tupT ?_ | with_reducible refine ed_listL ?_ | with_reducible refine ed_listT ?_ | with_reducible refine ed_neg ?_ | with_reducible refine ed_max ?_ | with_reducible refine ed_min ?_ | with_reducible refine ed_intB ?_
  | with_reducible refine ev_rng1 ?_ | with_reducible refine ev_rng2 ?_)
local macro_rules | `(tactic| walk_at "sd") => `(tactic| first | rfl | assumption | (simp only [decide_eq_true_eq, decide_eq_false_iff_not, Bool.not_eq_true', Bool.not_eq_false', Bool.and_eq_true, Bool.or_eq_true, List.length_map, List.length_cons, List.length_nil, List.length_append, List.length_range] at *; omega))
local macro_rules | `(tactic| walk_at "e2") => `(tactic| first
  | walk_at "e1" | with_reducible refine ⟨_, rfl, ?_⟩ | with_reducible refine ⟨_, _, rfl, ?_⟩
  | with_reducible refine And.intro (Eq.refl (List.length _)) ?_ | with_reducible refine And.intro (Nat.le_of_ble_eq_true (n := List.length _) rfl) ?_
  | with_reducible refine And.intro (Eq.refl (_ : Sx)) (?_ : Ed _ _)
  | ((with_reducible refine And.intro ?_ (And.intro ?_ (?_ : Ev _ _))); (· rfl); (· rfl))
  | ((with_reducible refine ed_ixT ?_ ?_ ?_); (· decide); (· rfl)) | ((with_reducible refine ed_ixL ?_ ?_ ?_); (· decide); (· rfl)) | ((with_reducible refine ed_at ?_ ?_ ?_); (· decide); (· rfl))
  | ((with_reducible refine ed_modI ?_ ?_); (· first | decide | omega))
  | with_reducible exact gives_nx | ((with_reducible refine gives_rt ?_); (· rfl)) | ((with_reducible refine And.intro ?_ ?_); (· exact rfl); (· with_reducible exact Eq.refl (_ : Sx))))
local macro_rules | `(tactic| walk_at "e") => `(tactic| repeat walk_at "e2")
/-- begin a def's spec -/
local macro_rules | `(tactic| walk_at "i") => `(tactic| simp only [initS, List.map_cons, List.map_nil, List.length_cons, List.length_nil, Nat.reduceAdd, Nat.reduceSub, List.replicate, List.cons_append, List.nil_append])
/-- a known truth decides -/
local macro_rules | `(tactic| walk_at "t") => `(tactic| first | ((with_reducible refine split_t ?_ ?_); (· walk_at "sd")) | ((with_reducible refine split_t' ?_ ?_); (· walk_at "sd")))
local macro_rules | `(tactic| walk_at "f") => `(tactic| first | ((with_reducible refine split_f ?_ ?_); (· walk_at "sd")) | ((with_reducible refine split_f' ?_ ?_); (· walk_at "sd")))
/-- all that is seen in a look -/
local macro_rules | `(tactic| walk_at "v") => `(tactic| (rw [sealAll_mk (by (simp only [List.set_cons_zero, List.set_cons_succ, List.map_cons, List.map_nil, sealS_none, sealS_dat, sealS_scr, sealS_own, List.getElem?_cons_zero, List.getElem?_cons_succ, sealC_lst]; rfl)) (by (simp only [List.set_cons_zero, List.set_cons_succ, List.map_cons, List.map_nil]; rfl))]))
namespace Rl
end Rl
end Lw

set_option maxHeartbeats 4000000
namespace Lw
open PySem Fu
local macro_rules | `(tactic| walk_at "e1") => `(tactic| first
  | with_reducible refine eo_seq ?_ | (with_reducible refine then_nx' ?_; refine ⟨?_, ?_, ?_⟩; rotate_left; · (try dsimp only [List.set, List.length_cons, List.length_nil, List.cons_append, List.nil_append, Nat.zero_add, Nat.reduceAdd]); exact rfl) | with_reducible refine then_rt ?_ | with_reducible refine eo_if ?_ | with_reducible refine eo_ret ?_ | with_reducible refine eo_set ?_ | with_reducible refine eo_asg ?_ | with_reducible refine eo_drop ?_ | with_reducible refine eo_nx ?_ | with_reducible refine eo_par ?_ | with_reducible refine eo_own ?_ | with_reducible refine eo_retN ?_ | with_reducible refine eo_for ?_ | with_reducible refine eo_retO ?_
  | with_reducible refine ev_c ?_ | (with_reducible refine ev_var ?_; refine ⟨_, rfl, ?_⟩) | with_reducible refine ev_bin ?_ | with_reducible refine ev_un ?_ | with_reducible refine ev_nil ?_ | with_reducible refine ev_cons ?_
  | with_reducible refine ev_tup ?_ | with_reducible refine ev_lst ?_ | with_reducible refine ev_call ?_ | with_reducible refine ev_callF ?_ | with_reducible refine ev_isi ?_ | with_reducible refine ev_isi2 ?_ | with_reducible refine ev_andV ?_ | with_reducible refine ev_orV ?_ | with_reducible refine ev_notV ?_
  | with_reducible refine ev_B ?_ | with_reducible refine ev_and ?_ | with_reducible refine ev_or ?_ | with_reducible refine ev_not ?_ | with_reducible refine ev_yes ?_ | with_reducible refine ev_if ?_ | with_reducible refine ev_no ?_ | with_reducible refine ev_so ?_ | with_reducible refine ev_sl ?_ | with_reducible refine ev_items ?_
  | (with_reducible refine ev_ixO ?_; refine ⟨_, _, rfl, rfl, ?_⟩) | (with_reducible refine ev_varO ?_; refine ⟨_, _, rfl, rfl, ?_⟩) | (with_reducible refine ev_lenO ?_; refine ⟨_, _, rfl, rfl, ?_⟩) | (with_reducible refine ev_scrSl ?_; refine ⟨_, rfl, ?_⟩) | (with_reducible refine ev_scrLen ?_; refine ⟨_, rfl, ?_⟩) | (with_reducible refine ev_callScr ?_; refine ⟨_, rfl, ?_⟩) | (with_reducible refine ev_OL ?_; refine ⟨_, _, rfl, rfl, ?_⟩) | with_reducible refine ev_OR ?_ | with_reducible refine ev_rep ?_ | with_reducible refine ev_listRng1 ?_ | with_reducible refine eo_setO ?_
  | with_reducible refine es_name ?_ | with_reducible refine es_tup2 ?_ | with_reducible refine es_tup3 ?_
  | with_reducible refine ed_addI ?_ | with_reducible refine ed_subI ?_ | with_reducible refine ed_cmp ?_ | with_reducible refine ed_eqI ?_ | with_reducible refine ed_neI ?_ | with_reducible refine ed_slT ?_ | with_reducible refine ed_slL ?_ | with_reducible refine ed_lenT ?_ | with_reducible refine ed_lenL ?_ | with_reducible refine ed_lenS ?_ | with_reducible refine ed_inS ?_ | with_reducible refine ed_itT ?_ | with_reducible refine ed_itL ?_ | with_reducible refine ed_tupL ?_ | with_reducible refine ed_tupT ?_ | with_reducible refine ed_listL ?_ | with_reducible refine ed_listT ?_ | with_reducible refine ed_neg ?_ | with_reducible refine ed_max ?_ | with_reducible refine ed_min ?_ | with_reducible refine ed_intB ?_
  | with_reducible refine ev_rng1 ?_ | with_reducible refine ev_rng2 ?_)
local macro_rules | `(tactic| walk_at "sd") => `(tactic| first | rfl | assumption | (simp only [decide_eq_true_eq, decide_eq_false_iff_not, Bool.not_eq_true', Bool.not_eq_false', Bool.and_eq_true, Bool.or_eq_true, List.length_map, List.length_cons, List.length_nil, List.length_append, List.length_range] at *; omega))
local macro_rules | `(tactic| walk_at "e2") => `(tactic| first
  | walk_at "e1" | with_reducible refine ⟨_, rfl, ?_⟩ | with_reducible refine ⟨_, _, rfl, ?_⟩
  | with_reducible refine And.intro (Eq.refl (List.length _)) ?_ | with_reducible refine And.intro (Nat.le_of_ble_eq_true (n := List.length _) rfl) ?_
  | with_reducible refine And.intro (Eq.refl (_ : Sx)) (?_ : Ed _ _)
  | ((with_reducible refine And.intro ?_ (And.intro ?_ (?_ : Ev _ _))); (· rfl); (· rfl))
  | ((with_reducible refine ed_ixTx ?_); refine ⟨_, by decide, rfl, ?_⟩) | ((with_reducible refine ed_ixLx ?_); refine ⟨_, by decide, rfl, ?_⟩) | ((with_reducible refine es_star ?_))
  | with_reducible refine an_tt ?_ | with_reducible refine an_ft ?_ | with_reducible refine an_tf ?_ | with_reducible refine an_ff ?_ | with_reducible refine an_ntt ?_ | with_reducible refine an_nft ?_ | with_reducible refine an_ntf ?_ | with_reducible refine an_nff ?_
  | ((with_reducible refine ed_dneSelf ?_)) | ((with_reducible refine ed_deqSelf ?_))
  | ((with_reducible refine ed_ixT ?_ ?_ ?_); (· decide); (· rfl)) | ((with_reducible refine ed_ixL ?_ ?_ ?_); (· decide); (· rfl)) | ((with_reducible refine ed_at ?_ ?_ ?_); (· decide); (· rfl))
  | ((with_reducible refine ed_modI ?_ ?_); (· first | decide | omega))
  | with_reducible exact gives_nx | ((with_reducible refine gives_rt ?_); (· rfl)) | ((with_reducible refine And.intro ?_ ?_); (· exact rfl); (· with_reducible exact Eq.refl (_ : Sx))))
local macro_rules | `(tactic| walk_at "e") => `(tactic| repeat walk_at "e2")
/-- begin a def's spec -/
local macro_rules | `(tactic| walk_at "i") => `(tactic| simp only [initS, List.map_cons, List.map_nil, List.length_cons, List.length_nil, Nat.reduceAdd, Nat.reduceSub, List.replicate, List.cons_append, List.nil_append])
/-- a known truth decides -/
local macro_rules | `(tactic| walk_at "t") => `(tactic| first | ((with_reducible refine split_t ?_ ?_); (· walk_at "sd")) | ((with_reducible refine split_t' ?_ ?_); (· walk_at "sd")))
local macro_rules | `(tactic| walk_at "f") => `(tactic| first | ((with_reducible refine split_f ?_ ?_); (· walk_at "sd")) | ((with_reducible refine split_f' ?_ ?_); (· walk_at "sd")))
/-- all that is seen in a look -/
local macro_rules | `(tactic| walk_at "v") => `(tactic| (rw [sealAll_mk (by (simp only [List.set_cons_zero, List.set_cons_succ, List.map_cons, List.map_nil, sealS_none, sealS_dat, sealS_scr, sealS_own, List.getElem?_cons_zero, List.getElem?_cons_succ, sealC_lst]; rfl)) (by (simp only [List.set_cons_zero, List.set_cons_succ, List.map_cons, List.map_nil]; rfl))]))
open Rl TL
def rowsD (p : Int) (ls : List Ln) : List D := PyData.str (headT p) :: ls.map fun l => PyData.str (lineT l)
theorem rowsD_eq (p : Int) (ls : List Ln) : rowsD p ls = (headT p :: ls.map lineT).map PyData.str := by
  unfold rowsD; rw [List.map_cons, List.map_map]; rfl
theorem ed_joinD {p : Int} {ls : List Ln} {Q : D → Prop} (h : WbOk p ls) (hp : p ≤ 1000000) (hl : ls.length ≤ 100000) (q : Q (.str (webT p ls))) : Ed (dJoin (.str (Str.ofString "\n")) (.list (rowsD p ls))) Q := ed_joinW h hp hl q
theorem webT_inj {p q : Int} {ls ks : List Ln} (h : WbOk p ls) (k : WbOk q ks) (hp : p ≤ 1000000) (hq : q ≤ 1000000) (hl : ls.length ≤ 100000) (hk : ks.length ≤ 100000) (e : webT p ls = webT q ks) : wb p ls = wb q ks := by
  have e1 := x_read_web h hp hl
  rw [e, x_read_web k hq hk] at e1
  exact (Option.some.inj e1).symm
theorem x__law_ends {c : Nat} {cs : List D} (hR : Reel c cs) (hc : 20 ≤ c) : ∃ d cs', m__law_ends_k57 cs [] = some (d, cs') ∧ ∃ es, d = lE es ∧ (∀ e ∈ es, EndW e) ∧ es.length ≤ 8 ∧ Reel (c - 20) cs' := by
  unfold m__law_ends_k57; refine mIO_of ?_; walk_at "i"; unfold g__law_ends_k57
  walk_at "e"
  refine ev_lcA (fun acc os => ∃ cs, ∃ es : List (Int × Int), os = [some (.lst cs)] ∧ acc = es.map en ∧ (∀ e ∈ es, EndW e) ∧ Reel (c - 1 - 2 * es.length) cs) ?_
  walk_at "e"
  refine ev_drawL ⟨_, rfl, ?_⟩
  walk_at "e"
  refine ⟨_, _, _, rfl, rfl, hR, by omega, by decide, by decide, fun v1 cs a1 b1 hR => ?_⟩
  walk_at "e"
  refine ⟨by omega, by omega, ⟨cs, [], rfl, rfl, (fun e h => nomatch h), hR.mono (by omega)⟩, ?_, ?_⟩
  · rintro i d acc os hd ha ⟨cs, es, rfl, rfl, hes, hR⟩
    obtain ⟨hi, rfl⟩ := rng_at hd
    rw [List.length_map] at ha
    walk_at "e"
    refine ev_drawL ⟨_, rfl, ?_⟩
    walk_at "e"
    refine ⟨_, _, _, rfl, rfl, hR, by omega, by decide, by decide, fun v2 cs a2 b2 hR => ?_⟩
    walk_at "e"
    refine ev_drawL ⟨_, rfl, ?_⟩
    walk_at "e"
    refine ⟨_, _, _, rfl, rfl, hR, by omega, by decide, by decide, fun v3 cs a3 b3 hR => ?_⟩
    walk_at "e"
    refine ⟨rfl, cs, es ++ [(v2, v3)], rfl, by rw [List.map_append]; rfl, fun e he => ?_, hR.mono (by simp only [List.length_append, List.length_singleton]; omega)⟩
    rcases List.mem_append.mp he with he | he
    · exact hes e he
    · rw [List.mem_singleton.mp he]; exact ⟨a2, by dsimp only; omega, by dsimp only; omega⟩
  · rintro acc os hl ⟨cs, es, rfl, rfl, hes, hR⟩
    rw [List.length_map, rng_len] at hl
    exact ⟨cs, rfl, es, rfl, hes, by omega, hR.mono (by omega)⟩
theorem ed_splitLine {p : Int} {a b c : Nat} {Q : D → Prop} (h : LnOk p ((a : Int), (b : Int), c)) (hp : p ≤ 1000000) (q : Q (.list [.str (Str.ofString "line"), .str (numS (a : Int)), .str (numS (b : Int)), ch c])) : Ed (dSplit (.str (lineT ((a : Int), (b : Int), c))) (.str (Str.ofString " "))) Q := by
  have h1 := h.a1; have h3 := h.b1; have hc := h.c
  simp only at h1 h3 hc
  have n1 := numS_len (n := a) (k := 7) (by decide) (by omega)
  have n2 := numS_len (n := b) (k := 7) (by decide) (by omega)
  rw [line_parts]
  refine ed_split (s := 32) (S := []) (k := 24) (by decide +kernel) (by decide +kernel) (by simp) (fun q hq => ?_) (fun q hq => ?_) (by simp only [List.length_cons, List.length_nil, sp_len]; omega) (by decide) (by simp) q
  · simp only [List.mem_cons, List.not_mem_nil, or_false] at hq
    rcases hq with rfl | rfl | rfl | rfl
    · decide +kernel
    · rw [tl_numS]; exact numL_free (.inl (by decide))
    · rw [tl_numS]; exact numL_free (.inl (by decide))
    · rw [tl_one]; have := hc.1; simp; omega
  · simp only [List.mem_cons, List.not_mem_nil, or_false] at hq
    rcases hq with rfl | rfl | rfl | rfl
    · decide +kernel
    · omega
    · omega
    · show 1 ≤ 24; decide
theorem ed_joinLine {p : Int} {a b c : Nat} {Q : D → Prop} (h : LnOk p ((a : Int), (b : Int), c)) (hp : p ≤ 1000000) (q : Q (.str (lineT ((a : Int), (b : Int), c)))) : Ed (dJoin (.str (Str.ofString " ")) (.list [.str (Str.ofString "line"), .str (numS (a : Int)), .str (numS (b : Int)), ch c])) Q := by
  have h1 := h.a1; have h3 := h.b1; have hc := h.c
  simp only at h1 h3 hc
  have n1 := numS_len (n := a) (k := 7) (by decide) (by omega)
  have n2 := numS_len (n := b) (k := 7) (by decide) (by omega)
  rw [line_parts] at q
  refine ed_join (ys := [Str.ofString "line", numS (a : Int), numS (b : Int), str1 c]) (k := 24) (fun q hq => ?_) (by simp only [List.length_cons, List.length_nil, sp_len]; omega) q
  simp only [List.mem_cons, List.not_mem_nil, or_false] at hq
  rcases hq with rfl | rfl | rfl | rfl
  · decide +kernel
  · omega
  · omega
  · show 1 ≤ 24; decide
theorem cut_both {α : Type} {xs : List α} {i j : Nat} (h1 : i ≤ j) (h2 : j ≤ xs.length) : cutL xs (some (i : Int)) (some (j : Int)) = (xs.drop i).take (j - i) := by
  unfold cutL
  have e1 : HT.sIx xs.length 0 (some (i : Int)) = i := by rw [HT.sIx_nat]; omega
  have e2 : HT.sIx xs.length xs.length (some (j : Int)) = j := by rw [HT.sIx_nat]; omega
  rw [e1, e2]
theorem rows_set (p q : Int) (ls : List Ln) (l : Ln) {i : Nat} (hi : i < ls.length) : [PyData.str (headT q)] ++ ((rowsD p ls).drop 1).take i ++ [PyData.str (lineT l)] ++ (rowsD p ls).drop (i + 2) = rowsD q (ls.set i l) := by
  unfold rowsD
  rw [List.set_eq_take_append_cons_drop, if_pos hi]
  simp only [List.drop_succ_cons, List.drop_zero, List.map_append, List.map_cons, List.map_take, List.map_drop, List.cons_append, List.nil_append, List.append_assoc]
theorem x__law_loose {p : Int} {ls : List Ln} {i : Nat} {s : Int} {l : Ln} (h : WbOk p ls) (hp : p ≤ 1000) (hl : ls.length ≤ 1000) (e : ls[i]? = some l) (hs : s = 0 ∨ s = 1) :
    m__law_loose [.list (rowsD p ls), wb p ls, .int (i : Int), .int s] = some (.list (rowsD (p + 1) (ls.set i (lsn p s l)))) := by
  have p0 := h.p0
  obtain ⟨n, rfl⟩ : ∃ a : Nat, p = (a : Int) := ⟨p.toNat, by omega⟩
  have hi := (List.getElem?_eq_some_iff.mp e).1
  have hk := h.all l (List.mem_of_getElem? e)
  unfold m__law_loose; refine mF_of ?_; walk_at "i"; unfold g__law_loose
  walk_at "e"
  refine ed_ixL (by omega) (d := .str (lineT l)) ?_ ?_
  · rw [show ((i : Int) + 1).toNat = i + 1 by omega]
    unfold rowsD
    rw [List.getElem?_cons_succ, List.getElem?_map, e]; rfl
  obtain ⟨a', b', c⟩ := l
  have h0 := hk.a0; have h1 := hk.a1; have h2 := hk.b0; have h3 := hk.b1; have hc := hk.c
  simp only at h0 h1 h2 h3 hc
  obtain ⟨a, rfl⟩ : ∃ a : Nat, a' = (a : Int) := ⟨a'.toNat, by omega⟩
  obtain ⟨b, rfl⟩ : ∃ a : Nat, b' = (a : Int) := ⟨b'.toNat, by omega⟩
  have n1 := numS_len (n := n + 1) (k := 7) (by decide) (by omega)
  walk_at "e"
  refine ed_splitLine hk (by omega) ?_
  unfold wb
  walk_at "e"
  have en1 : (n : Int) + 1 = ((n + 1 : Nat) : Int) := by omega
  have hlen : (rowsD (n : Int) ls).length = ls.length + 1 := by unfold rowsD; simp
  have hcut : cutL (rowsD (n : Int) ls) (some 1) (some ((i : Int) + 1)) = ((rowsD (n : Int) ls).drop 1).take i := by
    have := cut_both (xs := rowsD (n : Int) ls) (i := 1) (j := i + 1) (by omega) (by omega)
    simpa using this
  rcases hs with rfl | rfl
  · walk_at "e"
    refine ed_strI (by omega) ⟨_, _, rfl, rfl, ?_⟩
    walk_at "e"
    refine ⟨rfl, 1, rfl, by simp, ?_⟩
    walk_at "e"
    rw [en1]
    refine ed_strI (by omega) ?_
    refine ed_addS (by rw [show (Str.ofString "places ").length = 7 by decide +kernel]; omega) ?_
    walk_at "e"
    rw [hcut]
    refine ed_addL (by simp; omega) ?_
    walk_at "e"
    refine ed_joinLine (p := (n : Int) + 1) (a := n) (b := b) (c := c) ⟨by dsimp only; omega, by dsimp only; omega, by dsimp only; omega, by dsimp only; omega, hc⟩ (by omega) ?_
    walk_at "e"
    refine ed_addL (by simp; omega) ?_
    walk_at "e"
    rw [cut_from (by omega), show ((i : Int) + 2).toNat = i + 2 by omega]
    refine ed_addL (by simp; omega) ?_
    exact congrArg PyData.list (rows_set (n : Int) ((n + 1 : Nat) : Int) ls ((n : Int), (b : Int), c) hi)
  · walk_at "e"
    refine ed_strI (by omega) ⟨_, _, rfl, rfl, ?_⟩
    walk_at "e"
    refine ⟨rfl, 2, rfl, by simp, ?_⟩
    walk_at "e"
    rw [en1]
    refine ed_strI (by omega) ?_
    refine ed_addS (by rw [show (Str.ofString "places ").length = 7 by decide +kernel]; omega) ?_
    walk_at "e"
    rw [hcut]
    refine ed_addL (by simp; omega) ?_
    walk_at "e"
    refine ed_joinLine (p := (n : Int) + 1) (a := a) (b := n) (c := c) ⟨by dsimp only; omega, by dsimp only; omega, by dsimp only; omega, by dsimp only; omega, hc⟩ (by omega) ?_
    walk_at "e"
    refine ed_addL (by simp; omega) ?_
    walk_at "e"
    rw [cut_from (by omega), show ((i : Int) + 2).toNat = i + 2 by omega]
    refine ed_addL (by simp; omega) ?_
    exact congrArg PyData.list (rows_set (n : Int) ((n + 1 : Nat) : Int) ls ((a : Int), (n : Int), c) hi)
theorem rows_add (p : Int) (ls : List Ln) (l : Ln) : rowsD p ls ++ [PyData.str (lineT l)] = rowsD p (ls ++ [l]) := by
  unfold rowsD; simp
theorem rows_out (p : Int) (ls : List Ln) (i : Nat) : (rowsD p ls).take (i + 1) ++ (rowsD p ls).drop (i + 2) = rowsD p (ls.take i ++ ls.drop (i + 1)) := by
  unfold rowsD
  simp only [List.take_succ_cons, List.drop_succ_cons, List.map_append, List.map_take, List.map_drop, List.cons_append]
theorem rows_put (p : Int) (ls : List Ln) (l : Ln) {i : Nat} (hi : i < ls.length) : (rowsD p ls).take (i + 1) ++ [PyData.str (lineT l)] ++ (rowsD p ls).drop (i + 2) = rowsD p (ls.set i l) := by
  unfold rowsD
  rw [List.set_eq_take_append_cons_drop, if_pos hi]
  simp only [List.take_succ_cons, List.drop_succ_cons, List.map_append, List.map_cons, List.map_take, List.map_drop, List.cons_append, List.nil_append, List.append_assoc]
theorem rows_len (p : Int) (ls : List Ln) : (rowsD p ls).length = ls.length + 1 := by unfold rowsD; simp
def preT (l : Ln) : Str := Str.ofString "line " ++ numS l.1 ++ Str.ofString " " ++ numS l.2.1 ++ Str.ofString " "
theorem pre_line (l : Ln) : lineT l = preT l ++ str1 l.2.2 := rfl
theorem preT_len {p : Int} {l : Ln} (h : LnOk p l) (hp : p ≤ 1000000) : (preT l).length ≤ 24 := by
  have := lineT_len h hp
  rw [pre_line, str_len_app] at this
  omega
theorem ed_pre {l : Ln} {Q : D → Prop} (q : Q (.str (preT l))) : Ed (dSl (.str (lineT l)) none (some (-1))) Q := ed_cutS q
theorem ed_sign1 {l : Ln} {Q : D → Prop} (q : Q (ch l.2.2)) : Ed (dIx (.str (lineT l)) (.int (-1))) Q := ed_lastS q
theorem ed_preAdd {p : Int} {l : Ln} {c : Nat} {Q : D → Prop} (h : LnOk p l) (hp : p ≤ 1000000) (q : Q (.str (lineT (l.1, l.2.1, c)))) : Ed (dAdd (.str (preT l)) (ch c)) Q := by
  have := preT_len h hp
  exact ed_addS (y := str1 c) (by show _ + 1 ≤ _; omega) q
theorem dNe_goodS {n : Nat} {d : D} {Q : D → Prop} (h : Good n d) (q : Q (.bool false)) (hn : n ≤ 64 := by decide) : Ed (dNe d d) Q := ⟨_, dNe_self (h.shaped hn), q⟩
open Classical in
theorem ed_goodT {m n : Nat} {d e : D} {Q : D → Prop} (h : Good m d) (k : Good n e) (he : d = e) (q : Q (.bool true)) (l1 : m ≤ 64 := by decide) (l2 : n ≤ 64 := by decide) : Ed (dEq d e) Q :=
  ⟨_, by rw [dEq_good h k l1 l2, decide_eq_true he], q⟩
open Classical in
theorem ed_goodF {m n : Nat} {d e : D} {Q : D → Prop} (h : Good m d) (k : Good n e) (he : ¬ d = e) (q : Q (.bool false)) (l1 : m ≤ 64 := by decide) (l2 : n ≤ 64 := by decide) : Ed (dEq d e) Q :=
  ⟨_, by rw [dEq_good h k l1 l2, decide_eq_false he], q⟩
theorem x__law_right_k57 {c : Nat} {cs : List D} {p : Int} {ls : List Ln} (h : WbOk p ls) (p0 : 0 < p) (hp : p ≤ 1000) (l0 : 0 < ls.length) (hl : ls.length ≤ 900) (hR : Reel c cs) (hc : 6 ≤ c) : ∃ z cs', m__law_right_k57 cs [wb p ls] = some (z, cs') ∧ z = .bool true ∧ Reel (c - 6) cs' := by
  unfold m__law_right_k57; refine mIO_of ?_; walk_at "i"; unfold g__law_right_k57
  have hw := web_wb p ls
  obtain ⟨r1, r2⟩ := rows_ok h (by omega)
  unfold wb
  walk_at "e"
  refine Ed.of (x_web_text hw h (by omega) (by omega)) ?_
  walk_at "e"
  unfold webT
  refine ed_split (s := 10) (S := []) (k := 24) (by decide +kernel) (by decide +kernel) (by simp) r1 r2 (by simp only [List.length_cons, List.length_map, nl_len]; omega) (by decide) (by simp; omega) ?_
  rw [← rowsD_eq]
  walk_at "e"
  refine ev_drawL ⟨_, rfl, ?_⟩
  walk_at "e"
  refine ⟨_, _, _, rfl, rfl, hR, by omega, p0, by omega, fun v1 cs a1 b1 hR => ?_⟩
  walk_at "e"
  refine ev_drawL ⟨_, rfl, ?_⟩
  walk_at "e"
  refine ⟨_, _, _, rfl, rfl, hR, by omega, p0, by omega, fun v2 cs a2 b2 hR => ?_⟩
  walk_at "e"
  refine ev_drawL ⟨_, rfl, ?_⟩
  walk_at "e"
  refine ⟨_, _, _, rfl, rfl, hR, by omega, by decide, by decide, fun v3 cs a3 b3 hR => ?_⟩
  refine ed_pickS (P := Let) a3 (by rw [show (Str.ofString "abcq").length = 4 by decide +kernel]; omega) (by decide +kernel) fun u hu => ?_
  walk_at "e"
  refine ev_drawL ⟨_, rfl, ?_⟩
  walk_at "e"
  refine ⟨_, _, _, rfl, rfl, hR, by omega, by decide, by decide, fun v4 cs a4 b4 hR => ?_⟩
  refine ed_pickS (P := Let) a4 (by rw [show (Str.ofString "abzq").length = 4 by decide +kernel]; omega) (by decide +kernel) fun d hd => ?_
  walk_at "e"
  refine ev_drawL ⟨_, rfl, ?_⟩
  walk_at "e"
  refine ⟨_, _, _, rfl, rfl, hR, by omega, by rw [List.length_map]; omega, by rw [List.length_map]; omega, fun v5 cs a5 b5 hR => ?_⟩
  rw [List.length_map] at b5
  walk_at "e"
  refine ev_drawL ⟨_, rfl, ?_⟩
  walk_at "e"
  refine ⟨_, _, _, rfl, rfl, hR, by omega, by decide, by decide, fun v6 cs a6 b6 hR => ?_⟩
  walk_at "e"
  obtain ⟨x, rfl⟩ : ∃ a : Nat, v1 = (a : Int) := ⟨v1.toNat, by omega⟩
  obtain ⟨y, rfl⟩ : ∃ a : Nat, v2 = (a : Int) := ⟨v2.toNat, by omega⟩
  obtain ⟨i, rfl⟩ : ∃ a : Nat, v5 = (a : Int) := ⟨v5.toNat, by omega⟩
  have hi : i < ls.length := by omega
  obtain ⟨l, hl2⟩ : ∃ l, ls[i]? = some l := ⟨_, List.getElem?_eq_getElem hi⟩
  have hk1 : LnOk p ((x : Int), (y : Int), u) := ⟨a1, b1, a2, b2, hu⟩
  refine ed_strI (by omega) ?_
  walk_at "e"
  refine ed_strI (by omega) ?_
  walk_at "e"
  refine ed_joinLine hk1 (by omega) ?_
  walk_at "e"
  have hrl := rows_len p ls
  have hlk := h.all l (List.mem_of_getElem? hl2)
  refine Ed.of (x_with_line hw h hk1) ?_
  walk_at "e"
  refine ed_addL (by simp; omega) ?_
  rw [rows_add]
  walk_at "e"
  refine ev_app ⟨_, _, rfl, rfl, ?_⟩
  walk_at "e"
  refine Ed.of (x_without_line hw h (by omega) (by omega)) ?_
  rw [Int.toNat_natCast]
  walk_at "e"
  rw [cut_to (by omega), cut_from (by omega), show ((i : Int) + 1).toNat = i + 1 by omega, show ((i : Int) + 2).toNat = i + 2 by omega]
  refine ed_addL (by simp; omega) ?_
  rw [rows_out]
  walk_at "e"
  refine ⟨by simp, ?_⟩
  walk_at "e"
  refine ev_app ⟨_, _, rfl, rfl, ?_⟩
  walk_at "e"
  refine Ed.of (x_painted hw h (by omega) (by rw [Int.toNat_natCast]; exact hl2) hu) ?_
  rw [Int.toNat_natCast]
  walk_at "e"
  rw [cut_to (by omega), show ((i : Int) + 1).toNat = i + 1 by omega]
  refine ed_ixL (by omega) (d := .str (lineT l)) (by rw [show ((i : Int) + 1).toNat = i + 1 by omega]; unfold rowsD; rw [List.getElem?_cons_succ, List.getElem?_map, hl2]; rfl) ?_
  walk_at "e"
  refine ed_pre ?_
  walk_at "e"
  refine ed_preAdd hlk (by omega) ?_
  walk_at "e"
  refine ed_addL (by simp; omega) ?_
  walk_at "e"
  rw [cut_from (by omega), show ((i : Int) + 2).toNat = i + 2 by omega]
  refine ed_addL (by simp; omega) ?_
  rw [rows_put _ _ _ hi]
  walk_at "e"
  refine ⟨by simp, ?_⟩
  walk_at "e"
  refine ev_mapX (xs := ls) (enc := fun l => .str (lineT l)) (g := fun l => .str (lineT (mrg u d l))) ?_
  walk_at "e"
  rw [cut_from (by decide), show (rowsD p ls).drop (1 : Int).toNat = ls.map fun l => PyData.str (lineT l) from rfl]
  walk_at "e"
  refine ⟨rfl, fun m hm => ?_, ?_⟩
  · have hmk := h.all m hm
    walk_at "e"
    refine ed_pre ?_
    walk_at "e"
    refine ed_sign1 ?_
    walk_at "e"
    refine ed_sign1 ?_
    walk_at "e"
    refine Ed.of (dEq_ch hmk.c.ok hu.ok) ?_
    walk_at "e"
    by_cases hmu : m.2.2 = u
    · rw [decide_eq_true hmu]
      walk_at "e"
      refine ed_preAdd hmk (by omega) ⟨?_, rfl⟩
      unfold mrg
      rw [if_pos hmu]
    · rw [decide_eq_false hmu]
      walk_at "e"
      refine ed_preAdd hmk (by omega) ⟨?_, rfl⟩
      unfold mrg
      rw [if_neg hmu]
  walk_at "e"
  refine ed_addL (by simp; omega) ?_
  rw [show [PyData.str (headT p)] ++ (ls.map fun l => PyData.str (lineT (mrg u d l))) = rowsD p (ls.map (mrg u d)) by unfold rowsD; rw [List.map_map]; rfl]
  walk_at "e"
  refine ev_app ⟨_, _, rfl, rfl, ?_⟩
  walk_at "e"
  refine Ed.of (x_merged hw h hu hd) ?_
  walk_at "e"
  refine ⟨by simp, ?_⟩
  walk_at "e"
  refine ev_app ⟨_, _, rfl, rfl, ?_⟩
  walk_at "e"
  refine Ed.of (x_loosened hw h (isEn_en ((i : Int), v6)) (by omega) (by rw [Int.toNat_natCast]; exact hl2) (by omega) (by omega)) ?_
  rw [Int.toNat_natCast]
  walk_at "e"
  refine Ed.of (x__law_loose h hp (by omega) hl2 (by omega)) ?_
  walk_at "e"
  refine ⟨by simp, ?_⟩
  walk_at "e"
  have okS : ∀ m : Ln, LnOk p m → WbOk p (ls.set i m) := fun m hm => ⟨h.p0, fun y hy => by
    rcases List.mem_or_eq_of_mem_set hy with hy | rfl
    · exact h.all y hy
    · exact hm, by rw [List.length_set]; exact h.len⟩
  have up : ∀ m : Ln, LnOk p m → LnOk (p + 1) m := fun m k => ⟨k.a0, by have := k.a1; omega, k.b0, by have := k.b1; omega, k.c⟩
  have goods : ∀ q ∈ [(p, ls ++ [((x : Int), (y : Int), u)]), (p, ls.take i ++ ls.drop (i + 1)), (p, ls.set i (l.1, l.2.1, u)), (p, ls.map (mrg u d)), (p + 1, ls.set i (lsn p v6 l))], WbOk q.1 q.2 ∧ q.1 ≤ 1001 ∧ q.2.length ≤ 1000 := by
    intro q hq
    simp only [List.mem_cons, List.not_mem_nil, or_false] at hq
    rcases hq with rfl | rfl | rfl | rfl | rfl
    · refine ⟨⟨h.p0, fun m hm => ?_, by simp; omega⟩, by dsimp only; omega, by simp; omega⟩
      rcases List.mem_append.mp hm with hm | hm
      · exact h.all m hm
      · rw [List.mem_singleton.mp hm]; exact hk1
    · refine ⟨⟨h.p0, fun m hm => ?_, by simp; omega⟩, by dsimp only; omega, by simp; omega⟩
      rcases List.mem_append.mp hm with hm | hm
      · exact h.all m (List.mem_of_mem_take hm)
      · exact h.all m (List.mem_of_mem_drop hm)
    · exact ⟨okS _ ⟨hlk.a0, hlk.a1, hlk.b0, hlk.b1, hu⟩, by dsimp only; omega, by simp; omega⟩
    · refine ⟨⟨h.p0, fun m hm => ?_, by simp; omega⟩, by dsimp only; omega, by simp; omega⟩
      obtain ⟨k, hk, rfl⟩ := List.mem_map.mp hm
      have kk := h.all k hk
      refine ⟨kk.a0, kk.a1, kk.b0, kk.b1, ?_⟩
      unfold mrg
      dsimp only
      split
      · exact hd
      · exact kk.c
    · refine ⟨⟨by have := h.p0; dsimp only; omega, fun m hm => ?_, by simp; omega⟩, by dsimp only; omega, by simp; omega⟩
      rcases List.mem_or_eq_of_mem_set hm with hm | rfl
      · exact up _ (h.all m hm)
      · have h0 := hlk.a0; have h1 := hlk.a1; have h2 := hlk.b0; have h3 := hlk.b1
        unfold lsn
        exact ⟨by dsimp only; split <;> omega, by dsimp only; split <;> omega, by dsimp only; split <;> omega, by dsimp only; split <;> omega, hlk.c⟩
  refine eo_loopX (xs := [(p, ls ++ [((x : Int), (y : Int), u)]), (p, ls.take i ++ ls.drop (i + 1)), (p, ls.set i (l.1, l.2.1, u)), (p, ls.map (mrg u d)), (p + 1, ls.set i (lsn p v6 l))]) (enc := fun q => .tuple [wb q.1 q.2, .list (rowsD q.1 q.2)])
    (fun j S => ∃ x12 x13 x14 x15, S = ⟨[some (.own 0), some (.dat (.tuple [.int p, .tuple (ls.map ln)])), some (.dat (.int p)), some (.dat (.tuple (ls.map ln))), some (.dat (.list (rowsD p ls))), some (.dat (.int x)), some (.dat (.int y)), some (.dat (ch u)), some (.dat (ch d)), some (.dat (.int i)), some (.dat (.int v6)), some (.dat (.str (lineT ((x : Int), (y : Int), u)))), x12, x13, x14, x15, none], [some (.lst cs), none]⟩) ⟨_, _, _, _, rfl⟩ ?_ ?_
  · rintro j q S hq ⟨x12, x13, x14, x15, rfl⟩
    obtain ⟨g1, g2, g3⟩ := goods q (List.mem_of_getElem? hq)
    walk_at "e"
    refine Ed.of (x_web_text (web_wb q.1 q.2) g1 (by omega) (by omega)) ?_
    walk_at "e"
    refine ed_joinD g1 (by omega) (by omega) ?_
    walk_at "e"
    refine Ed.of (x_read_web g1 (by omega) (by omega)) ?_
    walk_at "e"
    refine dNe_goodS (good_wb g1) ?_
    walk_at "e"
    refine ed_joinD h (by omega) (by omega) ?_
    refine Ed.of (dEq_str _ _) ?_
    walk_at "e"
    by_cases e : webT q.1 q.2 = webT p ls
    · have e2 : wb q.1 q.2 = .tuple [.int p, .tuple (ls.map ln)] := webT_inj g1 h (by omega) (by omega) (by omega) (by omega) e
      rw [decide_eq_true e]
      refine ed_goodT (good_wb g1) (good_wb h) e2 ?_
      refine Ed.of (neB_self _) ?_
      walk_at "e"
      exact ⟨_, _, _, _, rfl⟩
    · have e2 : ¬ wb q.1 q.2 = .tuple [.int p, .tuple (ls.map ln)] := fun z => by
        have z1 := x_web_text (web_wb q.1 q.2) g1 (by omega) (by omega)
        rw [show wb q.1 q.2 = wb p ls from z, x_web_text (web_wb p ls) h (by omega) (by omega)] at z1
        exact e (PyData.str.inj (Option.some.inj z1)).symm
      rw [decide_eq_false e]
      refine ed_goodF (good_wb g1) (good_wb h) e2 ?_
      refine Ed.of (neB_self _) ?_
      walk_at "e"
      exact ⟨_, _, _, _, rfl⟩
  · rintro S ⟨x12, x13, x14, x15, rfl⟩
    walk_at "e"
    refine ed_joinD h (by omega) (by omega) ?_
    walk_at "e"
    refine Ed.of (x_read_web h (by omega) (by omega)) ?_
    walk_at "e"
    refine ed_goodT (good_wb h) (good_wb h) rfl ?_
    exact ⟨cs, rfl, rfl, hR.mono (by omega)⟩
theorem tl_rideT {es : List (Int × Int)} : tl (rideT es) = joinL [32] (es.map fun e => tl (endT e)) := by
  unfold rideT
  rw [join_eq, tl_join, List.map_map, show tl (Str.ofString " ") = [32] by decide +kernel]
  rfl
theorem joinL_app (S : List Nat) : ∀ (as bs : List (List Nat)), as ≠ [] → bs ≠ [] → joinL S (as ++ bs) = joinL S as ++ (S ++ joinL S bs)
  | [], _, h, _ => absurd rfl h
  | [a], b :: bs, _, _ => rfl
  | a :: a2 :: as, bs, _, h => by
    show a ++ (S ++ joinL S (a2 :: as ++ bs)) = _
    rw [joinL_app S (a2 :: as) bs (by simp) h]
    simp only [joinL, List.append_assoc]
/-- both texts, by a blank where there are both -/
theorem ride_both {es fs : List (Int × Int)} (he : ∀ e ∈ es, EndW e) (hf : ∀ e ∈ fs, EndW e) : Txt.join (Str.ofString " ") ([rideT es, rideT fs].filter fun t => !decide (t = Str.ofString "")) = rideT (es ++ fs) := by
  have hb : tl (Str.ofString " ") = [32] := by decide +kernel
  by_cases h1 : es = []
  · subst h1
    rw [rideT_nil]
    by_cases h2 : fs = []
    · subst h2
      rw [rideT_nil]; decide +kernel
    · have n2 := rideT_ne hf h2
      simp only [List.filter_cons, List.filter_nil, decide_true, Bool.not_true, Bool.false_eq_true, if_false, decide_eq_false n2, Bool.not_false, if_true]
      apply ext_tl
      rw [join_eq, tl_join]
      rfl
  · have n1 := rideT_ne he h1
    by_cases h2 : fs = []
    · subst h2
      rw [rideT_nil]
      simp only [List.filter_cons, List.filter_nil, decide_true, Bool.not_true, Bool.false_eq_true, if_false, decide_eq_false n1, Bool.not_false, if_true]
      apply ext_tl
      rw [join_eq, tl_join, List.append_nil]
      rfl
    · have n2 := rideT_ne hf h2
      simp only [List.filter_cons, List.filter_nil, decide_eq_false n1, decide_eq_false n2, Bool.not_false, if_true]
      apply ext_tl
      rw [join_eq, tl_join, hb, tl_rideT, List.map_append, joinL_app _ _ _ (fun z => h1 (List.map_eq_nil_iff.mp z)) (fun z => h2 (List.map_eq_nil_iff.mp z)), ← tl_rideT, ← tl_rideT]
      rfl
theorem good_en (e : Int × Int) : Good 1 (en e) := good_tup fun d hd => by
  simp only [List.mem_cons, List.not_mem_nil, or_false] at hd
  rcases hd with rfl | rfl <;> exact good_int _
theorem rideT_len {es : List (Int × Int)} (h : ∀ e ∈ es, EndW e) (hl : es.length ≤ 20) : (rideT es).length ≤ 1000 := by
  have h1 := join_len (Str.ofString " ") (es.map endT)
  have h2 := sum_le (ys := es.map endT) (k := 32) fun y hy => by
    obtain ⟨e, he, rfl⟩ := List.mem_map.mp hy
    exact endT_len (h e he)
  rw [List.length_map, sp_len] at h1
  rw [List.length_map] at h2
  unfold rideT
  omega
end Lw

set_option maxHeartbeats 16000000
namespace Lw.k57
open PySem PySem.Spec PyProof.Rows L2 RZ Fu Lw
def topS (i : Nat) : Stmt := PySem.Challenge.pw_changeride_k57_whole_deeds_on_texts.main.body.getD i (.Pass ⟨0, 0, 0, 0⟩)
abbrev s__law_reel : Stmt := topS 40
theorem sc__law_reel : FnScope ["script", "stir", "cell", "great"] ["script"] (defScope s__law_reel) := ⟨rfl, rfl, rfl, by decide +kernel, rfl, by decide +kernel, by decide +kernel⟩
abbrev s__law_draw : Stmt := topS 41
theorem sc__law_draw : FnScope ["reel", "many", "rest", "told", "stir"] ["reel", "many"] (defScope s__law_draw) := ⟨rfl, rfl, rfl, by decide +kernel, rfl, by decide +kernel, by decide +kernel⟩
abbrev s__law_net : Stmt := topS 42
theorem sc__law_net : FnScope ["reel", "most", "some", "places", "many", "letters", "wide", "found", "k"] ["reel", "most"] (defScope s__law_net) := ⟨rfl, rfl, rfl, by decide +kernel, rfl, by decide +kernel, by decide +kernel⟩
abbrev s_is_whole : Stmt := topS 11
theorem sc_is_whole : FnScope ["thing"] ["thing"] (defScope s_is_whole) := ⟨rfl, rfl, rfl, by decide +kernel, rfl, by decide +kernel, by decide +kernel⟩
abbrev s_is_row : Stmt := topS 12
theorem sc_is_row : FnScope ["thing", "size"] ["thing", "size"] (defScope s_is_row) := ⟨rfl, rfl, rfl, by decide +kernel, rfl, by decide +kernel, by decide +kernel⟩
abbrev s_is_company : Stmt := topS 13
theorem sc_is_company : FnScope ["thing"] ["thing"] (defScope s_is_company) := ⟨rfl, rfl, rfl, by decide +kernel, rfl, by decide +kernel, by decide +kernel⟩
abbrev s_is_line_of : Stmt := topS 14
theorem sc_is_line_of : FnScope ["places", "thing", "place"] ["places", "thing"] (defScope s_is_line_of) := ⟨rfl, rfl, rfl, by decide +kernel, rfl, by decide +kernel, by decide +kernel⟩
abbrev s_web_of : Stmt := topS 15
theorem sc_web_of : FnScope ["places", "lines", "line"] ["places", "lines"] (defScope s_web_of) := ⟨rfl, rfl, rfl, by decide +kernel, rfl, by decide +kernel, by decide +kernel⟩
abbrev s_kept : Stmt := topS 16
theorem sc_kept : FnScope ["web"] ["web"] (defScope s_kept) := ⟨rfl, rfl, rfl, by decide +kernel, rfl, by decide +kernel, by decide +kernel⟩
abbrev s_web_text : Stmt := topS 34
theorem sc_web_text : FnScope ["web", "places", "lines", "rows", "one", "other", "company"] ["web"] (defScope s_web_text) := ⟨rfl, rfl, rfl, by decide +kernel, rfl, by decide +kernel, by decide +kernel⟩
abbrev s_is_number_word : Stmt := topS 30
theorem sc_is_number_word : FnScope ["word", "sign"] ["word"] (defScope s_is_number_word) := ⟨rfl, rfl, rfl, by decide +kernel, rfl, by decide +kernel, by decide +kernel⟩
abbrev s_line_read : Stmt := topS 36
theorem sc_line_read : FnScope ["row", "word", "words"] ["row"] (defScope s_line_read) := ⟨rfl, rfl, rfl, by decide +kernel, rfl, by decide +kernel, by decide +kernel⟩
abbrev s_read_web : Stmt := topS 37
theorem sc_read_web : FnScope ["text", "head", "rows", "word", "blank", "number", "lines", "row"] ["text"] (defScope s_read_web) := ⟨rfl, rfl, rfl, by decide +kernel, rfl, by decide +kernel, by decide +kernel⟩
abbrev s_need_place : Stmt := topS 17
theorem sc_need_place : FnScope ["web", "place"] ["web", "place"] (defScope s_need_place) := ⟨rfl, rfl, rfl, by decide +kernel, rfl, by decide +kernel, by decide +kernel⟩
abbrev s_need_company : Stmt := topS 19
theorem sc_need_company : FnScope ["company"] ["company"] (defScope s_need_company) := ⟨rfl, rfl, rfl, by decide +kernel, rfl, by decide +kernel, by decide +kernel⟩
abbrev s_with_line : Stmt := topS 22
theorem sc_with_line : FnScope ["web", "one", "other", "company", "places", "lines"] ["web", "one", "other", "company"] (defScope s_with_line) := ⟨rfl, rfl, rfl, by decide +kernel, rfl, by decide +kernel, by decide +kernel⟩
abbrev s_need_line : Stmt := topS 18
theorem sc_need_line : FnScope ["web", "line"] ["web", "line"] (defScope s_need_line) := ⟨rfl, rfl, rfl, by decide +kernel, rfl, by decide +kernel, by decide +kernel⟩
abbrev s_without_line : Stmt := topS 23
theorem sc_without_line : FnScope ["web", "line", "places", "lines"] ["web", "line"] (defScope s_without_line) := ⟨rfl, rfl, rfl, by decide +kernel, rfl, by decide +kernel, by decide +kernel⟩
abbrev s_painted : Stmt := topS 24
theorem sc_painted : FnScope ["web", "line", "company", "places", "lines"] ["web", "line", "company"] (defScope s_painted) := ⟨rfl, rfl, rfl, by decide +kernel, rfl, by decide +kernel, by decide +kernel⟩
abbrev s_merged : Stmt := topS 25
theorem sc_merged : FnScope ["web", "company", "other", "places", "lines", "line"] ["web", "company", "other"] (defScope s_merged) := ⟨rfl, rfl, rfl, by decide +kernel, rfl, by decide +kernel, by decide +kernel⟩
abbrev s_is_end : Stmt := topS 20
theorem sc_is_end : FnScope ["web", "thing"] ["web", "thing"] (defScope s_is_end) := ⟨rfl, rfl, rfl, by decide +kernel, rfl, by decide +kernel, by decide +kernel⟩
abbrev s_need_end : Stmt := topS 21
theorem sc_need_end : FnScope ["web", "end"] ["web", "end"] (defScope s_need_end) := ⟨rfl, rfl, rfl, by decide +kernel, rfl, by decide +kernel, by decide +kernel⟩
abbrev s_loosened : Stmt := topS 26
theorem sc_loosened : FnScope ["web", "end", "line", "side", "places", "lines", "ends", "at"] ["web", "end"] (defScope s_loosened) := ⟨rfl, rfl, rfl, by decide +kernel, rfl, by decide +kernel, by decide +kernel⟩
abbrev s__law_loose : Stmt := topS 43
theorem sc__law_loose : FnScope ["rows", "net", "at", "side", "words", "found"] ["rows", "net", "at", "side"] (defScope s__law_loose) := ⟨rfl, rfl, rfl, by decide +kernel, rfl, by decide +kernel, by decide +kernel⟩
abbrev s__law_right : Stmt := topS 45
theorem sc__law_right : FnScope ["reel", "net", "places", "lines", "rows", "spot", "other", "letter", "more", "at", "side", "new", "pairs", "due", "one", "text", "row"] ["reel", "net"] (defScope s__law_right) := ⟨rfl, rfl, rfl, by decide +kernel, rfl, by decide +kernel, by decide +kernel⟩
abbrev s__law_ends : Stmt := topS 44
theorem sc__law_ends : FnScope ["reel", "lap"] ["reel"] (defScope s__law_ends) := ⟨rfl, rfl, rfl, by decide +kernel, rfl, by decide +kernel, by decide +kernel⟩
abbrev s_end_word : Stmt := topS 32
theorem sc_end_word : FnScope ["end"] ["end"] (defScope s_end_word) := ⟨rfl, rfl, rfl, by decide +kernel, rfl, by decide +kernel, by decide +kernel⟩
abbrev s_ride_text : Stmt := topS 35
theorem sc_ride_text : FnScope ["ride", "end"] ["ride"] (defScope s_ride_text) := ⟨rfl, rfl, rfl, by decide +kernel, rfl, by decide +kernel, by decide +kernel⟩
abbrev s_end_of : Stmt := topS 33
theorem sc_end_of : FnScope ["word"] ["word"] (defScope s_end_of) := ⟨rfl, rfl, rfl, by decide +kernel, rfl, by decide +kernel, by decide +kernel⟩
abbrev s_is_end_word : Stmt := topS 31
theorem sc_is_end_word : FnScope ["word"] ["word"] (defScope s_is_end_word) := ⟨rfl, rfl, rfl, by decide +kernel, rfl, by decide +kernel, by decide +kernel⟩
abbrev s_read_ride : Stmt := topS 38
theorem sc_read_ride : FnScope ["text", "words", "word"] ["text"] (defScope s_read_ride) := ⟨rfl, rfl, rfl, by decide +kernel, rfl, by decide +kernel, by decide +kernel⟩
abbrev s_law : Stmt := topS 46
theorem sc_law : FnScope ["script", "reel", "k", "places", "lines", "net", "one", "other", "both_texts", "text"] ["script"] (defScope s_law) := ⟨rfl, rfl, rfl, by decide +kernel, rfl, by decide +kernel, by decide +kernel⟩
def g_law : Sx → Option Out :=
  (qSeq (qOwn 1 (gCallScr 0 m__law_reel)) (qSeq (qFor (gRng1 (gCons (gBin dAdd (gC (.int 1)) (gCall dMin2 (gCons (gScrLen 0) (gCons (gC (.int 11)) gNil)))) gNil)) (sName 2) (qSeq (qAsg (sTup 2 (sCons (sName 3) (sCons (sName 4) sNil))) (gIO 1 1 m__law_net (gCons (gC (.int 58)) gNil))) (qSeq (qSet 5 (gTup (gCons (gCall dMax2 (gCons (gC (.int 1)) (gCons (gVar 3) gNil))) (gCons (gIf (gB (gBin dNe (gVar 4) (gTup gNil))) (gVar 4) (gTup (gCons (gTup (gCons (gC (.int 0)) (gCons (gC (.int 0)) (gCons (gC (.str "a")) gNil)))) gNil))) gNil)))) (qSeq (qIf (gNot (gB (gIO 1 1 m__law_right_k57 (gCons (gVar 5) gNil)))) (qRet (gC (.bool false))) qNx) (qSeq (qPar 6 7 (gCons (gIO 1 0 m__law_ends_k57 gNil) (gCons (gIO 1 0 m__law_ends_k57 gNil) gNil))) (qSeq (qSet 8 (gBin dJoin (gC (.str " ")) (gLc (gItems (gLst (gCons (gCallF 1 m_ride_text (gCons (gVar 6) gNil)) (gCons (gCallF 1 m_ride_text (gCons (gVar 7) gNil)) gNil)))) (sName 9) (gB (gBin dNe (gVar 9) (gC (.str "")))) (gVar 9) [9]))) (qIf (gOr (gB (gBin dNe (gCallF 1 m_ride_text (gCons (gBin dAdd (gVar 6) (gVar 7)) gNil)) (gVar 8))) (gB (gBin dNe (gCallF 1 m_read_ride (gCons (gVar 8) gNil)) (gBin dAdd (gVar 6) (gVar 7))))) (qRet (gC (.bool false))) qNx))))))) (qRet (gC (.bool true)))))
structure Tx (K : PySem.W.Frag) (mg : Str → Option Value) : Prop where
  z_all : mg "all" = none
  z_bool : mg "bool" = none
  z_int : mg "int" = none
  z_isinstance : mg "isinstance" = none
  z_len : mg "len" = none
  z_list : mg "list" = none
  z_max : mg "max" = none
  z_min : mg "min" = none
  z_range : mg "range" = none
  z_str : mg "str" = none
  z_tuple : mg "tuple" = none
  c_FIGURES : ∃ t, mg "FIGURES" = some (.str "0123456789" t)
  c_LETTERS : ∃ t, mg "LETTERS" = some (.str "abcdefghijklmnopqrstuvwxyz" t)
  c_SIDES : ∃ t, mg "SIDES" = some (.int 2 t)
  c_SIGNS : ∃ t, mg "SIGNS" = some (.str "+-" t)
  d__law_reel : DefAt K mg "_law_reel" s__law_reel ["script"]
  d__law_draw : DefAt K mg "_law_draw" s__law_draw ["reel", "many"]
  d__law_net : DefAt K mg "_law_net" s__law_net ["reel", "most"]
  d_is_whole : DefAt K mg "is_whole" s_is_whole ["thing"]
  d_is_row : DefAt K mg "is_row" s_is_row ["thing", "size"]
  d_is_company : DefAt K mg "is_company" s_is_company ["thing"]
  d_is_line_of : DefAt K mg "is_line_of" s_is_line_of ["places", "thing"]
  d_web_of : DefAt K mg "web_of" s_web_of ["places", "lines"]
  d_kept : DefAt K mg "kept" s_kept ["web"]
  d_web_text : DefAt K mg "web_text" s_web_text ["web"]
  d_is_number_word : DefAt K mg "is_number_word" s_is_number_word ["word"]
  d_line_read : DefAt K mg "line_read" s_line_read ["row"]
  d_read_web : DefAt K mg "read_web" s_read_web ["text"]
  d_need_place : DefAt K mg "need_place" s_need_place ["web", "place"]
  d_need_company : DefAt K mg "need_company" s_need_company ["company"]
  d_with_line : DefAt K mg "with_line" s_with_line ["web", "one", "other", "company"]
  d_need_line : DefAt K mg "need_line" s_need_line ["web", "line"]
  d_without_line : DefAt K mg "without_line" s_without_line ["web", "line"]
  d_painted : DefAt K mg "painted" s_painted ["web", "line", "company"]
  d_merged : DefAt K mg "merged" s_merged ["web", "company", "other"]
  d_is_end : DefAt K mg "is_end" s_is_end ["web", "thing"]
  d_need_end : DefAt K mg "need_end" s_need_end ["web", "end"]
  d_loosened : DefAt K mg "loosened" s_loosened ["web", "end"]
  d__law_loose : DefAt K mg "_law_loose" s__law_loose ["rows", "net", "at", "side"]
  d__law_right : DefAt K mg "_law_right" s__law_right ["reel", "net"]
  d__law_ends : DefAt K mg "_law_ends" s__law_ends ["reel"]
  d_end_word : DefAt K mg "end_word" s_end_word ["end"]
  d_ride_text : DefAt K mg "ride_text" s_ride_text ["ride"]
  d_end_of : DefAt K mg "end_of" s_end_of ["word"]
  d_is_end_word : DefAt K mg "is_end_word" s_is_end_word ["word"]
  d_read_ride : DefAt K mg "read_ride" s_read_ride ["text"]
  d_law : DefAt K mg "law" s_law ["script"]
section
variable {P : Program} {w : World} {K : PySem.W.Frag} {mg : Str → Option Value} {base : Heap}
theorem has__law_reel (T : Tx K mg) : Has P w K mg base "_law_reel" 1 ["script"] (spScrN K m__law_reel) := has_scrN T.d__law_reel sc__law_reel (by rfl) (by decide) fun f cdv A outer s H E hr =>
  (ss_cons (s_set 1 sc__law_reel.nd (e_pow e_int e_int)) (ss_cons (s_for PassesOwn.never (i_any (e_scrSl 0 o_none (o_some e_int))) (g_name 2 sc__law_reel.nd) (ss_one (s_set 1 sc__law_reel.nd (e_mod (e_add (e_add (e_mul (e_var 1) (e_var 1)) (e_mod (e_var 2) e_int)) e_int) (e_sub (e_mul (e_pow e_int e_int) (e_pow e_int e_int)) e_int)))) (fun _ => trivial)) (ss_cons (s_setLc (lc1 3 [("cell", 2)] sc__law_reel.nd (i_any (e_scrSl 0 o_none (o_some e_int))) (blkOk_by (N := ["script", "stir", "cell", "great"]) (sc := defScope s__law_reel) (by decide +kernel)) (fun _ _ _ _ _ => (g_name 2 sc__law_reel.nd)) (fun _ _ _ _ _ => (ts_one (t_ge (e_var 2) (e_pow e_int e_int)))) (fun _ _ _ _ _ => (e_sub (e_var 2) (e_pow e_int e_int))))) (ss_one (s_retNew (n_lst (a_cons (e_var 3) (a_cons (e_add (n_lc [("cell", 2)] sc__law_reel.nd (i_any (e_scrSl 0 o_none (o_some e_int))) (blkOk_by (N := ["script", "stir", "cell", "great"]) (sc := defScope s__law_reel) (by decide +kernel)) (fun _ _ _ _ _ => (g_name 2 sc__law_reel.nd)) (fun _ _ _ _ _ => ts_nil) (fun _ _ _ _ _ => (e_mod (e_var 2) e_int))).e (e_lst (a_cons e_int a_nil))) (a_cons e_int (a_cons (e_var 1) a_nil))))))))))
theorem has__law_draw (T : Tx K mg) : Has P w K mg base "_law_draw" 1 ["reel", "many"] (spIO K 1 m__law_draw) := has_io T.d__law_draw sc__law_draw (by rfl) (by decide) fun f cdv A outer s H E hr =>
  (ss_cons (s_if (t_ne hr.units (e_ixO 0 e_int) (e_lst a_nil)) (ss_cons (s_set 2 sc__law_draw.nd (e_ix (e_ixO 0 e_int) e_int)) (ss_cons (s_setO 0 e_int (e_add (e_mul (e_lst (a_cons (e_div (e_var 2) (e_var 1)) a_nil)) (e_intOf T.z_int (a_cons (e_ge (e_var 2) (e_var 1)) a_nil))) (e_sl (e_ixO 0 e_int) (o_some e_int) o_none))) (ss_one (s_ret (e_mod (e_var 2) (e_var 1)))))) ss_nil) (ss_cons (s_setO 0 e_int (e_add (e_ixO 0 e_int) e_int)) (ss_cons (s_set 3 sc__law_draw.nd (e_ix (e_ixO 0 e_int) (e_mod (e_ixO 0 e_int) (e_len T.z_len (a_cons (e_ixO 0 e_int) a_nil))))) (ss_cons (s_set 4 sc__law_draw.nd (e_add (e_add (e_mul (e_ixO 0 e_int) (e_ixO 0 e_int)) (e_mul (e_add (e_var 3) e_int) e_int)) (e_mul (e_ixO 0 e_int) e_int))) (ss_cons (s_setO 0 e_int (e_mod (e_var 4) (e_sub (e_mul (e_pow e_int e_int) (e_pow e_int e_int)) e_int))) (ss_one (s_ret (e_mod (e_div (e_ixO 0 e_int) (e_pow e_int e_int)) (e_var 1)))))))))
theorem has__law_net (T : Tx K mg) : Has P w K mg base "_law_net" 2 ["reel", "most"] (spIO K 1 m__law_net) := has_io T.d__law_net sc__law_net (by rfl) (by decide) fun f cdv A outer s H E hr =>
  (ss_cons (s_set 2 sc__law_net.nd (e_lst (a_cons (e_callHIO 0 (has__law_draw T) (hr.mono (by decide)) (a_cons e_int a_nil)) (a_cons (e_add e_int (e_callHIO 0 (has__law_draw T) (hr.mono (by decide)) (a_cons e_int a_nil))) (a_cons (e_add e_int (e_callHIO 0 (has__law_draw T) (hr.mono (by decide)) (a_cons e_int a_nil))) (a_cons (e_callHIO 0 (has__law_draw T) (hr.mono (by decide)) (a_cons e_int a_nil)) a_nil)))))) (ss_cons (s_set 3 sc__law_net.nd (e_ix (e_var 2) (e_callHIO 0 (has__law_draw T) (hr.mono (by decide)) (a_cons e_int a_nil)))) (ss_cons (s_set 4 sc__law_net.nd (e_ix (e_lst (a_cons (e_callHIO 0 (has__law_draw T) (hr.mono (by decide)) (a_cons e_int a_nil)) (a_cons (e_callHIO 0 (has__law_draw T) (hr.mono (by decide)) (a_cons e_int a_nil)) (a_cons (e_callHIO 0 (has__law_draw T) (hr.mono (by decide)) (a_cons (e_add (e_var 1) e_int) a_nil)) a_nil)))) (e_callHIO 0 (has__law_draw T) (hr.mono (by decide)) (a_cons e_int a_nil)))) (ss_cons (s_set 5 sc__law_net.nd (e_ix (e_lst (a_cons e_str (a_cons e_str (a_cons e_str (a_cons e_str (a_cons e_str (a_cons e_str a_nil))))))) (e_callHIO 0 (has__law_draw T) (hr.mono (by decide)) (a_cons e_int a_nil)))) (ss_cons (s_set 6 sc__law_net.nd (e_add e_int (e_callHIO 0 (has__law_draw T) (hr.mono (by decide)) (a_cons (e_max2 T.z_max (a_cons e_int (a_cons (e_var 3) a_nil))) a_nil)))) (ss_cons (s_own 7 sc__law_net.nd (n_lst a_nil)) (ss_cons (s_for0 PassesOwn.never (i0_range1 T.z_range (a_cons (e_mul (e_min2 T.z_min (a_cons (e_var 4) (a_cons (e_var 1) a_nil))) (e_intOf T.z_int (a_cons (e_gt (e_var 3) e_int) a_nil))) a_nil)) (g_name 8 sc__law_net.nd) (ss_one (s_expr (e_append 7 (e_tup (a_cons (e_callHIO 0 (has__law_draw T) (hr.mono (by decide)) (a_cons (e_var 6) a_nil)) (a_cons (e_callHIO 0 (has__law_draw T) (hr.mono (by decide)) (a_cons (e_var 6) a_nil)) (a_cons (e_ix (e_var 5) (e_callHIO 0 (has__law_draw T) (hr.mono (by decide)) (a_cons (e_len T.z_len (a_cons (e_var 5) a_nil)) a_nil))) a_nil)))))))) (ss_one (s_ret (e_tup (a_cons (e_var 3) (a_cons (e_tuple T.z_tuple (a_cons (e_var 7) a_nil)) a_nil))))))))))))
theorem has_is_whole (T : Tx K mg) : Has P w K mg base "is_whole" 1 ["thing"] (spF K 1 m_is_whole) := has_pure T.d_is_whole sc_is_whole (by rfl) (by decide) fun f cdv A outer s H E hr =>
  (ss_one (s_ret (e_and (e_isi T.z_isinstance T.z_int (by decide +kernel) kit_int (e_var 0)) (e_and (e_not (e_isi T.z_isinstance T.z_bool (by decide +kernel) kit_bool (e_var 0))) (e_one (e_ge (e_var 0) e_int))))))
theorem has_is_row (T : Tx K mg) : Has P w K mg base "is_row" 1 ["thing", "size"] (spF K 2 m_is_row) := has_pure T.d_is_row sc_is_row (by rfl) (by decide) fun f cdv A outer s H E hr =>
  (ss_one (s_ret (e_and (e_isi2 T.z_isinstance T.z_list (by decide +kernel) kit_list T.z_tuple (by decide +kernel) kit_tuple (e_var 0)) (e_one (e_eq hr.units (e_len T.z_len (a_cons (e_var 0) a_nil)) (e_var 1))))))
theorem has_is_company (T : Tx K mg) : Has P w K mg base "is_company" 1 ["thing"] (spF K 1 m_is_company) := has_pure T.d_is_company sc_is_company (by rfl) (by decide) fun f cdv A outer s H E hr =>
  (ss_one (s_ret (e_and (e_isi T.z_isinstance T.z_str (by decide +kernel) kit_str (e_var 0)) (e_and (e_eq hr.units (e_len T.z_len (a_cons (e_var 0) a_nil)) e_int) (e_one (e_in (hu65 hr) (e_var 0) (e_gstrE T.c_LETTERS)))))))
theorem has_is_line_of (T : Tx K mg) : Has P w K mg base "is_line_of" 2 ["places", "thing"] (spF K 2 m_is_line_of) := has_pure T.d_is_line_of sc_is_line_of (by rfl) (by decide) fun f cdv A outer s H E hr =>
  (ss_cons (s_if (t_w (w_or (t_not (t_val (e_callH (has_is_row T) (hr.mono (by decide)) (a_cons (e_var 1) (a_cons e_int a_nil))))) (w_or1 (t_not (t_val (e_callH (has_is_company T) (hr.mono (by decide)) (a_cons (e_ix (e_var 1) e_int) a_nil))))))) (ss_one (s_ret e_bl)) ss_nil) (ss_one (s_ret (e_all T.z_all (a_cons (n_lc [("place", 2)] sc_is_line_of.nd (i_any (e_sl (e_var 1) o_none (o_some e_int))) (blkOk_by (N := ["places", "thing", "place"]) (sc := defScope s_is_line_of) (by decide +kernel)) (fun _ _ _ _ _ => (g_name 2 sc_is_line_of.nd)) (fun _ _ _ _ _ => ts_nil) (fun _ _ _ _ _ => (e_and (e_callH (has_is_whole T) (hr.mono (by decide)) (a_cons (e_var 2) a_nil)) (e_one (e_lt (e_var 2) (e_var 0)))))).e a_nil)))))
theorem has_web_of (T : Tx K mg) : Has P w K mg base "web_of" 3 ["places", "lines"] (spF K 2 m_web_of) := has_pure T.d_web_of sc_web_of (by rfl) (by decide) fun f cdv A outer s H E hr =>
  (ss_cons (s_if (t_w (w_or (t_not (t_val (e_callH (has_is_whole T) (hr.mono (by decide)) (a_cons (e_var 0) a_nil)))) (w_or1 (t_not (t_val (e_isi2 T.z_isinstance T.z_list (by decide +kernel) kit_list T.z_tuple (by decide +kernel) kit_tuple (e_var 1))))))) (ss_one s_never) ss_nil) (ss_cons (s_if (t_not (t_val (e_all T.z_all (a_cons (n_lc [("line", 2)] sc_web_of.nd (i_any (e_var 1)) (blkOk_by (N := ["places", "lines", "line"]) (sc := defScope s_web_of) (by decide +kernel)) (fun _ _ _ _ _ => (g_name 2 sc_web_of.nd)) (fun _ _ _ _ _ => ts_nil) (fun _ _ _ _ _ => (e_callH (has_is_line_of T) (hr.mono (by decide)) (a_cons (e_var 0) (a_cons (e_var 2) a_nil))))).e a_nil)))) (ss_one s_never) ss_nil) (ss_one (s_ret (e_tup (a_cons (e_var 0) (a_cons (e_tuple T.z_tuple (a_cons (n_lc [("line", 2)] sc_web_of.nd (i_any (e_var 1)) (blkOk_by (N := ["places", "lines", "line"]) (sc := defScope s_web_of) (by decide +kernel)) (fun _ _ _ _ _ => (g_name 2 sc_web_of.nd)) (fun _ _ _ _ _ => ts_nil) (fun _ _ _ _ _ => (e_tuple T.z_tuple (a_cons (e_var 2) a_nil)))).e a_nil)) a_nil)))))))
theorem has_kept (T : Tx K mg) : Has P w K mg base "kept" 4 ["web"] (spF K 1 m_kept) := has_pure T.d_kept sc_kept (by rfl) (by decide) fun f cdv A outer s H E hr =>
  (ss_one (s_ret (e_callH (has_web_of T) (hr.mono (by decide)) (a_cons (e_ix (e_var 0) e_int) (a_cons (e_ix (e_var 0) e_int) a_nil)))))
theorem has_web_text (T : Tx K mg) : Has P w K mg base "web_text" 5 ["web"] (spF K 1 m_web_text) := has_pure T.d_web_text sc_web_text (by rfl) (by decide) fun f cdv A outer s H E hr =>
  (ss_cons (s_asg (g_tup (gs_cons (g_name 1 sc_web_text.nd) (gs_cons (g_name 2 sc_web_text.nd) gs_nil))) (e_callH (has_kept T) (hr.mono (by decide)) (a_cons (e_var 0) a_nil))) (ss_cons (s_setLc (lc1 3 [("one", 4), ("other", 5), ("company", 6)] sc_web_text.nd (i_any (e_var 2)) (blkOk_by (N := ["web", "places", "lines", "rows", "one", "other", "company"]) (sc := defScope s_web_text) (by decide +kernel)) (fun _ _ _ _ _ => (g_tup (gs_cons (g_name 4 sc_web_text.nd) (gs_cons (g_name 5 sc_web_text.nd) (gs_cons (g_name 6 sc_web_text.nd) gs_nil))))) (fun _ _ _ _ _ => ts_nil) (fun _ _ _ _ _ => (e_add (e_add (e_add (e_add (e_add e_str (e_strI T.z_str (a_cons (e_var 4) a_nil))) e_str) (e_strI T.z_str (a_cons (e_var 5) a_nil))) e_str) (e_var 6))))) (ss_one (s_ret (e_join e_str (e_add (e_lst (a_cons (e_add e_str (e_strI T.z_str (a_cons (e_var 1) a_nil))) a_nil)) (e_var 3)))))))
theorem has_is_number_word (T : Tx K mg) : Has P w K mg base "is_number_word" 1 ["word"] (spF K 1 m_is_number_word) := has_pure T.d_is_number_word sc_is_number_word (by rfl) (by decide) fun f cdv A outer s H E hr =>
  (ss_one (s_ret (e_or (e_eq hr.units (e_var 0) e_str) (e_one (e_and (e_ne hr.units (e_var 0) e_str) (e_and (e_ne hr.units (e_ix (e_var 0) e_int) e_str) (e_one (e_all T.z_all (a_cons (n_lc [("sign", 1)] sc_is_number_word.nd (i_any (e_var 0)) (blkOk_by (N := ["word", "sign"]) (sc := defScope s_is_number_word) (by decide +kernel)) (fun _ _ _ _ _ => (g_name 1 sc_is_number_word.nd)) (fun _ _ _ _ _ => ts_nil) (fun _ _ _ _ _ => (e_in (hu65 hr) (e_var 1) (e_gstrE T.c_FIGURES)))).e a_nil)))))))))
theorem has_line_read (T : Tx K mg) : Has P w K mg base "line_read" 2 ["row"] (spF K 1 m_line_read) := has_pure T.d_line_read sc_line_read (by rfl) (by decide) fun f cdv A outer s H E hr =>
  (ss_cons (s_asg (g_star1 (gs_cons (g_name 1 sc_line_read.nd) (gs_starred (g_name 2 sc_line_read.nd) gs_nil))) (n_split (e_var 0) e_str).e) (ss_cons (s_if (t_w (w_or (t_ne hr.units (e_var 1) e_str) (w_or (t_ne hr.units (e_len T.z_len (a_cons (e_var 2) a_nil)) e_int) (w_or1 (t_not (t_val (e_callH (has_is_company T) (hr.mono (by decide)) (a_cons (e_ix (e_var 2) e_int) a_nil)))))))) (ss_one (s_ret e_non)) ss_nil) (ss_cons (s_if (t_w (w_or (t_not (t_val (e_callH (has_is_number_word T) (hr.mono (by decide)) (a_cons (e_ix (e_var 2) e_int) a_nil)))) (w_or1 (t_not (t_val (e_callH (has_is_number_word T) (hr.mono (by decide)) (a_cons (e_ix (e_var 2) e_int) a_nil))))))) (ss_one (s_ret e_non)) ss_nil) (ss_one (s_ret (e_tup (a_cons (e_intT T.z_int (a_cons (e_ix (e_var 2) e_int) a_nil)) (a_cons (e_intT T.z_int (a_cons (e_ix (e_var 2) e_int) a_nil)) (a_cons (e_ix (e_var 2) e_int) a_nil)))))))))
theorem has_read_web (T : Tx K mg) : Has P w K mg base "read_web" 4 ["text"] (spF K 1 m_read_web) := has_pure T.d_read_web sc_read_web (by rfl) (by decide) fun f cdv A outer s H E hr =>
  (ss_cons (s_asg (g_star1 (gs_cons (g_name 1 sc_read_web.nd) (gs_starred (g_name 2 sc_read_web.nd) gs_nil))) (e_if (t_val (e_isi T.z_isinstance T.z_str (by decide +kernel) kit_str (e_var 0))) (n_split (e_var 0) e_str).e (e_lst (a_cons e_str a_nil)))) (ss_cons (s_asg (g_tup (gs_cons (g_name 3 sc_read_web.nd) (gs_cons (g_name 4 sc_read_web.nd) (gs_cons (g_name 5 sc_read_web.nd) gs_nil)))) (e_part (e_var 1) e_str)) (ss_cons (s_if (t_w (w_or (t_ne hr.units (e_var 3) e_str) (w_or1 (t_not (t_val (e_callH (has_is_number_word T) (hr.mono (by decide)) (a_cons (e_var 5) a_nil))))))) (ss_one s_never) ss_nil) (ss_cons (s_setLc (lc1 6 [("row", 7)] sc_read_web.nd (i_any (e_var 2)) (blkOk_by (N := ["text", "head", "rows", "word", "blank", "number", "lines", "row"]) (sc := defScope s_read_web) (by decide +kernel)) (fun _ _ _ _ _ => (g_name 7 sc_read_web.nd)) (fun _ _ _ _ _ => ts_nil) (fun _ _ _ _ _ => (e_callH (has_line_read T) (hr.mono (by decide)) (a_cons (e_var 7) a_nil))))) (ss_cons (s_if (t_in (hu65 hr) e_non (e_var 6)) (ss_one s_never) ss_nil) (ss_one (s_ret (e_callH (has_web_of T) (hr.mono (by decide)) (a_cons (e_intT T.z_int (a_cons (e_var 5) a_nil)) (a_cons (e_var 6) a_nil))))))))))
theorem has_need_place (T : Tx K mg) : Has P w K mg base "need_place" 2 ["web", "place"] (spF K 2 m_need_place) := has_pure T.d_need_place sc_need_place (by rfl) (by decide) fun f cdv A outer s H E hr =>
  (ss_one (s_if (t_w (w_or (t_not (t_val (e_callH (has_is_whole T) (hr.mono (by decide)) (a_cons (e_var 1) a_nil)))) (w_or1 (t_ge (e_var 1) (e_ix (e_var 0) e_int))))) (ss_one s_never) ss_nil))
theorem has_need_company (T : Tx K mg) : Has P w K mg base "need_company" 2 ["company"] (spF K 1 m_need_company) := has_pure T.d_need_company sc_need_company (by rfl) (by decide) fun f cdv A outer s H E hr =>
  (ss_one (s_if (t_not (t_val (e_callH (has_is_company T) (hr.mono (by decide)) (a_cons (e_var 0) a_nil)))) (ss_one s_never) ss_nil))
theorem has_with_line (T : Tx K mg) : Has P w K mg base "with_line" 5 ["web", "one", "other", "company"] (spF K 4 m_with_line) := has_pure T.d_with_line sc_with_line (by rfl) (by decide) fun f cdv A outer s H E hr =>
  (ss_cons (s_expr (e_callH (has_need_place T) (hr.mono (by decide)) (a_cons (e_var 0) (a_cons (e_var 1) a_nil)))) (ss_cons (s_expr (e_callH (has_need_place T) (hr.mono (by decide)) (a_cons (e_var 0) (a_cons (e_var 2) a_nil)))) (ss_cons (s_expr (e_callH (has_need_company T) (hr.mono (by decide)) (a_cons (e_var 3) a_nil))) (ss_cons (s_asg (g_tup (gs_cons (g_name 4 sc_with_line.nd) (gs_cons (g_name 5 sc_with_line.nd) gs_nil))) (e_callH (has_kept T) (hr.mono (by decide)) (a_cons (e_var 0) a_nil))) (ss_one (s_ret (e_tup (a_cons (e_var 4) (a_cons (e_add (e_var 5) (e_tup (a_cons (e_tup (a_cons (e_var 1) (a_cons (e_var 2) (a_cons (e_var 3) a_nil)))) a_nil))) a_nil)))))))))
theorem has_need_line (T : Tx K mg) : Has P w K mg base "need_line" 2 ["web", "line"] (spF K 2 m_need_line) := has_pure T.d_need_line sc_need_line (by rfl) (by decide) fun f cdv A outer s H E hr =>
  (ss_one (s_if (t_w (w_or (t_not (t_val (e_callH (has_is_whole T) (hr.mono (by decide)) (a_cons (e_var 1) a_nil)))) (w_or1 (t_ge (e_var 1) (e_len T.z_len (a_cons (e_ix (e_var 0) e_int) a_nil)))))) (ss_one s_never) ss_nil))
theorem has_without_line (T : Tx K mg) : Has P w K mg base "without_line" 5 ["web", "line"] (spF K 2 m_without_line) := has_pure T.d_without_line sc_without_line (by rfl) (by decide) fun f cdv A outer s H E hr =>
  (ss_cons (s_expr (e_callH (has_need_line T) (hr.mono (by decide)) (a_cons (e_var 0) (a_cons (e_var 1) a_nil)))) (ss_cons (s_asg (g_tup (gs_cons (g_name 2 sc_without_line.nd) (gs_cons (g_name 3 sc_without_line.nd) gs_nil))) (e_callH (has_kept T) (hr.mono (by decide)) (a_cons (e_var 0) a_nil))) (ss_one (s_ret (e_tup (a_cons (e_var 2) (a_cons (e_add (e_sl (e_var 3) o_none (o_some (e_var 1))) (e_sl (e_var 3) (o_some (e_add (e_var 1) e_int)) o_none)) a_nil)))))))
theorem has_painted (T : Tx K mg) : Has P w K mg base "painted" 5 ["web", "line", "company"] (spF K 3 m_painted) := has_pure T.d_painted sc_painted (by rfl) (by decide) fun f cdv A outer s H E hr =>
  (ss_cons (s_expr (e_callH (has_need_line T) (hr.mono (by decide)) (a_cons (e_var 0) (a_cons (e_var 1) a_nil)))) (ss_cons (s_expr (e_callH (has_need_company T) (hr.mono (by decide)) (a_cons (e_var 2) a_nil))) (ss_cons (s_asg (g_tup (gs_cons (g_name 3 sc_painted.nd) (gs_cons (g_name 4 sc_painted.nd) gs_nil))) (e_callH (has_kept T) (hr.mono (by decide)) (a_cons (e_var 0) a_nil))) (ss_one (s_ret (e_tup (a_cons (e_var 3) (a_cons (e_add (e_add (e_sl (e_var 4) o_none (o_some (e_var 1))) (e_tup (a_cons (e_add (e_sl (e_ix (e_var 4) (e_var 1)) o_none (o_some e_int)) (e_tup (a_cons (e_var 2) a_nil))) a_nil))) (e_sl (e_var 4) (o_some (e_add (e_var 1) e_int)) o_none)) a_nil))))))))
theorem has_merged (T : Tx K mg) : Has P w K mg base "merged" 5 ["web", "company", "other"] (spF K 3 m_merged) := has_pure T.d_merged sc_merged (by rfl) (by decide) fun f cdv A outer s H E hr =>
  (ss_cons (s_expr (e_callH (has_need_company T) (hr.mono (by decide)) (a_cons (e_var 1) a_nil))) (ss_cons (s_expr (e_callH (has_need_company T) (hr.mono (by decide)) (a_cons (e_var 2) a_nil))) (ss_cons (s_asg (g_tup (gs_cons (g_name 3 sc_merged.nd) (gs_cons (g_name 4 sc_merged.nd) gs_nil))) (e_callH (has_kept T) (hr.mono (by decide)) (a_cons (e_var 0) a_nil))) (ss_one (s_ret (e_tup (a_cons (e_var 3) (a_cons (e_tuple T.z_tuple (a_cons (n_lc [("line", 5)] sc_merged.nd (i_any (e_var 4)) (blkOk_by (N := ["web", "company", "other", "places", "lines", "line"]) (sc := defScope s_merged) (by decide +kernel)) (fun _ _ _ _ _ => (g_name 5 sc_merged.nd)) (fun _ _ _ _ _ => ts_nil) (fun _ _ _ _ _ => (e_add (e_sl (e_var 5) o_none (o_some e_int)) (e_tup (a_cons (e_if (t_eq hr.units (e_ix (e_var 5) e_int) (e_var 1)) (e_var 2) (e_ix (e_var 5) e_int)) a_nil))))).e a_nil)) a_nil))))))))
theorem has_is_end (T : Tx K mg) : Has P w K mg base "is_end" 2 ["web", "thing"] (spF K 2 m_is_end) := has_pure T.d_is_end sc_is_end (by rfl) (by decide) fun f cdv A outer s H E hr =>
  (ss_cons (s_if (t_w (w_or (t_not (t_val (e_callH (has_is_row T) (hr.mono (by decide)) (a_cons (e_var 1) (a_cons e_int a_nil))))) (w_or (t_not (t_val (e_callH (has_is_whole T) (hr.mono (by decide)) (a_cons (e_ix (e_var 1) e_int) a_nil)))) (w_or1 (t_not (t_val (e_callH (has_is_whole T) (hr.mono (by decide)) (a_cons (e_ix (e_var 1) e_int) a_nil)))))))) (ss_one (s_ret e_bl)) ss_nil) (ss_one (s_ret (e_and (e_lt (e_ix (e_var 1) e_int) (e_len T.z_len (a_cons (e_ix (e_var 0) e_int) a_nil))) (e_one (e_lt (e_ix (e_var 1) e_int) (e_gintE T.c_SIDES)))))))
theorem has_need_end (T : Tx K mg) : Has P w K mg base "need_end" 3 ["web", "end"] (spF K 2 m_need_end) := has_pure T.d_need_end sc_need_end (by rfl) (by decide) fun f cdv A outer s H E hr =>
  (ss_cons (s_if (t_not (t_val (e_callH (has_is_end T) (hr.mono (by decide)) (a_cons (e_var 0) (a_cons (e_var 1) a_nil))))) (ss_one s_never) ss_nil) (ss_one (s_ret (e_tup (a_cons (e_ix (e_var 1) e_int) (a_cons (e_ix (e_var 1) e_int) a_nil))))))
theorem has_loosened (T : Tx K mg) : Has P w K mg base "loosened" 5 ["web", "end"] (spF K 2 m_loosened) := has_pure T.d_loosened sc_loosened (by rfl) (by decide) fun f cdv A outer s H E hr =>
  (ss_cons (s_asg (g_tup (gs_cons (g_name 2 sc_loosened.nd) (gs_cons (g_name 3 sc_loosened.nd) gs_nil))) (e_callH (has_need_end T) (hr.mono (by decide)) (a_cons (e_var 0) (a_cons (e_var 1) a_nil)))) (ss_cons (s_asg (g_tup (gs_cons (g_name 4 sc_loosened.nd) (gs_cons (g_name 5 sc_loosened.nd) gs_nil))) (e_callH (has_kept T) (hr.mono (by decide)) (a_cons (e_var 0) a_nil))) (ss_cons (s_setLc (lc1 6 [("at", 7)] sc_loosened.nd (i_range1 T.z_range (a_cons (e_gintE T.c_SIDES) a_nil)) (blkOk_by (N := ["web", "end", "line", "side", "places", "lines", "ends", "at"]) (sc := defScope s_loosened) (by decide +kernel)) (fun _ _ _ _ _ => (g_name 7 sc_loosened.nd)) (fun _ _ _ _ _ => ts_nil) (fun _ _ _ _ _ => (e_if (t_eq hr.units (e_var 7) (e_var 3)) (e_var 4) (e_ix (e_ix (e_var 5) (e_var 2)) (e_var 7)))))) (ss_one (s_ret (e_tup (a_cons (e_add (e_var 4) e_int) (a_cons (e_add (e_add (e_sl (e_var 5) o_none (o_some (e_var 2))) (e_tup (a_cons (e_tup (a_cons (e_ix (e_var 6) e_int) (a_cons (e_ix (e_var 6) e_int) (a_cons (e_ix (e_ix (e_var 5) (e_var 2)) e_int) a_nil)))) a_nil))) (e_sl (e_var 5) (o_some (e_add (e_var 2) e_int)) o_none)) a_nil))))))))
theorem has__law_loose (T : Tx K mg) : Has P w K mg base "_law_loose" 1 ["rows", "net", "at", "side"] (spF K 4 m__law_loose) := has_pure T.d__law_loose sc__law_loose (by rfl) (by decide) fun f cdv A outer s H E hr =>
  (ss_cons (s_own 4 sc__law_loose.nd (n_split (e_ix (e_var 0) (e_add (e_var 2) e_int)) e_str)) (ss_cons (s_setO 4 (e_add e_int (e_var 3)) (e_strI T.z_str (a_cons (e_ix (e_var 1) e_int) a_nil))) (ss_cons (s_set 5 sc__law_loose.nd (e_add (e_lst (a_cons (e_add e_str (e_strI T.z_str (a_cons (e_add (e_ix (e_var 1) e_int) e_int) a_nil))) a_nil)) (e_sl (e_var 0) (o_some e_int) (o_some (e_add (e_var 2) e_int))))) (ss_one (s_ret (e_add (e_add (e_var 5) (e_lst (a_cons (e_join e_str (e_var 4)) a_nil))) (e_sl (e_var 0) (o_some (e_add (e_var 2) e_int)) o_none)))))))
theorem has__law_right (T : Tx K mg) : Has P w K mg base "_law_right" 6 ["reel", "net"] (spIO K 1 m__law_right_k57) := has_io T.d__law_right sc__law_right (by rfl) (by decide) fun f cdv A outer s H E hr =>
  (ss_cons (s_asg (g_tup (gs_cons (g_name 2 sc__law_right.nd) (gs_cons (g_name 3 sc__law_right.nd) gs_nil))) (e_var 1)) (ss_cons (s_set 4 sc__law_right.nd (n_split (e_callH (has_web_text T) (hr.mono (by decide)) (a_cons (e_var 1) a_nil)) e_str).e) (ss_cons (s_par 5 6 sc__law_right.nd (a_cons (e_callHIO 0 (has__law_draw T) (hr.mono (by decide)) (a_cons (e_var 2) a_nil)) (a_cons (e_callHIO 0 (has__law_draw T) (hr.mono (by decide)) (a_cons (e_var 2) a_nil)) a_nil))) (ss_cons (s_asg (g_tup (gs_cons (g_name 7 sc__law_right.nd) (gs_cons (g_name 8 sc__law_right.nd) gs_nil))) (e_tup (a_cons (e_ix e_str (e_callHIO 0 (has__law_draw T) (hr.mono (by decide)) (a_cons e_int a_nil))) (a_cons (e_ix e_str (e_callHIO 0 (has__law_draw T) (hr.mono (by decide)) (a_cons e_int a_nil))) a_nil)))) (ss_cons (s_par 9 10 sc__law_right.nd (a_cons (e_callHIO 0 (has__law_draw T) (hr.mono (by decide)) (a_cons (e_len T.z_len (a_cons (e_var 3) a_nil)) a_nil)) (a_cons (e_callHIO 0 (has__law_draw T) (hr.mono (by decide)) (a_cons e_int a_nil)) a_nil))) (ss_cons (s_set 11 sc__law_right.nd (e_join e_str (e_lst (a_cons e_str (a_cons (e_strI T.z_str (a_cons (e_var 5) a_nil)) (a_cons (e_strI T.z_str (a_cons (e_var 6) a_nil)) (a_cons (e_var 7) a_nil))))))) (ss_cons (s_own 12 sc__law_right.nd (n_lst (a_cons (e_tup (a_cons (e_callH (has_with_line T) (hr.mono (by decide)) (a_cons (e_var 1) (a_cons (e_var 5) (a_cons (e_var 6) (a_cons (e_var 7) a_nil))))) (a_cons (e_add (e_var 4) (e_lst (a_cons (e_var 11) a_nil))) a_nil))) a_nil))) (ss_cons (s_expr (e_append 12 (e_tup (a_cons (e_callH (has_without_line T) (hr.mono (by decide)) (a_cons (e_var 1) (a_cons (e_var 9) a_nil))) (a_cons (e_add (e_sl (e_var 4) o_none (o_some (e_add (e_var 9) e_int))) (e_sl (e_var 4) (o_some (e_add (e_var 9) e_int)) o_none)) a_nil))))) (ss_cons (s_expr (e_append 12 (e_tup (a_cons (e_callH (has_painted T) (hr.mono (by decide)) (a_cons (e_var 1) (a_cons (e_var 9) (a_cons (e_var 7) a_nil)))) (a_cons (e_add (e_add (e_sl (e_var 4) o_none (o_some (e_add (e_var 9) e_int))) (e_lst (a_cons (e_add (e_sl (e_ix (e_var 4) (e_add (e_var 9) e_int)) o_none (o_some (e_neg e_int))) (e_var 7)) a_nil))) (e_sl (e_var 4) (o_some (e_add (e_var 9) e_int)) o_none)) a_nil))))) (ss_cons (s_set 13 sc__law_right.nd (e_add (e_lst (a_cons (e_ix (e_var 4) e_int) a_nil)) (n_lc [("row", 16)] sc__law_right.nd (i_any (e_sl (e_var 4) (o_some e_int) o_none)) (blkOk_by (N := ["reel", "net", "places", "lines", "rows", "spot", "other", "letter", "more", "at", "side", "new", "pairs", "due", "one", "text", "row"]) (sc := defScope s__law_right) (by decide +kernel)) (fun _ _ _ _ _ => (g_name 16 sc__law_right.nd)) (fun _ _ _ _ _ => ts_nil) (fun _ _ _ _ _ => (e_add (e_sl (e_var 16) o_none (o_some (e_neg e_int))) (e_ix (e_lst (a_cons (e_ix (e_var 16) (e_neg e_int)) (a_cons (e_var 8) a_nil))) (e_intOf T.z_int (a_cons (e_eq hr.units (e_ix (e_var 16) (e_neg e_int)) (e_var 7)) a_nil)))))).e)) (ss_cons (s_expr (e_append 12 (e_tup (a_cons (e_callH (has_merged T) (hr.mono (by decide)) (a_cons (e_var 1) (a_cons (e_var 7) (a_cons (e_var 8) a_nil)))) (a_cons (e_var 13) a_nil))))) (ss_cons (s_expr (e_append 12 (e_tup (a_cons (e_callH (has_loosened T) (hr.mono (by decide)) (a_cons (e_var 1) (a_cons (e_tup (a_cons (e_var 9) (a_cons (e_var 10) a_nil))) a_nil))) (a_cons (e_callH (has__law_loose T) (hr.mono (by decide)) (a_cons (e_var 4) (a_cons (e_var 1) (a_cons (e_var 9) (a_cons (e_var 10) a_nil))))) a_nil))))) (ss_cons (s_for PassesOwn.never (i_any (e_var 12)) (g_tup (gs_cons (g_name 14 sc__law_right.nd) (gs_cons (g_name 13 sc__law_right.nd) gs_nil))) (ss_cons (s_set 15 sc__law_right.nd (e_callH (has_web_text T) (hr.mono (by decide)) (a_cons (e_var 14) a_nil))) (ss_one (s_if (t_w (w_or (t_ne hr.units (e_var 15) (e_join e_str (e_var 13))) (w_or (t_ne hr.units (e_callH (has_read_web T) (hr.mono (by decide)) (a_cons (e_var 15) a_nil)) (e_var 14)) (w_or1 (t_ne hr.units (e_eq hr.units (e_var 15) (e_join e_str (e_var 4))) (e_eq hr.units (e_var 14) (e_var 1))))))) (ss_one (s_ret e_bl)) ss_nil))) (fun _ => trivial)) (ss_one (s_ret (e_eq hr.units (e_callH (has_read_web T) (hr.mono (by decide)) (a_cons (e_join e_str (e_var 4)) a_nil)) (e_var 1)))))))))))))))))
theorem has__law_ends (T : Tx K mg) : Has P w K mg base "_law_ends" 2 ["reel"] (spIO K 0 m__law_ends_k57) := has_io T.d__law_ends sc__law_ends (by rfl) (by decide) fun f cdv A outer s H E hr =>
  (ss_one (s_ret (n_lc [("lap", 1)] sc__law_ends.nd (i_range1 T.z_range (a_cons (e_callHIO 0 (has__law_draw T) (hr.mono (by decide)) (a_cons e_int a_nil)) a_nil)) (blkOk_by (N := ["reel", "lap"]) (sc := defScope s__law_ends) (by decide +kernel)) (fun _ _ _ _ _ => (g_name 1 sc__law_ends.nd)) (fun _ _ _ _ _ => ts_nil) (fun _ _ _ _ _ => (e_tup (a_cons (e_callHIO 0 (has__law_draw T) (hr.mono (by decide)) (a_cons e_int a_nil)) (a_cons (e_callHIO 0 (has__law_draw T) (hr.mono (by decide)) (a_cons e_int a_nil)) a_nil))))).e))
theorem has_end_word (T : Tx K mg) : Has P w K mg base "end_word" 1 ["end"] (spF K 1 m_end_word) := has_pure T.d_end_word sc_end_word (by rfl) (by decide) fun f cdv A outer s H E hr =>
  (ss_one (s_ret (e_add (e_strI T.z_str (a_cons (e_ix (e_var 0) e_int) a_nil)) (e_ix (e_gstrE T.c_SIGNS) (e_ix (e_var 0) e_int)))))
theorem has_ride_text (T : Tx K mg) : Has P w K mg base "ride_text" 2 ["ride"] (spF K 1 m_ride_text) := has_pure T.d_ride_text sc_ride_text (by rfl) (by decide) fun f cdv A outer s H E hr =>
  (ss_one (s_ret (e_join e_str (n_lc [("end", 1)] sc_ride_text.nd (i_any (e_var 0)) (blkOk_by (N := ["ride", "end"]) (sc := defScope s_ride_text) (by decide +kernel)) (fun _ _ _ _ _ => (g_name 1 sc_ride_text.nd)) (fun _ _ _ _ _ => ts_nil) (fun _ _ _ _ _ => (e_callH (has_end_word T) (hr.mono (by decide)) (a_cons (e_var 1) a_nil)))).e)))
theorem has_end_of (T : Tx K mg) : Has P w K mg base "end_of" 1 ["word"] (spF K 1 m_end_of) := has_pure T.d_end_of sc_end_of (by rfl) (by decide) fun f cdv A outer s H E hr =>
  (ss_one (s_ret (e_tup (a_cons (e_intT T.z_int (a_cons (e_sl (e_var 0) o_none (o_some (e_neg e_int))) a_nil)) (a_cons (e_sindex (e_gstrE T.c_SIGNS) (e_ix (e_var 0) (e_neg e_int))) a_nil)))))
theorem has_is_end_word (T : Tx K mg) : Has P w K mg base "is_end_word" 2 ["word"] (spF K 1 m_is_end_word) := has_pure T.d_is_end_word sc_is_end_word (by rfl) (by decide) fun f cdv A outer s H E hr =>
  (ss_one (s_ret (e_and (e_callH (has_is_number_word T) (hr.mono (by decide)) (a_cons (e_sl (e_var 0) o_none (o_some (e_neg e_int))) a_nil)) (e_one (e_in (hu65 hr) (e_ix (e_var 0) (e_neg e_int)) (e_gstrE T.c_SIGNS))))))
theorem has_read_ride (T : Tx K mg) : Has P w K mg base "read_ride" 3 ["text"] (spF K 1 m_read_ride) := has_pure T.d_read_ride sc_read_ride (by rfl) (by decide) fun f cdv A outer s H E hr =>
  (ss_cons (s_if (t_eq hr.units (e_var 0) e_str) (ss_one (s_ret (e_lst a_nil))) ss_nil) (ss_cons (s_set 1 sc_read_ride.nd (e_if (t_val (e_isi T.z_isinstance T.z_str (by decide +kernel) kit_str (e_var 0))) (n_split (e_var 0) e_str).e (e_lst (a_cons e_str a_nil)))) (ss_cons (s_if (t_not (t_val (e_all T.z_all (a_cons (n_lc [("word", 2)] sc_read_ride.nd (i_any (e_var 1)) (blkOk_by (N := ["text", "words", "word"]) (sc := defScope s_read_ride) (by decide +kernel)) (fun _ _ _ _ _ => (g_name 2 sc_read_ride.nd)) (fun _ _ _ _ _ => ts_nil) (fun _ _ _ _ _ => (e_and (e_ne hr.units (e_var 2) e_str) (e_one (e_callH (has_is_end_word T) (hr.mono (by decide)) (a_cons (e_var 2) a_nil)))))).e a_nil)))) (ss_one s_never) ss_nil) (ss_one (s_ret (n_lc [("word", 2)] sc_read_ride.nd (i_any (e_var 1)) (blkOk_by (N := ["text", "words", "word"]) (sc := defScope s_read_ride) (by decide +kernel)) (fun _ _ _ _ _ => (g_name 2 sc_read_ride.nd)) (fun _ _ _ _ _ => ts_nil) (fun _ _ _ _ _ => (e_callH (has_end_of T) (hr.mono (by decide)) (a_cons (e_var 2) a_nil)))).e)))))
theorem law_body (T : Tx K mg) : Body P w K mg base ["script", "reel", "k", "places", "lines", "net", "one", "other", "both_texts", "text"] "law" s_law 6 AnyB g_law := fun f cdv A outer s H E hr =>
  (ss_cons (s_own 1 sc_law.nd (n_callScr 0 (has__law_reel T) (hr.mono (by decide)))) (ss_cons (s_for0 PassesOwn.never (i0_range1 T.z_range (a_cons (e_add e_int (e_min2 T.z_min (a_cons (e_scrLen 0 T.z_len) (a_cons e_int a_nil)))) a_nil)) (g_name 2 sc_law.nd) (ss_cons (s_asg (g_tup (gs_cons (g_name 3 sc_law.nd) (gs_cons (g_name 4 sc_law.nd) gs_nil))) (e_callHIO 1 (has__law_net T) (hr.mono (by decide)) (a_cons e_int a_nil))) (ss_cons (s_set 5 sc_law.nd (e_tup (a_cons (e_max2 T.z_max (a_cons e_int (a_cons (e_var 3) a_nil))) (a_cons (e_if (t_ne hr.units (e_var 4) (e_tup a_nil)) (e_var 4) (e_tup (a_cons (e_tup (a_cons e_int (a_cons e_int (a_cons e_str a_nil)))) a_nil))) a_nil)))) (ss_cons (s_if (t_not (t_val (e_callHIO 1 (has__law_right T) (hr.mono (by decide)) (a_cons (e_var 5) a_nil)))) (ss_one (s_ret e_bl)) ss_nil) (ss_cons (s_par 6 7 sc_law.nd (a_cons (e_callHIO 1 (has__law_ends T) (hr.mono (by decide)) a_nil) (a_cons (e_callHIO 1 (has__law_ends T) (hr.mono (by decide)) a_nil) a_nil))) (ss_cons (s_set 8 sc_law.nd (e_join e_str (n_lc [("text", 9)] sc_law.nd (i_any (e_lst (a_cons (e_callH (has_ride_text T) (hr.mono (by decide)) (a_cons (e_var 6) a_nil)) (a_cons (e_callH (has_ride_text T) (hr.mono (by decide)) (a_cons (e_var 7) a_nil)) a_nil)))) (blkOk_by (N := ["script", "reel", "k", "places", "lines", "net", "one", "other", "both_texts", "text"]) (sc := defScope s_law) (by decide +kernel)) (fun _ _ _ _ _ => (g_name 9 sc_law.nd)) (fun _ _ _ _ _ => (ts_one (t_ne hr.units (e_var 9) e_str))) (fun _ _ _ _ _ => (e_var 9))).e)) (ss_one (s_if (t_w (w_or (t_ne hr.units (e_callH (has_ride_text T) (hr.mono (by decide)) (a_cons (e_add (e_var 6) (e_var 7)) a_nil)) (e_var 8)) (w_or1 (t_ne hr.units (e_callH (has_read_ride T) (hr.mono (by decide)) (a_cons (e_var 8) a_nil)) (e_add (e_var 6) (e_var 7)))))) (ss_one (s_ret e_bl)) ss_nil)))))))) (ss_one (s_ret e_bl))))
end
end Lw.k57

set_option maxHeartbeats 4000000
namespace Lw.k57
open PySem Fu Lw
local macro_rules | `(tactic| walk_at "e1") => `(tactic| first
  | with_reducible refine eo_seq ?_ | (with_reducible refine then_nx' ?_; refine ⟨?_, ?_, ?_⟩; rotate_left; · (try dsimp only [List.set, List.length_cons, List.length_nil, List.cons_append, List.nil_append, Nat.zero_add, Nat.reduceAdd]); exact rfl) | with_reducible refine then_rt ?_ | with_reducible refine eo_if ?_ | with_reducible refine eo_ret ?_ | with_reducible refine eo_set ?_ | with_reducible refine eo_asg ?_ | with_reducible refine eo_drop ?_ | with_reducible refine eo_nx ?_ | with_reducible refine eo_par ?_ | with_reducible refine eo_own ?_ | with_reducible refine eo_retN ?_ | with_reducible refine eo_for ?_ | with_reducible refine eo_retO ?_
  | with_reducible refine ev_c ?_ | (with_reducible refine ev_var ?_; refine ⟨_, rfl, ?_⟩) | with_reducible refine ev_bin ?_ | with_reducible refine ev_un ?_ | with_reducible refine ev_nil ?_ | with_reducible refine ev_cons ?_
  | with_reducible refine ev_tup ?_ | with_reducible refine ev_lst ?_ | with_reducible refine ev_call ?_ | with_reducible refine ev_callF ?_ | with_reducible refine ev_isi ?_ | with_reducible refine ev_isi2 ?_ | with_reducible refine ev_andV ?_ | with_reducible refine ev_orV ?_ | with_reducible refine ev_notV ?_
  | with_reducible refine ev_B ?_ | with_reducible refine ev_and ?_ | with_reducible refine ev_or ?_ | with_reducible refine ev_not ?_ | with_reducible refine ev_yes ?_ | with_reducible refine ev_if ?_ | with_reducible refine ev_no ?_ | with_reducible refine ev_so ?_ | with_reducible refine ev_sl ?_ | with_reducible refine ev_items ?_
  | (with_reducible refine ev_ixO ?_; refine ⟨_, _, rfl, rfl, ?_⟩) | (with_reducible refine ev_varO ?_; refine ⟨_, _, rfl, rfl, ?_⟩) | (with_reducible refine ev_lenO ?_; refine ⟨_, _, rfl, rfl, ?_⟩) | (with_reducible refine ev_scrSl ?_; refine ⟨_, rfl, ?_⟩) | (with_reducible refine ev_scrLen ?_; refine ⟨_, rfl, ?_⟩) | (with_reducible refine ev_callScr ?_; refine ⟨_, rfl, ?_⟩) | (with_reducible refine ev_OL ?_; refine ⟨_, _, rfl, rfl, ?_⟩) | with_reducible refine ev_OR ?_ | with_reducible refine ev_rep ?_ | with_reducible refine ev_listRng1 ?_ | with_reducible refine eo_setO ?_
  | with_reducible refine es_name ?_ | with_reducible refine es_tup2 ?_ | with_reducible refine es_tup3 ?_
  | with_reducible refine ed_addI ?_ | with_reducible refine ed_subI ?_ | with_reducible refine ed_cmp ?_ | with_reducible refine ed_eqI ?_ | with_reducible refine ed_neI ?_ | with_reducible refine ed_slT ?_ | with_reducible refine ed_slL ?_ | with_reducible refine ed_lenT ?_ | with_reducible refine ed_lenL ?_ | with_reducible refine ed_lenS ?_ | with_reducible refine ed_inS ?_ | with_reducible refine ed_itT ?_ | with_reducible refine ed_itL ?_ | with_reducible refine ed_tupL ?_ | with_reducible refine ed_tupT ?_ | with_reducible refine ed_listL ?_ | with_reducible refine ed_listT ?_ | with_reducible refine ed_neg ?_ | with_reducible refine ed_max ?_ | with_reducible refine ed_min ?_ | with_reducible refine ed_intB ?_
  | with_reducible refine ev_rng1 ?_ | with_reducible refine ev_rng2 ?_)
local macro_rules | `(tactic| walk_at "sd") => `(tactic| first | rfl | assumption | (simp only [decide_eq_true_eq, decide_eq_false_iff_not, Bool.not_eq_true', Bool.not_eq_false', Bool.and_eq_true, Bool.or_eq_true, List.length_map, List.length_cons, List.length_nil, List.length_append, List.length_range] at *; omega))
local macro_rules | `(tactic| walk_at "e2") => `(tactic| first
  | walk_at "e1" | with_reducible refine ⟨_, rfl, ?_⟩ | with_reducible refine ⟨_, _, rfl, ?_⟩
  | with_reducible refine And.intro (Eq.refl (List.length _)) ?_ | with_reducible refine And.intro (Nat.le_of_ble_eq_true (n := List.length _) rfl) ?_
  | with_reducible refine And.intro (Eq.refl (_ : Sx)) (?_ : Ed _ _)
  | ((with_reducible refine And.intro ?_ (And.intro ?_ (?_ : Ev _ _))); (· rfl); (· rfl))
  | ((with_reducible refine ed_ixTx ?_); refine ⟨_, by decide, rfl, ?_⟩) | ((with_reducible refine ed_ixLx ?_); refine ⟨_, by decide, rfl, ?_⟩) | ((with_reducible refine es_star ?_))
  | with_reducible refine an_tt ?_ | with_reducible refine an_ft ?_ | with_reducible refine an_tf ?_ | with_reducible refine an_ff ?_ | with_reducible refine an_ntt ?_ | with_reducible refine an_nft ?_ | with_reducible refine an_ntf ?_ | with_reducible refine an_nff ?_
  | ((with_reducible refine ed_dneSelf ?_)) | ((with_reducible refine ed_deqSelf ?_))
  | ((with_reducible refine ed_ixT ?_ ?_ ?_); (· decide); (· rfl)) | ((with_reducible refine ed_ixL ?_ ?_ ?_); (· decide); (· rfl)) | ((with_reducible refine ed_at ?_ ?_ ?_); (· decide); (· rfl))
  | ((with_reducible refine ed_modI ?_ ?_); (· first | decide | omega))
  | with_reducible exact gives_nx | ((with_reducible refine gives_rt ?_); (· rfl)) | ((with_reducible refine And.intro ?_ ?_); (· exact rfl); (· with_reducible exact Eq.refl (_ : Sx))))
local macro_rules | `(tactic| walk_at "e") => `(tactic| repeat walk_at "e2")
/-- begin a def's spec -/
local macro_rules | `(tactic| walk_at "i") => `(tactic| simp only [initS, List.map_cons, List.map_nil, List.length_cons, List.length_nil, Nat.reduceAdd, Nat.reduceSub, List.replicate, List.cons_append, List.nil_append])
/-- a known truth decides -/
local macro_rules | `(tactic| walk_at "t") => `(tactic| first | ((with_reducible refine split_t ?_ ?_); (· walk_at "sd")) | ((with_reducible refine split_t' ?_ ?_); (· walk_at "sd")))
local macro_rules | `(tactic| walk_at "f") => `(tactic| first | ((with_reducible refine split_f ?_ ?_); (· walk_at "sd")) | ((with_reducible refine split_f' ?_ ?_); (· walk_at "sd")))
/-- all that is seen in a look -/
local macro_rules | `(tactic| walk_at "v") => `(tactic| (rw [sealAll_mk (by (simp only [List.set_cons_zero, List.set_cons_succ, List.map_cons, List.map_nil, sealS_none, sealS_dat, sealS_scr, sealS_own, List.getElem?_cons_zero, List.getElem?_cons_succ, sealC_lst]; rfl)) (by (simp only [List.set_cons_zero, List.set_cons_succ, List.map_cons, List.map_nil]; rfl))]))
open Rl
theorem law_true : ∀ ns : List Int, ns.length ≤ 63 → mScr 10 g_law ns = some (.bool true) := by
  intro ns hns
  refine mScr_of ?_; walk_at "i"; unfold g_law
  walk_at "e"
  obtain ⟨cs, e, hR⟩ := x_reel hns
  refine Ed.of e ?_
  walk_at "e"
  refine ⟨by omega, by omega, ?_⟩
  refine eo_loop (fun i S => ∃ x2 x3 x4 x5 x6 x7 x8 cs, S = ⟨[some (.scr ns), some (.own 0), x2, x3, x4, x5, x6, x7, x8, none], [some (.lst cs)]⟩ ∧ Reel (4294967296 - 1000 * i) cs) ⟨_, _, _, _, _, _, _, _, rfl, hR⟩ ?_ ?_
  · rintro i z S hz ⟨x2, x3, x4, x5, x6, x7, x8, cs, rfl, hR⟩
    obtain ⟨hi, rfl⟩ := rng_at hz
    walk_at "e"
    refine ev_IO ⟨_, rfl, ?_⟩
    walk_at "e"
    obtain ⟨d, cs', e, p, ls, rfl, hw, p1, l1, hR⟩ := x__law_net (most := 58) (by decide) (by decide) hR (by omega)
    refine ⟨_, _, e, ?_⟩
    unfold wb
    walk_at "e"
    refine ed_ne_good (good_lns hw.all) (good_tup_le (n := 1) (m := 0) (ds := []) (fun _ h => nomatch h) (by decide)) (fun e => ?_) (fun e => ?_)
    · walk_at "e"
      have ok := (show WbOk (max 1 p) [(0, 0, 97)] ∧ 0 < max 1 p ∧ 0 < ([(0, 0, 97)] : List Ln).length ∧ ([(0, 0, 97)] : List Ln).length ≤ 58 from ⟨⟨by omega, fun l hl => by
              rw [List.mem_singleton.mp hl]
              exact ⟨by decide, by simp only; omega, by decide, by simp only; omega, by decide⟩, by decide⟩, by omega, by decide, by decide⟩)
      refine ev_IO ⟨_, rfl, ?_⟩
      walk_at "e"
      obtain ⟨z, cs, e, rfl, hR⟩ := x__law_right_k57 (p := max 1 p) (ls := [(0, 0, 97)]) ok.1 ok.2.1 (by omega) ok.2.2.1 (by have := ok.2.2.2; omega) hR (by omega)
      refine ⟨_, _, e, ?_⟩
      walk_at "e"
      refine ev_IO ⟨_, rfl, ?_⟩
      walk_at "e"
      obtain ⟨d, cs, e, es, rfl, hes, hle, hR⟩ := x__law_ends hR (by omega)
      refine ⟨_, _, e, ?_⟩
      walk_at "e"
      refine ev_IO ⟨_, rfl, ?_⟩
      walk_at "e"
      obtain ⟨d, cs, e, fs, rfl, hfs, hlf, hR⟩ := x__law_ends hR (by omega)
      refine ⟨_, _, e, ?_⟩
      walk_at "e"
      refine ev_lcX (xs := [rideT es, rideT fs]) (enc := .str) (b := fun t => !decide (t = Str.ofString "")) (g := .str) ?_
      walk_at "e"
      refine Ed.of (x_ride_text (ride_lE es) hes (by omega)) ?_
      walk_at "e"
      refine Ed.of (x_ride_text (ride_lE fs) hfs (by omega)) ?_
      walk_at "e"
      refine ⟨rfl, fun t ht => ?_, ?_⟩
      · walk_at "e"
        refine Ed.of (dNe_str _ _) ?_
        refine ⟨_, rfl, rfl, rfl, fun _ => ?_⟩
        walk_at "e"
      have hef : ∀ e ∈ es ++ fs, EndW e := fun e he => by
        rcases List.mem_append.mp he with he | he
        · exact hes e he
        · exact hfs e he
      have hlen : ∀ y ∈ [rideT es, rideT fs].filter (fun t => !decide (t = Str.ofString "")), y.length ≤ 1000 := fun y hy => by
        have hy := (List.mem_filter.mp hy).1
        simp only [List.mem_cons, List.not_mem_nil, or_false] at hy
        rcases hy with rfl | rfl
        · exact rideT_len hes (by omega)
        · exact rideT_len hfs (by omega)
      have hfl : ([rideT es, rideT fs].filter (fun t => !decide (t = Str.ofString ""))).length ≤ 2 := List.length_filter_le _ _
      refine ed_join hlen (by rw [sp_len]; omega) ?_
      rw [ride_both hes hfs]
      unfold lE
      walk_at "e"
      refine ed_addL (by simp; omega) ?_
      rw [← List.map_append]
      walk_at "e"
      refine Ed.of (x_ride_text (ride_lE (es ++ fs)) hef (by simp; omega)) ?_
      walk_at "e"
      refine Ed.of (x_read_ride hef (by simp; omega)) ?_
      walk_at "e"
      refine ed_addL (by simp; omega) ?_
      rw [← List.map_append]
      refine dNe_goodS (n := 2) (good_list fun d hd => ?_) ?_
      · obtain ⟨e, _, rfl⟩ := List.mem_map.mp hd
        exact good_en e
      walk_at "e"
      exact ⟨_, _, _, _, _, _, _, _, rfl, hR.mono (by omega)⟩
    · walk_at "e"
      have ok := (show WbOk (max 1 p) ls ∧ 0 < max 1 p ∧ 0 < ls.length ∧ ls.length ≤ 58 from ⟨⟨by omega, fun l hl => by
              have := hw.all l hl
              exact ⟨this.a0, by have := this.a1; omega, this.b0, by have := this.b1; omega, this.c⟩, hw.len⟩, by omega, by
              cases ls with
              | nil => exact absurd rfl e
              | cons l ls => simp, by omega⟩)
      refine ev_IO ⟨_, rfl, ?_⟩
      walk_at "e"
      obtain ⟨z, cs, e, rfl, hR⟩ := x__law_right_k57 (p := max 1 p) (ls := ls) ok.1 ok.2.1 (by omega) ok.2.2.1 (by have := ok.2.2.2; omega) hR (by omega)
      refine ⟨_, _, e, ?_⟩
      walk_at "e"
      refine ev_IO ⟨_, rfl, ?_⟩
      walk_at "e"
      obtain ⟨d, cs, e, es, rfl, hes, hle, hR⟩ := x__law_ends hR (by omega)
      refine ⟨_, _, e, ?_⟩
      walk_at "e"
      refine ev_IO ⟨_, rfl, ?_⟩
      walk_at "e"
      obtain ⟨d, cs, e, fs, rfl, hfs, hlf, hR⟩ := x__law_ends hR (by omega)
      refine ⟨_, _, e, ?_⟩
      walk_at "e"
      refine ev_lcX (xs := [rideT es, rideT fs]) (enc := .str) (b := fun t => !decide (t = Str.ofString "")) (g := .str) ?_
      walk_at "e"
      refine Ed.of (x_ride_text (ride_lE es) hes (by omega)) ?_
      walk_at "e"
      refine Ed.of (x_ride_text (ride_lE fs) hfs (by omega)) ?_
      walk_at "e"
      refine ⟨rfl, fun t ht => ?_, ?_⟩
      · walk_at "e"
        refine Ed.of (dNe_str _ _) ?_
        refine ⟨_, rfl, rfl, rfl, fun _ => ?_⟩
        walk_at "e"
      have hef : ∀ e ∈ es ++ fs, EndW e := fun e he => by
        rcases List.mem_append.mp he with he | he
        · exact hes e he
        · exact hfs e he
      have hlen : ∀ y ∈ [rideT es, rideT fs].filter (fun t => !decide (t = Str.ofString "")), y.length ≤ 1000 := fun y hy => by
        have hy := (List.mem_filter.mp hy).1
        simp only [List.mem_cons, List.not_mem_nil, or_false] at hy
        rcases hy with rfl | rfl
        · exact rideT_len hes (by omega)
        · exact rideT_len hfs (by omega)
      have hfl : ([rideT es, rideT fs].filter (fun t => !decide (t = Str.ofString ""))).length ≤ 2 := List.length_filter_le _ _
      refine ed_join hlen (by rw [sp_len]; omega) ?_
      rw [ride_both hes hfs]
      unfold lE
      walk_at "e"
      refine ed_addL (by simp; omega) ?_
      rw [← List.map_append]
      walk_at "e"
      refine Ed.of (x_ride_text (ride_lE (es ++ fs)) hef (by simp; omega)) ?_
      walk_at "e"
      refine Ed.of (x_read_ride hef (by simp; omega)) ?_
      walk_at "e"
      refine ed_addL (by simp; omega) ?_
      rw [← List.map_append]
      refine dNe_goodS (n := 2) (good_list fun d hd => ?_) ?_
      · obtain ⟨e, _, rfl⟩ := List.mem_map.mp hd
        exact good_en e
      walk_at "e"
      exact ⟨_, _, _, _, _, _, _, _, rfl, hR.mono (by omega)⟩
  · rintro S ⟨x2, x3, x4, x5, x6, x7, x8, cs, rfl, hR⟩
    walk_at "e"
    exact ⟨_, rfl⟩
end Lw.k57

set_option maxHeartbeats 16000000
namespace Lw.k57
open PySem PySem.Spec PyProof.Rows L2 RZ Fu Lw
theorem all_mk {l : PySem.W.OpenLaw} {w : World} {K : PySem.W.Frag} {h : Heap} {mg : Str → Option Value} {fa : Addr} (X : K.In h) (G : h.Ns mainGlobals mg) (hfa : mg "law" = some (.ref fa))
    {f__law_reel : Addr} {od__law_reel an__law_reel : Option Addr} {sl__law_reel : Array (Option Value)} {oc__law_reel kV__law_reel dc__law_reel pm__law_reel cd__law_reel ct__law_reel : Value}
    (a__law_reel : PySem.W.nsIn K mainGlobals "_law_reel" = some (some (.ref f__law_reel)))
    (l__law_reel : K.lookup f__law_reel = some ⟨oc__law_reel, od__law_reel, .func (PySem.W.fnOf "_law_reel" "_law_reel" (defArgs s__law_reel) (defBody s__law_reel) (defScope s__law_reel) .none kV__law_reel dc__law_reel pm__law_reel an__law_reel cd__law_reel ct__law_reel), sl__law_reel⟩)
    (c__law_reel : PySem.W.codeIn K cd__law_reel "_law_reel" = true)
    (k__law_reel : PySem.W.keepIn K (.ref f__law_reel) = true)
    {f__law_draw : Addr} {od__law_draw an__law_draw : Option Addr} {sl__law_draw : Array (Option Value)} {oc__law_draw kV__law_draw dc__law_draw pm__law_draw cd__law_draw ct__law_draw : Value}
    (a__law_draw : PySem.W.nsIn K mainGlobals "_law_draw" = some (some (.ref f__law_draw)))
    (l__law_draw : K.lookup f__law_draw = some ⟨oc__law_draw, od__law_draw, .func (PySem.W.fnOf "_law_draw" "_law_draw" (defArgs s__law_draw) (defBody s__law_draw) (defScope s__law_draw) .none kV__law_draw dc__law_draw pm__law_draw an__law_draw cd__law_draw ct__law_draw), sl__law_draw⟩)
    (c__law_draw : PySem.W.codeIn K cd__law_draw "_law_draw" = true)
    (k__law_draw : PySem.W.keepIn K (.ref f__law_draw) = true)
    {f__law_net : Addr} {od__law_net an__law_net : Option Addr} {sl__law_net : Array (Option Value)} {oc__law_net kV__law_net dc__law_net pm__law_net cd__law_net ct__law_net : Value}
    (a__law_net : PySem.W.nsIn K mainGlobals "_law_net" = some (some (.ref f__law_net)))
    (l__law_net : K.lookup f__law_net = some ⟨oc__law_net, od__law_net, .func (PySem.W.fnOf "_law_net" "_law_net" (defArgs s__law_net) (defBody s__law_net) (defScope s__law_net) .none kV__law_net dc__law_net pm__law_net an__law_net cd__law_net ct__law_net), sl__law_net⟩)
    (c__law_net : PySem.W.codeIn K cd__law_net "_law_net" = true)
    (k__law_net : PySem.W.keepIn K (.ref f__law_net) = true)
    {f_is_whole : Addr} {od_is_whole an_is_whole : Option Addr} {sl_is_whole : Array (Option Value)} {oc_is_whole kV_is_whole dc_is_whole pm_is_whole cd_is_whole ct_is_whole : Value}
    (a_is_whole : PySem.W.nsIn K mainGlobals "is_whole" = some (some (.ref f_is_whole)))
    (l_is_whole : K.lookup f_is_whole = some ⟨oc_is_whole, od_is_whole, .func (PySem.W.fnOf "is_whole" "is_whole" (defArgs s_is_whole) (defBody s_is_whole) (defScope s_is_whole) .none kV_is_whole dc_is_whole pm_is_whole an_is_whole cd_is_whole ct_is_whole), sl_is_whole⟩)
    (c_is_whole : PySem.W.codeIn K cd_is_whole "is_whole" = true)
    (k_is_whole : PySem.W.keepIn K (.ref f_is_whole) = true)
    {f_is_row : Addr} {od_is_row an_is_row : Option Addr} {sl_is_row : Array (Option Value)} {oc_is_row kV_is_row dc_is_row pm_is_row cd_is_row ct_is_row : Value}
    (a_is_row : PySem.W.nsIn K mainGlobals "is_row" = some (some (.ref f_is_row)))
    (l_is_row : K.lookup f_is_row = some ⟨oc_is_row, od_is_row, .func (PySem.W.fnOf "is_row" "is_row" (defArgs s_is_row) (defBody s_is_row) (defScope s_is_row) .none kV_is_row dc_is_row pm_is_row an_is_row cd_is_row ct_is_row), sl_is_row⟩)
    (c_is_row : PySem.W.codeIn K cd_is_row "is_row" = true)
    (k_is_row : PySem.W.keepIn K (.ref f_is_row) = true)
    {f_is_company : Addr} {od_is_company an_is_company : Option Addr} {sl_is_company : Array (Option Value)} {oc_is_company kV_is_company dc_is_company pm_is_company cd_is_company ct_is_company : Value}
    (a_is_company : PySem.W.nsIn K mainGlobals "is_company" = some (some (.ref f_is_company)))
    (l_is_company : K.lookup f_is_company = some ⟨oc_is_company, od_is_company, .func (PySem.W.fnOf "is_company" "is_company" (defArgs s_is_company) (defBody s_is_company) (defScope s_is_company) .none kV_is_company dc_is_company pm_is_company an_is_company cd_is_company ct_is_company), sl_is_company⟩)
    (c_is_company : PySem.W.codeIn K cd_is_company "is_company" = true)
    (k_is_company : PySem.W.keepIn K (.ref f_is_company) = true)
    {f_is_line_of : Addr} {od_is_line_of an_is_line_of : Option Addr} {sl_is_line_of : Array (Option Value)} {oc_is_line_of kV_is_line_of dc_is_line_of pm_is_line_of cd_is_line_of ct_is_line_of : Value}
    (a_is_line_of : PySem.W.nsIn K mainGlobals "is_line_of" = some (some (.ref f_is_line_of)))
    (l_is_line_of : K.lookup f_is_line_of = some ⟨oc_is_line_of, od_is_line_of, .func (PySem.W.fnOf "is_line_of" "is_line_of" (defArgs s_is_line_of) (defBody s_is_line_of) (defScope s_is_line_of) .none kV_is_line_of dc_is_line_of pm_is_line_of an_is_line_of cd_is_line_of ct_is_line_of), sl_is_line_of⟩)
    (c_is_line_of : PySem.W.codeIn K cd_is_line_of "is_line_of" = true)
    (k_is_line_of : PySem.W.keepIn K (.ref f_is_line_of) = true)
    {f_web_of : Addr} {od_web_of an_web_of : Option Addr} {sl_web_of : Array (Option Value)} {oc_web_of kV_web_of dc_web_of pm_web_of cd_web_of ct_web_of : Value}
    (a_web_of : PySem.W.nsIn K mainGlobals "web_of" = some (some (.ref f_web_of)))
    (l_web_of : K.lookup f_web_of = some ⟨oc_web_of, od_web_of, .func (PySem.W.fnOf "web_of" "web_of" (defArgs s_web_of) (defBody s_web_of) (defScope s_web_of) .none kV_web_of dc_web_of pm_web_of an_web_of cd_web_of ct_web_of), sl_web_of⟩)
    (c_web_of : PySem.W.codeIn K cd_web_of "web_of" = true)
    (k_web_of : PySem.W.keepIn K (.ref f_web_of) = true)
    {f_kept : Addr} {od_kept an_kept : Option Addr} {sl_kept : Array (Option Value)} {oc_kept kV_kept dc_kept pm_kept cd_kept ct_kept : Value}
    (a_kept : PySem.W.nsIn K mainGlobals "kept" = some (some (.ref f_kept)))
    (l_kept : K.lookup f_kept = some ⟨oc_kept, od_kept, .func (PySem.W.fnOf "kept" "kept" (defArgs s_kept) (defBody s_kept) (defScope s_kept) .none kV_kept dc_kept pm_kept an_kept cd_kept ct_kept), sl_kept⟩)
    (c_kept : PySem.W.codeIn K cd_kept "kept" = true)
    (k_kept : PySem.W.keepIn K (.ref f_kept) = true)
    {f_web_text : Addr} {od_web_text an_web_text : Option Addr} {sl_web_text : Array (Option Value)} {oc_web_text kV_web_text dc_web_text pm_web_text cd_web_text ct_web_text : Value}
    (a_web_text : PySem.W.nsIn K mainGlobals "web_text" = some (some (.ref f_web_text)))
    (l_web_text : K.lookup f_web_text = some ⟨oc_web_text, od_web_text, .func (PySem.W.fnOf "web_text" "web_text" (defArgs s_web_text) (defBody s_web_text) (defScope s_web_text) .none kV_web_text dc_web_text pm_web_text an_web_text cd_web_text ct_web_text), sl_web_text⟩)
    (c_web_text : PySem.W.codeIn K cd_web_text "web_text" = true)
    (k_web_text : PySem.W.keepIn K (.ref f_web_text) = true)
    {f_is_number_word : Addr} {od_is_number_word an_is_number_word : Option Addr} {sl_is_number_word : Array (Option Value)} {oc_is_number_word kV_is_number_word dc_is_number_word pm_is_number_word cd_is_number_word ct_is_number_word : Value}
    (a_is_number_word : PySem.W.nsIn K mainGlobals "is_number_word" = some (some (.ref f_is_number_word)))
    (l_is_number_word : K.lookup f_is_number_word = some ⟨oc_is_number_word, od_is_number_word, .func (PySem.W.fnOf "is_number_word" "is_number_word" (defArgs s_is_number_word) (defBody s_is_number_word) (defScope s_is_number_word) .none kV_is_number_word dc_is_number_word pm_is_number_word an_is_number_word cd_is_number_word ct_is_number_word), sl_is_number_word⟩)
    (c_is_number_word : PySem.W.codeIn K cd_is_number_word "is_number_word" = true)
    (k_is_number_word : PySem.W.keepIn K (.ref f_is_number_word) = true)
    {f_line_read : Addr} {od_line_read an_line_read : Option Addr} {sl_line_read : Array (Option Value)} {oc_line_read kV_line_read dc_line_read pm_line_read cd_line_read ct_line_read : Value}
    (a_line_read : PySem.W.nsIn K mainGlobals "line_read" = some (some (.ref f_line_read)))
    (l_line_read : K.lookup f_line_read = some ⟨oc_line_read, od_line_read, .func (PySem.W.fnOf "line_read" "line_read" (defArgs s_line_read) (defBody s_line_read) (defScope s_line_read) .none kV_line_read dc_line_read pm_line_read an_line_read cd_line_read ct_line_read), sl_line_read⟩)
    (c_line_read : PySem.W.codeIn K cd_line_read "line_read" = true)
    (k_line_read : PySem.W.keepIn K (.ref f_line_read) = true)
    {f_read_web : Addr} {od_read_web an_read_web : Option Addr} {sl_read_web : Array (Option Value)} {oc_read_web kV_read_web dc_read_web pm_read_web cd_read_web ct_read_web : Value}
    (a_read_web : PySem.W.nsIn K mainGlobals "read_web" = some (some (.ref f_read_web)))
    (l_read_web : K.lookup f_read_web = some ⟨oc_read_web, od_read_web, .func (PySem.W.fnOf "read_web" "read_web" (defArgs s_read_web) (defBody s_read_web) (defScope s_read_web) .none kV_read_web dc_read_web pm_read_web an_read_web cd_read_web ct_read_web), sl_read_web⟩)
    (c_read_web : PySem.W.codeIn K cd_read_web "read_web" = true)
    (k_read_web : PySem.W.keepIn K (.ref f_read_web) = true)
    {f_need_place : Addr} {od_need_place an_need_place : Option Addr} {sl_need_place : Array (Option Value)} {oc_need_place kV_need_place dc_need_place pm_need_place cd_need_place ct_need_place : Value}
    (a_need_place : PySem.W.nsIn K mainGlobals "need_place" = some (some (.ref f_need_place)))
    (l_need_place : K.lookup f_need_place = some ⟨oc_need_place, od_need_place, .func (PySem.W.fnOf "need_place" "need_place" (defArgs s_need_place) (defBody s_need_place) (defScope s_need_place) .none kV_need_place dc_need_place pm_need_place an_need_place cd_need_place ct_need_place), sl_need_place⟩)
    (c_need_place : PySem.W.codeIn K cd_need_place "need_place" = true)
    (k_need_place : PySem.W.keepIn K (.ref f_need_place) = true)
    {f_need_company : Addr} {od_need_company an_need_company : Option Addr} {sl_need_company : Array (Option Value)} {oc_need_company kV_need_company dc_need_company pm_need_company cd_need_company ct_need_company : Value}
    (a_need_company : PySem.W.nsIn K mainGlobals "need_company" = some (some (.ref f_need_company)))
    (l_need_company : K.lookup f_need_company = some ⟨oc_need_company, od_need_company, .func (PySem.W.fnOf "need_company" "need_company" (defArgs s_need_company) (defBody s_need_company) (defScope s_need_company) .none kV_need_company dc_need_company pm_need_company an_need_company cd_need_company ct_need_company), sl_need_company⟩)
    (c_need_company : PySem.W.codeIn K cd_need_company "need_company" = true)
    (k_need_company : PySem.W.keepIn K (.ref f_need_company) = true)
    {f_with_line : Addr} {od_with_line an_with_line : Option Addr} {sl_with_line : Array (Option Value)} {oc_with_line kV_with_line dc_with_line pm_with_line cd_with_line ct_with_line : Value}
    (a_with_line : PySem.W.nsIn K mainGlobals "with_line" = some (some (.ref f_with_line)))
    (l_with_line : K.lookup f_with_line = some ⟨oc_with_line, od_with_line, .func (PySem.W.fnOf "with_line" "with_line" (defArgs s_with_line) (defBody s_with_line) (defScope s_with_line) .none kV_with_line dc_with_line pm_with_line an_with_line cd_with_line ct_with_line), sl_with_line⟩)
    (c_with_line : PySem.W.codeIn K cd_with_line "with_line" = true)
    (k_with_line : PySem.W.keepIn K (.ref f_with_line) = true)
    {f_need_line : Addr} {od_need_line an_need_line : Option Addr} {sl_need_line : Array (Option Value)} {oc_need_line kV_need_line dc_need_line pm_need_line cd_need_line ct_need_line : Value}
    (a_need_line : PySem.W.nsIn K mainGlobals "need_line" = some (some (.ref f_need_line)))
    (l_need_line : K.lookup f_need_line = some ⟨oc_need_line, od_need_line, .func (PySem.W.fnOf "need_line" "need_line" (defArgs s_need_line) (defBody s_need_line) (defScope s_need_line) .none kV_need_line dc_need_line pm_need_line an_need_line cd_need_line ct_need_line), sl_need_line⟩)
    (c_need_line : PySem.W.codeIn K cd_need_line "need_line" = true)
    (k_need_line : PySem.W.keepIn K (.ref f_need_line) = true)
    {f_without_line : Addr} {od_without_line an_without_line : Option Addr} {sl_without_line : Array (Option Value)} {oc_without_line kV_without_line dc_without_line pm_without_line cd_without_line ct_without_line : Value}
    (a_without_line : PySem.W.nsIn K mainGlobals "without_line" = some (some (.ref f_without_line)))
    (l_without_line : K.lookup f_without_line = some ⟨oc_without_line, od_without_line, .func (PySem.W.fnOf "without_line" "without_line" (defArgs s_without_line) (defBody s_without_line) (defScope s_without_line) .none kV_without_line dc_without_line pm_without_line an_without_line cd_without_line ct_without_line), sl_without_line⟩)
    (c_without_line : PySem.W.codeIn K cd_without_line "without_line" = true)
    (k_without_line : PySem.W.keepIn K (.ref f_without_line) = true)
    {f_painted : Addr} {od_painted an_painted : Option Addr} {sl_painted : Array (Option Value)} {oc_painted kV_painted dc_painted pm_painted cd_painted ct_painted : Value}
    (a_painted : PySem.W.nsIn K mainGlobals "painted" = some (some (.ref f_painted)))
    (l_painted : K.lookup f_painted = some ⟨oc_painted, od_painted, .func (PySem.W.fnOf "painted" "painted" (defArgs s_painted) (defBody s_painted) (defScope s_painted) .none kV_painted dc_painted pm_painted an_painted cd_painted ct_painted), sl_painted⟩)
    (c_painted : PySem.W.codeIn K cd_painted "painted" = true)
    (k_painted : PySem.W.keepIn K (.ref f_painted) = true)
    {f_merged : Addr} {od_merged an_merged : Option Addr} {sl_merged : Array (Option Value)} {oc_merged kV_merged dc_merged pm_merged cd_merged ct_merged : Value}
    (a_merged : PySem.W.nsIn K mainGlobals "merged" = some (some (.ref f_merged)))
    (l_merged : K.lookup f_merged = some ⟨oc_merged, od_merged, .func (PySem.W.fnOf "merged" "merged" (defArgs s_merged) (defBody s_merged) (defScope s_merged) .none kV_merged dc_merged pm_merged an_merged cd_merged ct_merged), sl_merged⟩)
    (c_merged : PySem.W.codeIn K cd_merged "merged" = true)
    (k_merged : PySem.W.keepIn K (.ref f_merged) = true)
    {f_is_end : Addr} {od_is_end an_is_end : Option Addr} {sl_is_end : Array (Option Value)} {oc_is_end kV_is_end dc_is_end pm_is_end cd_is_end ct_is_end : Value}
    (a_is_end : PySem.W.nsIn K mainGlobals "is_end" = some (some (.ref f_is_end)))
    (l_is_end : K.lookup f_is_end = some ⟨oc_is_end, od_is_end, .func (PySem.W.fnOf "is_end" "is_end" (defArgs s_is_end) (defBody s_is_end) (defScope s_is_end) .none kV_is_end dc_is_end pm_is_end an_is_end cd_is_end ct_is_end), sl_is_end⟩)
    (c_is_end : PySem.W.codeIn K cd_is_end "is_end" = true)
    (k_is_end : PySem.W.keepIn K (.ref f_is_end) = true)
    {f_need_end : Addr} {od_need_end an_need_end : Option Addr} {sl_need_end : Array (Option Value)} {oc_need_end kV_need_end dc_need_end pm_need_end cd_need_end ct_need_end : Value}
    (a_need_end : PySem.W.nsIn K mainGlobals "need_end" = some (some (.ref f_need_end)))
    (l_need_end : K.lookup f_need_end = some ⟨oc_need_end, od_need_end, .func (PySem.W.fnOf "need_end" "need_end" (defArgs s_need_end) (defBody s_need_end) (defScope s_need_end) .none kV_need_end dc_need_end pm_need_end an_need_end cd_need_end ct_need_end), sl_need_end⟩)
    (c_need_end : PySem.W.codeIn K cd_need_end "need_end" = true)
    (k_need_end : PySem.W.keepIn K (.ref f_need_end) = true)
    {f_loosened : Addr} {od_loosened an_loosened : Option Addr} {sl_loosened : Array (Option Value)} {oc_loosened kV_loosened dc_loosened pm_loosened cd_loosened ct_loosened : Value}
    (a_loosened : PySem.W.nsIn K mainGlobals "loosened" = some (some (.ref f_loosened)))
    (l_loosened : K.lookup f_loosened = some ⟨oc_loosened, od_loosened, .func (PySem.W.fnOf "loosened" "loosened" (defArgs s_loosened) (defBody s_loosened) (defScope s_loosened) .none kV_loosened dc_loosened pm_loosened an_loosened cd_loosened ct_loosened), sl_loosened⟩)
    (c_loosened : PySem.W.codeIn K cd_loosened "loosened" = true)
    (k_loosened : PySem.W.keepIn K (.ref f_loosened) = true)
    {f__law_loose : Addr} {od__law_loose an__law_loose : Option Addr} {sl__law_loose : Array (Option Value)} {oc__law_loose kV__law_loose dc__law_loose pm__law_loose cd__law_loose ct__law_loose : Value}
    (a__law_loose : PySem.W.nsIn K mainGlobals "_law_loose" = some (some (.ref f__law_loose)))
    (l__law_loose : K.lookup f__law_loose = some ⟨oc__law_loose, od__law_loose, .func (PySem.W.fnOf "_law_loose" "_law_loose" (defArgs s__law_loose) (defBody s__law_loose) (defScope s__law_loose) .none kV__law_loose dc__law_loose pm__law_loose an__law_loose cd__law_loose ct__law_loose), sl__law_loose⟩)
    (c__law_loose : PySem.W.codeIn K cd__law_loose "_law_loose" = true)
    (k__law_loose : PySem.W.keepIn K (.ref f__law_loose) = true)
    {f__law_right : Addr} {od__law_right an__law_right : Option Addr} {sl__law_right : Array (Option Value)} {oc__law_right kV__law_right dc__law_right pm__law_right cd__law_right ct__law_right : Value}
    (a__law_right : PySem.W.nsIn K mainGlobals "_law_right" = some (some (.ref f__law_right)))
    (l__law_right : K.lookup f__law_right = some ⟨oc__law_right, od__law_right, .func (PySem.W.fnOf "_law_right" "_law_right" (defArgs s__law_right) (defBody s__law_right) (defScope s__law_right) .none kV__law_right dc__law_right pm__law_right an__law_right cd__law_right ct__law_right), sl__law_right⟩)
    (c__law_right : PySem.W.codeIn K cd__law_right "_law_right" = true)
    (k__law_right : PySem.W.keepIn K (.ref f__law_right) = true)
    {f__law_ends : Addr} {od__law_ends an__law_ends : Option Addr} {sl__law_ends : Array (Option Value)} {oc__law_ends kV__law_ends dc__law_ends pm__law_ends cd__law_ends ct__law_ends : Value}
    (a__law_ends : PySem.W.nsIn K mainGlobals "_law_ends" = some (some (.ref f__law_ends)))
    (l__law_ends : K.lookup f__law_ends = some ⟨oc__law_ends, od__law_ends, .func (PySem.W.fnOf "_law_ends" "_law_ends" (defArgs s__law_ends) (defBody s__law_ends) (defScope s__law_ends) .none kV__law_ends dc__law_ends pm__law_ends an__law_ends cd__law_ends ct__law_ends), sl__law_ends⟩)
    (c__law_ends : PySem.W.codeIn K cd__law_ends "_law_ends" = true)
    (k__law_ends : PySem.W.keepIn K (.ref f__law_ends) = true)
    {f_end_word : Addr} {od_end_word an_end_word : Option Addr} {sl_end_word : Array (Option Value)} {oc_end_word kV_end_word dc_end_word pm_end_word cd_end_word ct_end_word : Value}
    (a_end_word : PySem.W.nsIn K mainGlobals "end_word" = some (some (.ref f_end_word)))
    (l_end_word : K.lookup f_end_word = some ⟨oc_end_word, od_end_word, .func (PySem.W.fnOf "end_word" "end_word" (defArgs s_end_word) (defBody s_end_word) (defScope s_end_word) .none kV_end_word dc_end_word pm_end_word an_end_word cd_end_word ct_end_word), sl_end_word⟩)
    (c_end_word : PySem.W.codeIn K cd_end_word "end_word" = true)
    (k_end_word : PySem.W.keepIn K (.ref f_end_word) = true)
    {f_ride_text : Addr} {od_ride_text an_ride_text : Option Addr} {sl_ride_text : Array (Option Value)} {oc_ride_text kV_ride_text dc_ride_text pm_ride_text cd_ride_text ct_ride_text : Value}
    (a_ride_text : PySem.W.nsIn K mainGlobals "ride_text" = some (some (.ref f_ride_text)))
    (l_ride_text : K.lookup f_ride_text = some ⟨oc_ride_text, od_ride_text, .func (PySem.W.fnOf "ride_text" "ride_text" (defArgs s_ride_text) (defBody s_ride_text) (defScope s_ride_text) .none kV_ride_text dc_ride_text pm_ride_text an_ride_text cd_ride_text ct_ride_text), sl_ride_text⟩)
    (c_ride_text : PySem.W.codeIn K cd_ride_text "ride_text" = true)
    (k_ride_text : PySem.W.keepIn K (.ref f_ride_text) = true)
    {f_end_of : Addr} {od_end_of an_end_of : Option Addr} {sl_end_of : Array (Option Value)} {oc_end_of kV_end_of dc_end_of pm_end_of cd_end_of ct_end_of : Value}
    (a_end_of : PySem.W.nsIn K mainGlobals "end_of" = some (some (.ref f_end_of)))
    (l_end_of : K.lookup f_end_of = some ⟨oc_end_of, od_end_of, .func (PySem.W.fnOf "end_of" "end_of" (defArgs s_end_of) (defBody s_end_of) (defScope s_end_of) .none kV_end_of dc_end_of pm_end_of an_end_of cd_end_of ct_end_of), sl_end_of⟩)
    (c_end_of : PySem.W.codeIn K cd_end_of "end_of" = true)
    (k_end_of : PySem.W.keepIn K (.ref f_end_of) = true)
    {f_is_end_word : Addr} {od_is_end_word an_is_end_word : Option Addr} {sl_is_end_word : Array (Option Value)} {oc_is_end_word kV_is_end_word dc_is_end_word pm_is_end_word cd_is_end_word ct_is_end_word : Value}
    (a_is_end_word : PySem.W.nsIn K mainGlobals "is_end_word" = some (some (.ref f_is_end_word)))
    (l_is_end_word : K.lookup f_is_end_word = some ⟨oc_is_end_word, od_is_end_word, .func (PySem.W.fnOf "is_end_word" "is_end_word" (defArgs s_is_end_word) (defBody s_is_end_word) (defScope s_is_end_word) .none kV_is_end_word dc_is_end_word pm_is_end_word an_is_end_word cd_is_end_word ct_is_end_word), sl_is_end_word⟩)
    (c_is_end_word : PySem.W.codeIn K cd_is_end_word "is_end_word" = true)
    (k_is_end_word : PySem.W.keepIn K (.ref f_is_end_word) = true)
    {f_read_ride : Addr} {od_read_ride an_read_ride : Option Addr} {sl_read_ride : Array (Option Value)} {oc_read_ride kV_read_ride dc_read_ride pm_read_ride cd_read_ride ct_read_ride : Value}
    (a_read_ride : PySem.W.nsIn K mainGlobals "read_ride" = some (some (.ref f_read_ride)))
    (l_read_ride : K.lookup f_read_ride = some ⟨oc_read_ride, od_read_ride, .func (PySem.W.fnOf "read_ride" "read_ride" (defArgs s_read_ride) (defBody s_read_ride) (defScope s_read_ride) .none kV_read_ride dc_read_ride pm_read_ride an_read_ride cd_read_ride ct_read_ride), sl_read_ride⟩)
    (c_read_ride : PySem.W.codeIn K cd_read_ride "read_ride" = true)
    (k_read_ride : PySem.W.keepIn K (.ref f_read_ride) = true)
    {f_law : Addr} {od_law an_law : Option Addr} {sl_law : Array (Option Value)} {oc_law kV_law dc_law pm_law cd_law ct_law : Value}
    (a_law : PySem.W.nsIn K mainGlobals "law" = some (some (.ref f_law)))
    (l_law : K.lookup f_law = some ⟨oc_law, od_law, .func (PySem.W.fnOf "law" "law" (defArgs s_law) (defBody s_law) (defScope s_law) .none kV_law dc_law pm_law an_law cd_law ct_law), sl_law⟩)
    (c_law : PySem.W.codeIn K cd_law "law" = true)
    (k_law : PySem.W.keepIn K (.ref f_law) = true)
    (z_all : PySem.W.nsIn K mainGlobals "all" = some none)
    (z_bool : PySem.W.nsIn K mainGlobals "bool" = some none)
    (z_int : PySem.W.nsIn K mainGlobals "int" = some none)
    (z_isinstance : PySem.W.nsIn K mainGlobals "isinstance" = some none)
    (z_len : PySem.W.nsIn K mainGlobals "len" = some none)
    (z_list : PySem.W.nsIn K mainGlobals "list" = some none)
    (z_max : PySem.W.nsIn K mainGlobals "max" = some none)
    (z_min : PySem.W.nsIn K mainGlobals "min" = some none)
    (z_range : PySem.W.nsIn K mainGlobals "range" = some none)
    (z_str : PySem.W.nsIn K mainGlobals "str" = some none)
    (z_tuple : PySem.W.nsIn K mainGlobals "tuple" = some none)
    {t_FIGURES : Tok}
    (n_FIGURES : PySem.W.nsIn K mainGlobals "FIGURES" = some (some (.str "0123456789" t_FIGURES)))
    {t_LETTERS : Tok}
    (n_LETTERS : PySem.W.nsIn K mainGlobals "LETTERS" = some (some (.str "abcdefghijklmnopqrstuvwxyz" t_LETTERS)))
    {t_SIDES : Tok}
    (n_SIDES : PySem.W.nsIn K mainGlobals "SIDES" = some (some (.int 2 t_SIDES)))
    {t_SIGNS : Tok}
    (n_SIGNS : PySem.W.nsIn K mainGlobals "SIGNS" = some (some (.str "+-" t_SIGNS)))
    : ∃ fd : FuncData, (∀ (s : Shared) (v : Value), BindsTo s fd ⟨[v], []⟩ [("script", v)]) ∧ ∀ base : Heap, K.In base → base.Ns mainGlobals mg → FnOk l.prog w K mg base CX0 7 fa fd ["script"] (spLaw K (mScr 10 g_law)) := by
  have e := hfa.symm.trans (PySem.W.mg_of X G a_law)
  cases e
  have T : Tx K mg := {
    d__law_reel := ⟨_, _, PySem.W.mg_of X G a__law_reel, fun_mk (st := s__law_reel) l__law_reel c__law_reel k__law_reel, (fun_mk (st := s__law_reel) l__law_reel c__law_reel k__law_reel).binds (ps := ["script"]) fun _ _ _ _ _ _ us hl => match us, hl with | [_], _ => rfl⟩
    d__law_draw := ⟨_, _, PySem.W.mg_of X G a__law_draw, fun_mk (st := s__law_draw) l__law_draw c__law_draw k__law_draw, (fun_mk (st := s__law_draw) l__law_draw c__law_draw k__law_draw).binds (ps := ["reel", "many"]) fun _ _ _ _ _ _ us hl => match us, hl with | [_, _], _ => rfl⟩
    d__law_net := ⟨_, _, PySem.W.mg_of X G a__law_net, fun_mk (st := s__law_net) l__law_net c__law_net k__law_net, (fun_mk (st := s__law_net) l__law_net c__law_net k__law_net).binds (ps := ["reel", "most"]) fun _ _ _ _ _ _ us hl => match us, hl with | [_, _], _ => rfl⟩
    d_is_whole := ⟨_, _, PySem.W.mg_of X G a_is_whole, fun_mk (st := s_is_whole) l_is_whole c_is_whole k_is_whole, (fun_mk (st := s_is_whole) l_is_whole c_is_whole k_is_whole).binds (ps := ["thing"]) fun _ _ _ _ _ _ us hl => match us, hl with | [_], _ => rfl⟩
    d_is_row := ⟨_, _, PySem.W.mg_of X G a_is_row, fun_mk (st := s_is_row) l_is_row c_is_row k_is_row, (fun_mk (st := s_is_row) l_is_row c_is_row k_is_row).binds (ps := ["thing", "size"]) fun _ _ _ _ _ _ us hl => match us, hl with | [_, _], _ => rfl⟩
    d_is_company := ⟨_, _, PySem.W.mg_of X G a_is_company, fun_mk (st := s_is_company) l_is_company c_is_company k_is_company, (fun_mk (st := s_is_company) l_is_company c_is_company k_is_company).binds (ps := ["thing"]) fun _ _ _ _ _ _ us hl => match us, hl with | [_], _ => rfl⟩
    d_is_line_of := ⟨_, _, PySem.W.mg_of X G a_is_line_of, fun_mk (st := s_is_line_of) l_is_line_of c_is_line_of k_is_line_of, (fun_mk (st := s_is_line_of) l_is_line_of c_is_line_of k_is_line_of).binds (ps := ["places", "thing"]) fun _ _ _ _ _ _ us hl => match us, hl with | [_, _], _ => rfl⟩
    d_web_of := ⟨_, _, PySem.W.mg_of X G a_web_of, fun_mk (st := s_web_of) l_web_of c_web_of k_web_of, (fun_mk (st := s_web_of) l_web_of c_web_of k_web_of).binds (ps := ["places", "lines"]) fun _ _ _ _ _ _ us hl => match us, hl with | [_, _], _ => rfl⟩
    d_kept := ⟨_, _, PySem.W.mg_of X G a_kept, fun_mk (st := s_kept) l_kept c_kept k_kept, (fun_mk (st := s_kept) l_kept c_kept k_kept).binds (ps := ["web"]) fun _ _ _ _ _ _ us hl => match us, hl with | [_], _ => rfl⟩
    d_web_text := ⟨_, _, PySem.W.mg_of X G a_web_text, fun_mk (st := s_web_text) l_web_text c_web_text k_web_text, (fun_mk (st := s_web_text) l_web_text c_web_text k_web_text).binds (ps := ["web"]) fun _ _ _ _ _ _ us hl => match us, hl with | [_], _ => rfl⟩
    d_is_number_word := ⟨_, _, PySem.W.mg_of X G a_is_number_word, fun_mk (st := s_is_number_word) l_is_number_word c_is_number_word k_is_number_word, (fun_mk (st := s_is_number_word) l_is_number_word c_is_number_word k_is_number_word).binds (ps := ["word"]) fun _ _ _ _ _ _ us hl => match us, hl with | [_], _ => rfl⟩
    d_line_read := ⟨_, _, PySem.W.mg_of X G a_line_read, fun_mk (st := s_line_read) l_line_read c_line_read k_line_read, (fun_mk (st := s_line_read) l_line_read c_line_read k_line_read).binds (ps := ["row"]) fun _ _ _ _ _ _ us hl => match us, hl with | [_], _ => rfl⟩
    d_read_web := ⟨_, _, PySem.W.mg_of X G a_read_web, fun_mk (st := s_read_web) l_read_web c_read_web k_read_web, (fun_mk (st := s_read_web) l_read_web c_read_web k_read_web).binds (ps := ["text"]) fun _ _ _ _ _ _ us hl => match us, hl with | [_], _ => rfl⟩
    d_need_place := ⟨_, _, PySem.W.mg_of X G a_need_place, fun_mk (st := s_need_place) l_need_place c_need_place k_need_place, (fun_mk (st := s_need_place) l_need_place c_need_place k_need_place).binds (ps := ["web", "place"]) fun _ _ _ _ _ _ us hl => match us, hl with | [_, _], _ => rfl⟩
    d_need_company := ⟨_, _, PySem.W.mg_of X G a_need_company, fun_mk (st := s_need_company) l_need_company c_need_company k_need_company, (fun_mk (st := s_need_company) l_need_company c_need_company k_need_company).binds (ps := ["company"]) fun _ _ _ _ _ _ us hl => match us, hl with | [_], _ => rfl⟩
    d_with_line := ⟨_, _, PySem.W.mg_of X G a_with_line, fun_mk (st := s_with_line) l_with_line c_with_line k_with_line, (fun_mk (st := s_with_line) l_with_line c_with_line k_with_line).binds (ps := ["web", "one", "other", "company"]) fun _ _ _ _ _ _ us hl => match us, hl with | [_, _, _, _], _ => rfl⟩
    d_need_line := ⟨_, _, PySem.W.mg_of X G a_need_line, fun_mk (st := s_need_line) l_need_line c_need_line k_need_line, (fun_mk (st := s_need_line) l_need_line c_need_line k_need_line).binds (ps := ["web", "line"]) fun _ _ _ _ _ _ us hl => match us, hl with | [_, _], _ => rfl⟩
    d_without_line := ⟨_, _, PySem.W.mg_of X G a_without_line, fun_mk (st := s_without_line) l_without_line c_without_line k_without_line, (fun_mk (st := s_without_line) l_without_line c_without_line k_without_line).binds (ps := ["web", "line"]) fun _ _ _ _ _ _ us hl => match us, hl with | [_, _], _ => rfl⟩
    d_painted := ⟨_, _, PySem.W.mg_of X G a_painted, fun_mk (st := s_painted) l_painted c_painted k_painted, (fun_mk (st := s_painted) l_painted c_painted k_painted).binds (ps := ["web", "line", "company"]) fun _ _ _ _ _ _ us hl => match us, hl with | [_, _, _], _ => rfl⟩
    d_merged := ⟨_, _, PySem.W.mg_of X G a_merged, fun_mk (st := s_merged) l_merged c_merged k_merged, (fun_mk (st := s_merged) l_merged c_merged k_merged).binds (ps := ["web", "company", "other"]) fun _ _ _ _ _ _ us hl => match us, hl with | [_, _, _], _ => rfl⟩
    d_is_end := ⟨_, _, PySem.W.mg_of X G a_is_end, fun_mk (st := s_is_end) l_is_end c_is_end k_is_end, (fun_mk (st := s_is_end) l_is_end c_is_end k_is_end).binds (ps := ["web", "thing"]) fun _ _ _ _ _ _ us hl => match us, hl with | [_, _], _ => rfl⟩
    d_need_end := ⟨_, _, PySem.W.mg_of X G a_need_end, fun_mk (st := s_need_end) l_need_end c_need_end k_need_end, (fun_mk (st := s_need_end) l_need_end c_need_end k_need_end).binds (ps := ["web", "end"]) fun _ _ _ _ _ _ us hl => match us, hl with | [_, _], _ => rfl⟩
    d_loosened := ⟨_, _, PySem.W.mg_of X G a_loosened, fun_mk (st := s_loosened) l_loosened c_loosened k_loosened, (fun_mk (st := s_loosened) l_loosened c_loosened k_loosened).binds (ps := ["web", "end"]) fun _ _ _ _ _ _ us hl => match us, hl with | [_, _], _ => rfl⟩
    d__law_loose := ⟨_, _, PySem.W.mg_of X G a__law_loose, fun_mk (st := s__law_loose) l__law_loose c__law_loose k__law_loose, (fun_mk (st := s__law_loose) l__law_loose c__law_loose k__law_loose).binds (ps := ["rows", "net", "at", "side"]) fun _ _ _ _ _ _ us hl => match us, hl with | [_, _, _, _], _ => rfl⟩
    d__law_right := ⟨_, _, PySem.W.mg_of X G a__law_right, fun_mk (st := s__law_right) l__law_right c__law_right k__law_right, (fun_mk (st := s__law_right) l__law_right c__law_right k__law_right).binds (ps := ["reel", "net"]) fun _ _ _ _ _ _ us hl => match us, hl with | [_, _], _ => rfl⟩
    d__law_ends := ⟨_, _, PySem.W.mg_of X G a__law_ends, fun_mk (st := s__law_ends) l__law_ends c__law_ends k__law_ends, (fun_mk (st := s__law_ends) l__law_ends c__law_ends k__law_ends).binds (ps := ["reel"]) fun _ _ _ _ _ _ us hl => match us, hl with | [_], _ => rfl⟩
    d_end_word := ⟨_, _, PySem.W.mg_of X G a_end_word, fun_mk (st := s_end_word) l_end_word c_end_word k_end_word, (fun_mk (st := s_end_word) l_end_word c_end_word k_end_word).binds (ps := ["end"]) fun _ _ _ _ _ _ us hl => match us, hl with | [_], _ => rfl⟩
    d_ride_text := ⟨_, _, PySem.W.mg_of X G a_ride_text, fun_mk (st := s_ride_text) l_ride_text c_ride_text k_ride_text, (fun_mk (st := s_ride_text) l_ride_text c_ride_text k_ride_text).binds (ps := ["ride"]) fun _ _ _ _ _ _ us hl => match us, hl with | [_], _ => rfl⟩
    d_end_of := ⟨_, _, PySem.W.mg_of X G a_end_of, fun_mk (st := s_end_of) l_end_of c_end_of k_end_of, (fun_mk (st := s_end_of) l_end_of c_end_of k_end_of).binds (ps := ["word"]) fun _ _ _ _ _ _ us hl => match us, hl with | [_], _ => rfl⟩
    d_is_end_word := ⟨_, _, PySem.W.mg_of X G a_is_end_word, fun_mk (st := s_is_end_word) l_is_end_word c_is_end_word k_is_end_word, (fun_mk (st := s_is_end_word) l_is_end_word c_is_end_word k_is_end_word).binds (ps := ["word"]) fun _ _ _ _ _ _ us hl => match us, hl with | [_], _ => rfl⟩
    d_read_ride := ⟨_, _, PySem.W.mg_of X G a_read_ride, fun_mk (st := s_read_ride) l_read_ride c_read_ride k_read_ride, (fun_mk (st := s_read_ride) l_read_ride c_read_ride k_read_ride).binds (ps := ["text"]) fun _ _ _ _ _ _ us hl => match us, hl with | [_], _ => rfl⟩
    d_law := ⟨_, _, PySem.W.mg_of X G a_law, fun_mk (st := s_law) l_law c_law k_law, (fun_mk (st := s_law) l_law c_law k_law).binds (ps := ["script"]) fun _ _ _ _ _ _ us hl => match us, hl with | [_], _ => rfl⟩
    z_all := PySem.W.mg_none_of X G z_all
    z_bool := PySem.W.mg_none_of X G z_bool
    z_int := PySem.W.mg_none_of X G z_int
    z_isinstance := PySem.W.mg_none_of X G z_isinstance
    z_len := PySem.W.mg_none_of X G z_len
    z_list := PySem.W.mg_none_of X G z_list
    z_max := PySem.W.mg_none_of X G z_max
    z_min := PySem.W.mg_none_of X G z_min
    z_range := PySem.W.mg_none_of X G z_range
    z_str := PySem.W.mg_none_of X G z_str
    z_tuple := PySem.W.mg_none_of X G z_tuple
    c_FIGURES := ⟨_, PySem.W.mg_of X G n_FIGURES⟩
    c_LETTERS := ⟨_, PySem.W.mg_of X G n_LETTERS⟩
    c_SIDES := ⟨_, PySem.W.mg_of X G n_SIDES⟩
    c_SIGNS := ⟨_, PySem.W.mg_of X G n_SIGNS⟩
  }
  exact ⟨PySem.W.fnOf "law" "law" (defArgs s_law) (defBody s_law) (defScope s_law) .none kV_law dc_law pm_law an_law cd_law ct_law, fun s v => .of_eq rfl, fun base _ _ => fn_law (fun B hB => trivial) (fun_mk (st := s_law) l_law c_law k_law) sc_law rfl (by decide) (law_body T _)⟩
end Lw.k57
open PySem PySem.W PyProof.Rows
set_option maxHeartbeats 0 in
theorem PySem.Challenge.cw_changeride_k57_whole_deeds_on_texts_holds : PySem.Challenge.rw_changeride_k57_whole_deeds_on_texts.Holds := by
  w_on; o_law; k_head; (case hw => w_witness2)
  k_fill
  refine L2.walk_of (l := PySem.Challenge.rw_changeride_k57_whole_deeds_on_texts) (n := 63) (k := 7) (x := "script") (CX := fun _ => L2.CX0) (sp := fun w => Fu.spLaw _ (Fu.mScr 10 Lw.k57.g_law)) rfl (by decide) rfl ⟨rfl, by decide, by decide⟩ (fun w h Y => PySem.W.kIn_of Y) ?F (fun _ H a ns hl ho hS => ⟨a, ns, rfl, hS, hl, fun b xs e => (by rcases ho b with z | ⟨o, ys, z⟩ <;> rw [e] at z <;> cases z), Lw.k57.law_true ns hl, fun _ => rfl⟩) (fun _ _ _ _ _ h => h)
  case F =>
    intro w mg fa h KX G hmg
    refine' Lw.k57.all_mk KX G hmg ?a__law_reel ?l__law_reel ?c__law_reel ?k__law_reel ?a__law_draw ?l__law_draw ?c__law_draw ?k__law_draw ?a__law_net ?l__law_net ?c__law_net ?k__law_net ?a_is_whole ?l_is_whole ?c_is_whole ?k_is_whole ?a_is_row ?l_is_row ?c_is_row ?k_is_row ?a_is_company ?l_is_company ?c_is_company ?k_is_company ?a_is_line_of ?l_is_line_of ?c_is_line_of ?k_is_line_of ?a_web_of ?l_web_of ?c_web_of ?k_web_of ?a_kept ?l_kept ?c_kept ?k_kept ?a_web_text ?l_web_text ?c_web_text ?k_web_text ?a_is_number_word ?l_is_number_word ?c_is_number_word ?k_is_number_word ?a_line_read ?l_line_read ?c_line_read ?k_line_read ?a_read_web ?l_read_web ?c_read_web ?k_read_web ?a_need_place ?l_need_place ?c_need_place ?k_need_place ?a_need_company ?l_need_company ?c_need_company ?k_need_company ?a_with_line ?l_with_line ?c_with_line ?k_with_line ?a_need_line ?l_need_line ?c_need_line ?k_need_line ?a_without_line ?l_without_line ?c_without_line ?k_without_line ?a_painted ?l_painted ?c_painted ?k_painted ?a_merged ?l_merged ?c_merged ?k_merged ?a_is_end ?l_is_end ?c_is_end ?k_is_end ?a_need_end ?l_need_end ?c_need_end ?k_need_end ?a_loosened ?l_loosened ?c_loosened ?k_loosened ?a__law_loose ?l__law_loose ?c__law_loose ?k__law_loose ?a__law_right ?l__law_right ?c__law_right ?k__law_right ?a__law_ends ?l__law_ends ?c__law_ends ?k__law_ends ?a_end_word ?l_end_word ?c_end_word ?k_end_word ?a_ride_text ?l_ride_text ?c_ride_text ?k_ride_text ?a_end_of ?l_end_of ?c_end_of ?k_end_of ?a_is_end_word ?l_is_end_word ?c_is_end_word ?k_is_end_word ?a_read_ride ?l_read_ride ?c_read_ride ?k_read_ride ?a_law ?l_law ?c_law ?k_law ?z_all ?z_bool ?z_int ?z_isinstance ?z_len ?z_list ?z_max ?z_min ?z_range ?z_str ?z_tuple ?n_FIGURES ?n_LETTERS ?n_SIDES ?n_SIGNS
    (case a__law_reel => k_is)
    (case l__law_reel => k_is)
    (case c__law_reel => k_is)
    (case k__law_reel => k_is)
    (case a__law_draw => k_is)
    (case l__law_draw => k_is)
    (case c__law_draw => k_is)
    (case k__law_draw => k_is)
    (case a__law_net => k_is)
    (case l__law_net => k_is)
    (case c__law_net => k_is)
    (case k__law_net => k_is)
    (case a_is_whole => k_is)
    (case l_is_whole => k_is)
    (case c_is_whole => k_is)
    (case k_is_whole => k_is)
    (case a_is_row => k_is)
    (case l_is_row => k_is)
    (case c_is_row => k_is)
    (case k_is_row => k_is)
    (case a_is_company => k_is)
    (case l_is_company => k_is)
    (case c_is_company => k_is)
    (case k_is_company => k_is)
    (case a_is_line_of => k_is)
    (case l_is_line_of => k_is)
    (case c_is_line_of => k_is)
    (case k_is_line_of => k_is)
    (case a_web_of => k_is)
    (case l_web_of => k_is)
    (case c_web_of => k_is)
    (case k_web_of => k_is)
    (case a_kept => k_is)
    (case l_kept => k_is)
    (case c_kept => k_is)
    (case k_kept => k_is)
    (case a_web_text => k_is)
    (case l_web_text => k_is)
    (case c_web_text => k_is)
    (case k_web_text => k_is)
    (case a_is_number_word => k_is)
    (case l_is_number_word => k_is)
    (case c_is_number_word => k_is)
    (case k_is_number_word => k_is)
    (case a_line_read => k_is)
    (case l_line_read => k_is)
    (case c_line_read => k_is)
    (case k_line_read => k_is)
    (case a_read_web => k_is)
    (case l_read_web => k_is)
    (case c_read_web => k_is)
    (case k_read_web => k_is)
    (case a_need_place => k_is)
    (case l_need_place => k_is)
    (case c_need_place => k_is)
    (case k_need_place => k_is)
    (case a_need_company => k_is)
    (case l_need_company => k_is)
    (case c_need_company => k_is)
    (case k_need_company => k_is)
    (case a_with_line => k_is)
    (case l_with_line => k_is)
    (case c_with_line => k_is)
    (case k_with_line => k_is)
    (case a_need_line => k_is)
    (case l_need_line => k_is)
    (case c_need_line => k_is)
    (case k_need_line => k_is)
    (case a_without_line => k_is)
    (case l_without_line => k_is)
    (case c_without_line => k_is)
    (case k_without_line => k_is)
    (case a_painted => k_is)
    (case l_painted => k_is)
    (case c_painted => k_is)
    (case k_painted => k_is)
    (case a_merged => k_is)
    (case l_merged => k_is)
    (case c_merged => k_is)
    (case k_merged => k_is)
    (case a_is_end => k_is)
    (case l_is_end => k_is)
    (case c_is_end => k_is)
    (case k_is_end => k_is)
    (case a_need_end => k_is)
    (case l_need_end => k_is)
    (case c_need_end => k_is)
    (case k_need_end => k_is)
    (case a_loosened => k_is)
    (case l_loosened => k_is)
    (case c_loosened => k_is)
    (case k_loosened => k_is)
    (case a__law_loose => k_is)
    (case l__law_loose => k_is)
    (case c__law_loose => k_is)
    (case k__law_loose => k_is)
    (case a__law_right => k_is)
    (case l__law_right => k_is)
    (case c__law_right => k_is)
    (case k__law_right => k_is)
    (case a__law_ends => k_is)
    (case l__law_ends => k_is)
    (case c__law_ends => k_is)
    (case k__law_ends => k_is)
    (case a_end_word => k_is)
    (case l_end_word => k_is)
    (case c_end_word => k_is)
    (case k_end_word => k_is)
    (case a_ride_text => k_is)
    (case l_ride_text => k_is)
    (case c_ride_text => k_is)
    (case k_ride_text => k_is)
    (case a_end_of => k_is)
    (case l_end_of => k_is)
    (case c_end_of => k_is)
    (case k_end_of => k_is)
    (case a_is_end_word => k_is)
    (case l_is_end_word => k_is)
    (case c_is_end_word => k_is)
    (case k_is_end_word => k_is)
    (case a_read_ride => k_is)
    (case l_read_ride => k_is)
    (case c_read_ride => k_is)
    (case k_read_ride => k_is)
    (case a_law => k_is)
    (case l_law => k_is)
    (case c_law => k_is)
    (case k_law => k_is)
    (case z_all => k_is)
    (case z_bool => k_is)
    (case z_int => k_is)
    (case z_isinstance => k_is)
    (case z_len => k_is)
    (case z_list => k_is)
    (case z_max => k_is)
    (case z_min => k_is)
    (case z_range => k_is)
    (case z_str => k_is)
    (case z_tuple => k_is)
    (case n_FIGURES => k_is)
    (case n_LETTERS => k_is)
    (case n_SIDES => k_is)
    (case n_SIGNS => k_is)
