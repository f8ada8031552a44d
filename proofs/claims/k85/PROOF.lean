import PyProof.Rows.All
import Wide.All
import OpenK.AllK
import Wide.FinOn
import HandS.ForMost
import HandS.Flow
import HandS.Deep
import HandS.TupAny
import HandS.Codes
import HandS.IsInst
import HandS.Style
import HandS.Wide
import HandS.Zip
import HandS.Rev
import HandS.Exc
import HandS.TupLe
import KE.DataMinMax
import KE.SortData
import HandS.Conv
import HandS.Ends
import HandS.RaiseMore
import KE.DataFind
import HandS.Flt
import HandS.ExcIs
import HandS.ExcValue
import HandS.WordsExc
import HandS.Dict
import KE.KDictDisplayH
import HandS.ReplaceLit
import KE.GoesMore
import KE.GoesEnum
import HandS.Set
import HandS.SetBool
import PyProof.MeetsSeq2
import HandS.Text
import PySem.Challenge.RW_changeride_k85_rounds_that_share_a_line
set_option Elab.async false
set_option linter.all false
set_option maxRecDepth 100000

set_option maxHeartbeats 4000000
namespace Fu
open PySem PySem.Spec PyProof.Rows L2

/-! ### the frame: what may be forgotten for the time of a call -/
def Loose : HO → Prop
  | .lst _ => True
  | .dK _ => True
  | .dT _ => True
  | .set _ _ => True
  | _ => False
def lpins (H G : Hp) (h : Heap) : List (Addr × Obj) :=
  (List.range h.objs.size).filterMap fun a => if (H a).isSome = true ∧ (G a).isNone = true then (h.get? a).map fun o => (a, o) else none
theorem mem_lpins {H G : Hp} {h : Heap} {a : Addr} {o : Obj} {u : HO} (h1 : H a = some u) (h2 : G a = none) (h3 : h.get? a = some o) : (a, o) ∈ lpins H G h :=
  List.mem_filterMap.mpr ⟨a, List.mem_range.mpr (Heap.lt_size h3), by simp [h1, h2, h3]⟩
theorem of_lpins {H G : Hp} {h : Heap} {p : Addr × Obj} (hp : p ∈ lpins H G h) : (∃ u, H p.1 = some u) ∧ G p.1 = none ∧ h.get? p.1 = some p.2 := by
  obtain ⟨b, _, e⟩ := List.mem_filterMap.mp hp
  split at e
  · rename_i hc
    cases q : h.get? b with
    | none => rw [q] at e; cases e
    | some u =>
      rw [q] at e
      have e' : (b, u) = p := Option.some.inj e
      subst e'
      exact ⟨Option.isSome_iff_exists.mp hc.1, Option.isNone_iff_eq_none.mp hc.2, q⟩
  · cases e
/-- G within H: what is over may be forgotten -/
structure Sub (G H : Hp) : Prop where
  same : Same G H
  loose : ∀ a o, H a = some o → G a = none → Loose o
theorem Sub.none {G H : Hp} (S : Sub G H) {b : Addr} (e : H b = none) : G b = none := S.same.free e
theorem Sub.keep {G H : Hp} (S : Sub G H) {b : Addr} {o : HO} (e : H b = some o) (n : ¬ Loose o) : G b = some o := by
  cases q : G b with
  | none => exact absurd (S.loose b o e q) n
  | some u => rw [S.same b u q] at e; exact e
theorem Sub.refl (H : Hp) : Sub H H := ⟨Same.refl H, fun a o e n => by rw [e] at n; cases n⟩
def mixH (G H G' : Hp) : Hp := fun a => match G a, H a with
  | none, some o => some o
  | _, _ => G' a
theorem mix_lost {G H G' : Hp} {a : Addr} {o : HO} (h1 : G a = none) (h2 : H a = some o) : mixH G H G' a = some o := by unfold mixH; rw [h1, h2]
theorem mix_held {G H G' : Hp} {a : Addr} {o : HO} (h1 : G a = some o) : mixH G H G' a = G' a := by unfold mixH; rw [h1]
theorem mix_free {G H G' : Hp} {a : Addr} (h2 : H a = none) : mixH G H G' a = G' a := by unfold mixH; rw [h2]; cases G a <;> rfl

section
variable {X : Cx} {pins : List (Addr × Obj)} {σ : L2.St} {H G G' : Hp} {s s' : Shared}
theorem fs_none (I : Inv X pins σ H s) {b : Addr} (hb : b ∈ X.fs) : H b = none := by
  obtain ⟨_, o, ho, _⟩ := I.ok.funs.mem hb
  exact I.base.free b o ho (I.ok.frf b hb) fun z => I.ok.exfs b z hb
theorem loose_cell {P : Program} {w : World} {h : Heap} {a : Addr} {u : HO} {o : Obj} (x : ObjOk P w H h a u) (l : Loose u) (e : h.get? a = some o) : ∀ v, o.data ≠ .cell v := by
  intro v z
  cases u with
  | lst xs => obtain ⟨_, its, n, _, e1⟩ := x; rw [e] at e1; cases e1; cases z
  | dK kvs => obtain ⟨_, _, vs, _, ob, es, ep, e1, _, d, _⟩ := x; rw [e] at e1; cases e1; rw [d] at z; cases z
  | dT kvs => obtain ⟨_, _, vs, _, ob, es, ep, e1, _, d, _⟩ := x; rw [e] at e1; cases e1; rw [d] at z; cases z
  | set S n => obtain ⟨ob, es, ep, t, e1, _, d, _⟩ := x; rw [e] at e1; cases e1; rw [d] at z; cases z
  | _ => exact l
theorem loose_there {P : Program} {w : World} {h : Heap} {a : Addr} {u : HO} (x : ObjOk P w H h a u) (l : Loose u) : ∃ o, h.get? a = some o := by
  cases u with
  | lst xs => obtain ⟨_, its, n, _, e1⟩ := x; exact ⟨_, e1⟩
  | dK kvs => obtain ⟨_, _, vs, _, ob, es, ep, e1, _⟩ := x; exact ⟨_, e1⟩
  | dT kvs => obtain ⟨_, _, vs, _, ob, es, ep, e1, _⟩ := x; exact ⟨_, e1⟩
  | set S n => obtain ⟨ob, es, ep, t, e1, _⟩ := x; exact ⟨_, e1⟩
  | _ => exact l.elim
theorem forget (I : Inv X pins σ H s) (S : Sub G H) : Inv X (pins ++ lpins H G s.heap) σ G s where
  ok := I.ok
  os := I.os
  bare := I.bare
  base := ⟨I.base.keep, I.base.slot, fun b o e n hx => S.none (I.base.free b o e n hx), I.base.there,
    fun b xs q => S.keep (I.base.tups b xs q) (fun z => z), fun b o u q => S.keep (I.base.frzs b o u q) (fun z => z),
    fun b ps q => by obtain ⟨m, e⟩ := I.base.tbls b ps q; exact ⟨m, S.keep e (fun z => z)⟩⟩
  loc := I.loc
  cell := I.cell
  free := S.none I.free
  freeC := fun x c e => S.none (I.freeC x c e)
  pin := fun p hp => by
    rcases List.mem_append.mp hp with hp | hp
    · obtain ⟨e, n, r⟩ := I.pin p (List.mem_append_left _ hp)
      exact ⟨e, S.none n, r⟩
    · rcases List.mem_append.mp hp with hp | hp
      · obtain ⟨e, n, r⟩ := I.pin p (List.mem_append_right _ hp)
        exact ⟨e, S.none n, r⟩
      · obtain ⟨⟨u, hu⟩, hg, he⟩ := of_lpins hp
        refine ⟨he, hg, fun z => ?_, fun z => ?_, loose_cell (I.hok p.1 u hu) (S.loose _ _ hu hg) he⟩
        · rw [z, I.free] at hu; cases hu
        · rw [fs_none I z] at hu; cases hu
  hok := fun a o e => (I.hok a o (S.same a o e)).stay (fun b u _ q => q) (fun b q => S.keep q (fun z => z)) (fun b xs q => S.keep q (fun z => z))
  len := I.len
theorem lost_of {τ : L2.St} (I : Inv X pins σ H s) (S : Sub G H) (J : Inv X (pins ++ lpins H G s.heap) τ G' s') : ∀ b o, H b = some o → G b = none → G' b = none := fun b o hb hg => by
  obtain ⟨ob, hob⟩ : ∃ ob, s.heap.get? b = some ob := loose_there (I.hok b o hb) (S.loose b o hb hg)
  exact (J.pin (b, ob) (List.mem_append_right _ (List.mem_append_right _ (mem_lpins hb hg hob)))).2.1
theorem remember {τ : L2.St} (I : Inv X pins σ H s) (S : Sub G H) (J : Inv X (pins ++ lpins H G s.heap) τ G' s') (ht : ∀ b xs, G b = some (.tup xs) → G' b = some (.tup xs)) :
    Inv X pins τ (mixH G H G') s' := by
  have lost : ∀ b o, H b = some o → G b = none → G' b = none ∧ ∀ ob, s.heap.get? b = some ob → s'.heap.get? b = some ob := fun b o hb hg => by
    obtain ⟨ob, hob⟩ : ∃ ob, s.heap.get? b = some ob := loose_there (I.hok b o hb) (S.loose b o hb hg)
    obtain ⟨e1, e2, _⟩ := J.pin (b, ob) (List.mem_append_right _ (List.mem_append_right _ (mem_lpins hb hg hob)))
    exact ⟨e2, fun ob' h' => by rw [hob] at h'; cases h'; exact e1⟩
  have up : ∀ b o, G' b = some o → mixH G H G' b = some o := fun b o e => by
    cases q : G b with
    | some u => rw [mix_held q]; exact e
    | none =>
      cases r : H b with
      | none => rw [mix_free r]; exact e
      | some u => rw [(lost b u r q).1] at e; cases e
  have nn : ∀ b, G' b = none → H b = none → mixH G H G' b = none := fun b e r => by rw [mix_free r]; exact e
  refine ⟨J.ok, J.os, J.bare, ⟨J.base.keep, J.base.slot, fun b o e n hx => nn b (J.base.free b o e n hx) (I.base.free b o e n hx), J.base.there,
    fun b xs q => up _ _ (J.base.tups b xs q), fun b o u q => up _ _ (J.base.frzs b o u q), fun b ps q => ?_⟩, J.loc, J.cell, nn _ J.free I.free, fun x c e => nn _ (J.freeC x c e) (I.freeC x c e), fun p hp => ?_, fun a o e => ?_, J.len⟩
  · obtain ⟨m, e⟩ := J.base.tbls b ps q
    exact ⟨m, up _ _ e⟩
  · have hp' : p ∈ X.pn ++ (pins ++ lpins H G s.heap) := (List.mem_append.mp hp).elim (fun z => List.mem_append_left _ z) fun z => List.mem_append_right _ (List.mem_append_left _ z)
    obtain ⟨e, n, r⟩ := J.pin p hp'
    exact ⟨e, nn _ n (I.pin p hp).2.1, r⟩
  · cases q : G a with
    | some u =>
      rw [mix_held q] at e
      exact (J.hok a o e).stay (fun b u _ q => q) (fun b q => up _ _ q) (fun b xs q => up _ _ q)
    | none =>
      cases r : H a with
      | none =>
        rw [mix_free r] at e
        exact (J.hok a o e).stay (fun b u _ q => q) (fun b q => up _ _ q) (fun b xs q => up _ _ q)
      | some u =>
        rw [mix_lost q r] at e
        cases e
        have k := (lost a o r q).2
        have x := I.hok a o r
        have l := S.loose a o r q
        cases o with
        | lst xs => obtain ⟨z, its, n, rv, e1⟩ := x; exact ⟨z, its, n, rv, k _ e1⟩
        | dK kvs => obtain ⟨z, y, vs, rv, ob, es, ep, e1, c⟩ := x; exact ⟨z, y, vs, rv, ob, es, ep, k _ e1, c⟩
        | dT kvs =>
          obtain ⟨z, y, xs, rv, ob, es, ep, e1, c⟩ := x
          exact ⟨z, y, xs, Paired.mapP rv fun p q z => ⟨z.1, up _ _ (ht _ _ (S.keep z.2.1 (fun z => z))), z.2.2⟩, ob, es, ep, k _ e1, c⟩
        | set T n => obtain ⟨ob, es, ep, t, e1, c⟩ := x; exact ⟨ob, es, ep, t, k _ e1, c⟩
        | _ => exact l.elim
end

section
variable {X : Cx} {CX : CXT} {k : Nat} {f C : Addr} {fd : FuncData} {ps : List Str} {sp : Sp} {dvs : List V} {ds : List Value} {E : XK} {x m : Str} {p pos apos : Pos} {e o : Expr} {es : List Expr} {ta : TE} {t : TA}
theorem run_fnF {pins : List (Addr × Obj)} {σ : L2.St} {H G : Hp} {s : Shared} {Q : VK} {us : List Value} {vs : List V} (F : FnOk X.prog X.w X.K X.mg X.base CX k f fd ps sp) (hr : Room k X.A) (hb : Binds X.K fd ps ds) (hd : Vals dvs ds) (hx : Passes CX X E)
    (I : Inv X pins σ H s) (r : Vals vs us) (S : Sub G H) (h : sp (vs ++ dvs) G (fun v G' => (∀ b xs, G b = some (.tup xs) → G' b = some (.tup xs)) ∧ ((∀ b o, H b = some o → G b = none → G' b = none) → Q v (mixH G H G'))) E) :
    wpAny (model X.prog X.w) X.A (call (.ref f) us) (EP X pins σ Q) X.xe s := by
  refine thn (run_fn F hr hb hd hx (forget I S) r h) fun u s' ⟨v, G', I', rv, ht, q⟩ => ⟨v, mixH G H G', remember I S I' ht, rv, q (lost_of I S I')⟩
/-- f(..) called over a part of the heap -/
def tCallF (sp : Sp) (dvs : List V) (E : XK) (t : TA) : TE := fun σ H Q => t σ H fun vs H1 => ∃ G, Sub G H1 ∧ sp (vs ++ dvs) G (fun v G' => (∀ b xs, G b = some (.tup xs) → G' b = some (.tup xs)) ∧ ((∀ b o, H1 b = some o → G b = none → G' b = none) → Q v (mixH G H1 G'))) E
theorem pe_callF (F : FnOk X.prog X.w X.K X.mg X.base CX k f fd ps sp) (hr : Room k X.A) (hg : Gl X x) (hm : X.mg x = some (.ref f)) (hk : PySem.W.keepIn X.K (.ref f) = true) (hb : Binds X.K fd ps ds) (hd : Vals dvs ds) (hx : Passes CX X E)
    (ha : PA X (e :: es) t) (hdb : (x == ("__debug__" : Str)) = false := by decide) (he : starEach (e :: es) X.env = (false, eval e X.env) :: starEach es X.env := by rfl) (hpl : (backTo pos (starEach es X.env)).any (·.1) = false := by rfl) :
    PE X (.Call (.Name x p) (e :: es) [] pos) (tCallF sp dvs E t) := by
  refine ⟨fun pins s σ H Q I h => ?_⟩
  refine wpAny_Call_Name_kw (ld_glob I hg hm ?_ hdb)
  refine PySem.W.callWith_K (h₀ := X.base) I.ok.mod.kin hk (thn (ha.run pos pins s σ H _ I h) fun us s1 ⟨vs, H1, I1, r, G, S, q⟩ => ⟨I1.kIn, ?_⟩) he hpl
  exact run_fnF F hr hb hd hx I1 r S q
end

/-! ### any expression, test, target, over a part of the heap -/
def Back (G H : Hp) (Q : Hp → Prop) : Hp → Prop := fun G' => (∀ b xs, G b = some (.tup xs) → G' b = some (.tup xs)) ∧ ((∀ b o, H b = some o → G b = none → G' b = none) → Q (mixH G H G'))
def tFr (t : TE) : TE := fun σ H Q => ∃ G, Sub G H ∧ t σ G fun v => Back G H (Q v)
def tFrT (t : TT) : TT := fun σ H Q => ∃ G, Sub G H ∧ t σ G fun v => Back G H (Q v)
def gFr (t : TG) : TG := fun x σ H Q => ∃ G, Sub G H ∧ t x σ G fun σ' => Back G H (Q σ')
section
variable {X : Cx} {e : Expr}
theorem pe_fr {t : TE} (h : PE X e t) : PE X e (tFr t) := ⟨fun pins s σ H Q I ⟨G, S, q⟩ =>
  thn (h.run _ s σ G _ (forget I S) q) fun u s' ⟨v, G', J, r, ht, q⟩ => ⟨v, _, remember I S J ht, r, q (lost_of I S J)⟩⟩
theorem pts_fr {es : List Expr} {t : TT} (h : PTs X es t) : PTs X es (tFrT t) := ⟨fun pins s σ H Q I ⟨G, S, q⟩ =>
  thn (h.run _ s σ G _ (forget I S) q) fun u s' ⟨G', J, ht, q⟩ => ⟨_, remember I S J ht, q (lost_of I S J)⟩⟩
theorem pg_fr {t : TG} (h : PG X e t) : PG X e (gFr t) := ⟨fun pins s σ H v u Q I r ⟨G, S, q⟩ =>
  thn (h.run _ s σ G v u _ (forget I S) r q) fun _ s' ⟨σ', G', J, ht, q⟩ => ⟨σ', _, remember I S J ht, q (lost_of I S J)⟩⟩
end
end Fu

set_option maxHeartbeats 4000000
namespace Fu
open PySem PySem.Spec PyProof.Rows L2

abbrev D := PyData

/-- a dict stands at a: what it holds is not told -/
def dictO (a : Addr) : HO := .ext (PySem.W.KitAt a "dict")
/-! ### a value, down to what is within, in a heap that stays -/
mutual
inductive Rp (K : PySem.W.Frag) (H : Hp) : V → PyData → Prop
  | non : Rp K H .non .none
  | bl (b : Bool) : Rp K H (.bl b) (.bool b)
  | int (i : Int) : Rp K H (.int i) (.int i)
  | str {x : Str} : x.length ≤ sizeLine → Rp K H (.str x) (.str x)
  | lst {a : Addr} {xs : List V} {ds : List PyData} : H a = some (.lst xs) → Rps K H xs ds → ds.length ≤ sizeLine → Rp K H (.ref a) (.list ds)
  | tup {a : Addr} {xs : List V} {ds : List PyData} : SqT K H a xs → Rps K H xs ds → ds.length ≤ sizeLine → Rp K H (.ref a) (.tuple ds)
  | dct {a : Addr} {kvs : List (PyData × PyData)} : ((∃ es, H a = some (.dK es)) ∨ (∃ es, H a = some (.dT es)) ∨ H a = some (dictO a)) → (kvs = [] → H a = some (.dK [])) → Rp K H (.ref a) (.dict kvs)
inductive Rps (K : PySem.W.Frag) (H : Hp) : List V → List PyData → Prop
  | nil : Rps K H [] []
  | cons {v : V} {vs : List V} {d : PyData} {ds : List PyData} : Rp K H v d → Rps K H vs ds → Rps K H (v :: vs) (d :: ds)
end
section
variable {K : PySem.W.Frag} {H H' : Hp}
theorem sqT_same {a : Addr} {xs : List V} (e : Same H H') (h : SqT K H a xs) : SqT K H' a xs := by
  rcases h with (h | ⟨o, h⟩) | h
  · exact .inl (.inl (e _ _ h))
  · exact .inl (.inr ⟨o, e _ _ h⟩)
  · exact .inr h
mutual
theorem Rp.mono (e : Same H H') : ∀ (d : PyData) (v : V), Rp K H v d → Rp K H' v d
  | .none, _, h => by cases h; exact .non
  | .bool b, _, h => by cases h; exact .bl b
  | .int i, _, h => by cases h; exact .int i
  | .str x, _, h => by
    cases h with
    | str hz => exact .str hz
  | .list ds, _, h => by
    cases h with
    | lst hs ha hz => exact .lst (e _ _ hs) (Rps.mono e ds _ ha) hz
  | .tuple ds, _, h => by
    cases h with
    | tup hs ha hz => exact .tup (sqT_same e hs) (Rps.mono e ds _ ha) hz
  | .dict kvs, _, h => by
    cases h with
    | dct hd h0 =>
      refine .dct ?_ (fun z => e _ _ (h0 z))
      rcases hd with ⟨es, hd⟩ | ⟨es, hd⟩ | hd
      · exact .inl ⟨es, e _ _ hd⟩
      · exact .inr (.inl ⟨es, e _ _ hd⟩)
      · exact .inr (.inr (e _ _ hd))
theorem Rps.mono (e : Same H H') : ∀ (ds : List PyData) (vs : List V), Rps K H vs ds → Rps K H' vs ds
  | [], _, h => by cases h; exact .nil
  | d :: ds, _, h => by
    cases h with
    | cons h1 h2 => exact .cons (Rp.mono e d _ h1) (Rps.mono e ds _ h2)
end
mutual
theorem Rp.dp : ∀ (d : PyData) (v : V), d.canLay0 = true → Rp K H v d → Dp K H v d
  | .none, _, _, h => by cases h; exact .non
  | .bool b, _, _, h => by cases h; exact .bl b
  | .int i, _, _, h => by cases h; exact .int i
  | .str x, _, _, h => by cases h; exact .str x
  | .list ds, _, c, h => by
    cases h with
    | lst hs ha hz => exact .lst (SqL.of hs) (Rps.dp ds _ (by simpa [PyData.canLay0] using c) ha)
  | .tuple ds, _, c, h => by
    cases h with
    | tup hs ha hz => exact .tup hs (Rps.dp ds _ (by simpa [PyData.canLay0] using c) ha)
  | .dict kvs, _, c, _ => by simp [PyData.canLay0] at c
theorem Rps.dp : ∀ (ds : List PyData) (vs : List V), PyData.canLayAll0 ds = true → Rps K H vs ds → DpAll K H vs ds
  | [], _, _, h => by cases h; exact .nil
  | d :: ds, _, c, h => by
    have c' : d.canLay0 = true ∧ PyData.canLayAll0 ds = true := by simpa [PyData.canLayAll0] using c
    cases h with
    | cons h1 h2 => exact .cons (Rp.dp d _ c'.1 h1) (Rps.dp ds _ c'.2 h2)
end
theorem Rps.length : ∀ {ds : List PyData} {vs : List V}, Rps K H vs ds → vs.length = ds.length
  | [], _, h => by cases h; rfl
  | d :: ds, _, h => by
    cases h with
    | cons _ h2 => rw [List.length_cons, List.length_cons, Rps.length h2]
theorem Rps.get : ∀ {ds : List PyData} {vs : List V} {i : Nat} {d : PyData}, Rps K H vs ds → ds[i]? = some d → ∃ v, vs[i]? = some v ∧ Rp K H v d
  | [], _, _, _, _, e => by simp at e
  | _ :: _, _, 0, _, h, e => by
    cases h with
    | cons h1 h2 =>
      simp at e; subst e
      exact ⟨_, rfl, h1⟩
  | _ :: ds, _, i + 1, _, h, e => by
    cases h with
    | cons h1 h2 =>
      obtain ⟨v, e1, r⟩ := Rps.get (i := i) h2 (by simpa using e)
      exact ⟨v, by simpa using e1, r⟩
theorem Rps.append : ∀ {ds es : List PyData} {vs us : List V}, Rps K H vs ds → Rps K H us es → Rps K H (vs ++ us) (ds ++ es)
  | [], _, _, _, h, g => by cases h; exact g
  | _ :: _, _, _, _, h, g => by
    cases h with
    | cons h1 h2 => exact .cons h1 (h2.append g)
theorem Rps.take : ∀ {ds : List PyData} {vs : List V} (n : Nat), Rps K H vs ds → Rps K H (vs.take n) (ds.take n)
  | _, _, 0, _ => .nil
  | [], _, n + 1, h => by cases h; exact .nil
  | _ :: _, _, n + 1, h => by
    cases h with
    | cons h1 h2 => exact .cons h1 (h2.take n)
theorem Rps.drop : ∀ {ds : List PyData} {vs : List V} (n : Nat), Rps K H vs ds → Rps K H (vs.drop n) (ds.drop n)
  | _, _, 0, h => h
  | [], _, n + 1, h => by cases h; exact .nil
  | _ :: _, _, n + 1, h => by
    cases h with
    | cons h1 h2 => exact h2.drop n
theorem Rps.set : ∀ {ds : List PyData} {vs : List V} {v : V} {d : PyData} (i : Nat), Rp K H v d → Rps K H vs ds → Rps K H (vs.set i v) (ds.set i d)
  | [], _, _, _, _, _, h => by cases h; exact .nil
  | _ :: _, _, _, _, 0, r, h => by
    cases h with
    | cons h1 h2 => exact .cons r h2
  | _ :: _, _, _, _, i + 1, r, h => by
    cases h with
    | cons h1 h2 => exact .cons h1 (Rps.set i r h2)
theorem Rps.erase : ∀ {ds : List PyData} {vs : List V} (i : Nat), Rps K H vs ds → Rps K H (vs.eraseIdx i) (ds.eraseIdx i)
  | [], _, _, h => by cases h; exact .nil
  | _ :: _, _, 0, h => by
    cases h with
    | cons h1 h2 => exact h2
  | _ :: _, _, i + 1, h => by
    cases h with
    | cons h1 h2 => exact .cons h1 (Rps.erase i h2)
theorem Rps.reverse {ds : List PyData} {vs : List V} (h : Rps K H vs ds) : Rps K H vs.reverse ds.reverse := by
  induction ds generalizing vs with
  | nil => cases h; exact .nil
  | cons d ds ih =>
    cases h with
    | cons h1 h2 =>
      rw [List.reverse_cons, List.reverse_cons]
      exact (ih h2).append (.cons h1 .nil)
theorem Rps.rep {ds : List PyData} {vs : List V} (h : Rps K H vs ds) : ∀ n : Nat, Rps K H (List.replicate n vs).flatten (List.replicate n ds).flatten
  | 0 => .nil
  | n + 1 => by
    rw [List.replicate_succ, List.replicate_succ, List.flatten_cons, List.flatten_cons]
    exact h.append (h.rep n)
theorem Rps.ints : ∀ ns : List Int, Rps K H (ns.map V.int) (ns.map PyData.int)
  | [] => .nil
  | n :: ns => .cons (.int n) (Rps.ints ns)
end

/-! ### the state: slots, and things that are still written (cells) -/
/-- an exception object of the class cls stands at a -/
def XO (cls : Value) (a : Addr) : HO := .ext fun h => ∃ (o : Obj) (fs : Array Value), h.get? a = some o ∧ Zc cls none o ∧ o.data = .fields fs
inductive R where
  | dat (d : PyData)
  | own (j : Nat)
  | scr (ns : List Int)
  | tup (rs : List R)
  | exc (c : Str)
inductive Cell where
  | lst (xs : List PyData)
  | lR (xs : List R)
  | dR (kvs : List (Key × R))
  | tR (kvs : List (List Key × R))
structure Sx where
  sl : List (Option R)
  os : List (Option Cell)
abbrev M (α : Type) := Sx → Option (α × Sx)

mutual
/-- a value of the state: data, a cell's place, the script, a tuple of such -/
inductive Rr (K : PySem.W.Frag) (A : List Addr) (F : Hp) : V → R → Prop
  | dat {v : V} {d : PyData} : Rp K F v d → Rr K A F v (.dat d)
  | own {j : Nat} {a : Addr} : A[j]? = some a → Rr K A F (.ref a) (.own j)
  | scr {a : Addr} {ns : List Int} : ns.length ≤ 63 → SqL K F a (ns.map V.int) → Rr K A F (.ref a) (.scr ns)
  | tup {a : Addr} {vs : List V} {rs : List R} : SqT K F a vs → Rrs K A F vs rs → rs.length ≤ sizeLine → Rr K A F (.ref a) (.tup rs)
  | exc {a D : Addr} {c : Str} : PySem.W.nsIn K mainGlobals c = some (some (.ref D)) → F a = some (XO (.ref D) a) → Rr K A F (.ref a) (.exc c)
inductive Rrs (K : PySem.W.Frag) (A : List Addr) (F : Hp) : List V → List R → Prop
  | nil : Rrs K A F [] []
  | cons {v : V} {vs : List V} {r : R} {rs : List R} : Rr K A F v r → Rrs K A F vs rs → Rrs K A F (v :: vs) (r :: rs)
end
theorem pre_at {α : Type} {A B : List α} {j : Nat} {a : α} (p : A <+: B) (h : A[j]? = some a) : B[j]? = some a := by
  obtain ⟨C, rfl⟩ := p
  rw [List.getElem?_append_left (List.getElem?_eq_some_iff.mp h).1]; exact h
section
variable {K : PySem.W.Frag} {A A' : List Addr} {F F' : Hp}
mutual
theorem Rr.mono (p : A <+: A') (e : Same F F') : ∀ (r : R) (v : V), Rr K A F v r → Rr K A' F' v r
  | .dat d, _, h => by
    cases h with
    | dat h => exact .dat (Rp.mono e d _ h)
  | .own j, _, h => by
    cases h with
    | own h => exact .own (pre_at p h)
  | .scr ns, _, h => by
    cases h with
    | scr z h => exact .scr z (e.seq h)
  | .tup rs, _, h => by
    cases h with
    | tup s h z => exact .tup (sqT_same e s) (Rrs.mono p e rs _ h) z
  | .exc c, _, h => by
    cases h with
    | exc h1 h2 => exact .exc h1 (e _ _ h2)
theorem Rrs.mono (p : A <+: A') (e : Same F F') : ∀ (rs : List R) (vs : List V), Rrs K A F vs rs → Rrs K A' F' vs rs
  | [], _, h => by cases h; exact .nil
  | r :: rs, _, h => by
    cases h with
    | cons h1 h2 => exact .cons (Rr.mono p e r _ h1) (Rrs.mono p e rs _ h2)
end
theorem Rrs.length : ∀ {rs : List R} {vs : List V}, Rrs K A F vs rs → vs.length = rs.length
  | [], _, h => by cases h; rfl
  | _ :: rs, _, h => by
    cases h with
    | cons _ h2 => rw [List.length_cons, List.length_cons, Rrs.length h2]
theorem Rrs.get : ∀ {rs : List R} {vs : List V} {i : Nat} {r : R}, Rrs K A F vs rs → rs[i]? = some r → ∃ v, vs[i]? = some v ∧ Rr K A F v r
  | [], _, _, _, _, e => by simp at e
  | _ :: _, _, 0, _, h, e => by
    cases h with
    | cons h1 h2 =>
      simp at e; subst e
      exact ⟨_, rfl, h1⟩
  | _ :: rs, _, i + 1, _, h, e => by
    cases h with
    | cons h1 h2 =>
      obtain ⟨v, e1, r⟩ := Rrs.get (i := i) h2 (by simpa using e)
      exact ⟨v, by simpa using e1, r⟩
theorem Rrs.append : ∀ {rs ss : List R} {vs us : List V}, Rrs K A F vs rs → Rrs K A F us ss → Rrs K A F (vs ++ us) (rs ++ ss)
  | [], _, _, _, h, g => by cases h; exact g
  | _ :: _, _, _, _, h, g => by
    cases h with
    | cons h1 h2 => exact .cons h1 (h2.append g)
theorem Rrs.take : ∀ {rs : List R} {vs : List V} (n : Nat), Rrs K A F vs rs → Rrs K A F (vs.take n) (rs.take n)
  | _, _, 0, _ => .nil
  | [], _, n + 1, h => by cases h; exact .nil
  | _ :: _, _, n + 1, h => by
    cases h with
    | cons h1 h2 => exact .cons h1 (h2.take n)
theorem Rrs.drop : ∀ {rs : List R} {vs : List V} (n : Nat), Rrs K A F vs rs → Rrs K A F (vs.drop n) (rs.drop n)
  | _, _, 0, h => h
  | [], _, n + 1, h => by cases h; exact .nil
  | _ :: _, _, n + 1, h => by
    cases h with
    | cons h1 h2 => exact h2.drop n
theorem Rrs.set : ∀ {rs : List R} {vs : List V} {v : V} {r : R} (i : Nat), Rr K A F v r → Rrs K A F vs rs → Rrs K A F (vs.set i v) (rs.set i r)
  | [], _, _, _, _, _, h => by cases h; exact .nil
  | _ :: _, _, _, _, 0, r, h => by
    cases h with
    | cons h1 h2 => exact .cons r h2
  | _ :: _, _, _, _, i + 1, r, h => by
    cases h with
    | cons h1 h2 => exact .cons h1 (Rrs.set i r h2)
theorem Rrs.erase : ∀ {rs : List R} {vs : List V} (i : Nat), Rrs K A F vs rs → Rrs K A F (vs.eraseIdx i) (rs.eraseIdx i)
  | [], _, _, h => by cases h; exact .nil
  | _ :: _, _, 0, h => by
    cases h with
    | cons h1 h2 => exact h2
  | _ :: _, _, i + 1, h => by
    cases h with
    | cons h1 h2 => exact .cons h1 (Rrs.erase i h2)
end

abbrev PairR (K : PySem.W.Frag) (A : List Addr) (F : Hp) {κ : Type} (vs : List (κ × V)) (ks : List (κ × R)) : Prop := Paired (fun p q => p.1 = q.1 ∧ Rr K A F p.2 q.2) vs ks
def CellOk (K : PySem.W.Frag) (A : List Addr) (F H : Hp) (a : Addr) : Cell → Prop
  | .lst ds => ∃ vs, H a = some (.lst vs) ∧ Rps K F vs ds ∧ ds.length ≤ sizeLine
  | .lR rs => ∃ vs, H a = some (.lst vs) ∧ Rrs K A F vs rs ∧ rs.length ≤ sizeLine
  | .dR kvs => ∃ vs : List (Key × V), H a = some (.dK vs) ∧ PairR K A F vs kvs
  | .tR kvs => ∃ vs : List (List Key × V), H a = some (.dT vs) ∧ PairR K A F vs kvs
structure Ok (K : PySem.W.Frag) (A : List Addr) (F H : Hp) (S : Sx) (σ : L2.St) : Prop where
  sub : Sub F H
  len : S.sl.length = σ.length
  alen : S.os.length = A.length
  nd : A.Nodup
  rslot : ∀ (i : Nat) r, S.sl[i]? = some (some r) → ∃ v, σ[i]? = some (some v) ∧ Rr K A F v r
  cell : ∀ (j : Nat) c, S.os[j]? = some (some c) → ∃ a, A[j]? = some a ∧ F a = none ∧ CellOk K A F H a c
  trk : ∀ a ∈ A, ∃ o, H a = some o
section
variable {K : PySem.W.Frag} {A : List Addr} {F H : Hp} {S : Sx} {σ : L2.St}
theorem Ok.slot (k : Ok K A F H S σ) (i : Nat) (d : PyData) (h : S.sl[i]? = some (some (.dat d))) : ∃ v, σ[i]? = some (some v) ∧ Rp K F v d := by
  obtain ⟨v, e, r⟩ := k.rslot i _ h
  cases r with
  | dat r => exact ⟨v, e, r⟩
theorem Ok.oslot (k : Ok K A F H S σ) (i j : Nat) (h : S.sl[i]? = some (some (.own j))) : ∃ a, A[j]? = some a ∧ σ[i]? = some (some (.ref a)) := by
  obtain ⟨v, e, r⟩ := k.rslot i _ h
  cases r with
  | own r => exact ⟨_, r, e⟩
theorem Ok.sslot (k : Ok K A F H S σ) (i : Nat) (ns : List Int) (h : S.sl[i]? = some (some (.scr ns))) : ns.length ≤ 63 ∧ ∃ a, σ[i]? = some (some (.ref a)) ∧ SqL K F a (ns.map V.int) := by
  obtain ⟨v, e, r⟩ := k.rslot i _ h
  cases r with
  | scr z r => exact ⟨z, _, e, r⟩
end

theorem paired_mono {κ : Type} {K : PySem.W.Frag} {A A' : List Addr} {F F' : Hp} (p : A <+: A') (e : Same F F') {vs : List (κ × V)} {ks : List (κ × R)} (h : PairR K A F vs ks) : PairR K A' F' vs ks :=
  Paired.mapP h fun _ _ z => ⟨z.1, z.2.mono p e _ _⟩
/-- the cell at a stands over a greater heap -/
theorem CellOk.mono {K : PySem.W.Frag} {A A' : List Addr} {F F' H H' : Hp} {a : Addr} {c : Cell} (p : A <+: A') (e : Same F F') (ha : ∀ o, H a = some o → H' a = some o) (h : CellOk K A F H a c) : CellOk K A' F' H' a c := by
  cases c with
  | lst ds => obtain ⟨vs, h1, h2, hz⟩ := h; exact ⟨vs, ha _ h1, Rps.mono e _ _ h2, hz⟩
  | lR ds => obtain ⟨vs, h1, h2, hz⟩ := h; exact ⟨vs, ha _ h1, Rrs.mono p e _ _ h2, hz⟩
  | dR ds => obtain ⟨vs, h1, h2⟩ := h; exact ⟨vs, ha _ h1, paired_mono p e h2⟩
  | tR ds => obtain ⟨vs, h1, h2⟩ := h; exact ⟨vs, ha _ h1, paired_mono p e h2⟩

theorem same_upd {H : Hp} {p : Addr} {o : HO} (h : H p = none) : Same H (upd H p o) := fun b x e => by
  rw [upd_ne (ne_of_none e h)]
  exact e
section
variable {K : PySem.W.Frag} {A : List Addr} {F F' H H' : Hp} {S : Sx} {σ : L2.St}
/-- both heaps grow -/
theorem Ok.grow (k : Ok K A F H S σ) (sub : Sub F' H') (e : Same F F') (eh : ∀ a ∈ A, ∀ o, H a = some o → H' a = some o) (hf : ∀ a ∈ A, F a = none → F' a = none) : Ok K A F' H' S σ where
  sub := sub
  len := k.len
  alen := k.alen
  nd := k.nd
  rslot := fun i r h => by obtain ⟨v, e1, q⟩ := k.rslot i r h; exact ⟨v, e1, q.mono (List.prefix_refl _) e _ _⟩
  cell := fun j c h => by
    obtain ⟨a, e1, f, c⟩ := k.cell j c h
    have hm : a ∈ A := List.mem_of_getElem? e1
    exact ⟨a, e1, hf a hm f, c.mono (List.prefix_refl _) e (eh a hm)⟩
  trk := fun a h => by obtain ⟨o, q⟩ := k.trk a h; exact ⟨o, eh a h o q⟩
/-- a new object, known for good -/
theorem Ok.laid (k : Ok K A F H S σ) {p : Addr} {o : HO} (hp : H p = none) : Ok K A (upd F p o) (upd H p o) S σ := by
  have fp : F p = none := k.sub.none hp
  refine k.grow ⟨fun b u q => ?_, fun b u q n => ?_⟩ (same_upd fp) (fun a ha u q => by rw [upd_ne (ne_of_none q hp)]; exact q) fun a ha q => ?_
  · by_cases hb : b = p
    · subst hb; rw [upd_same] at q ⊢; exact q
    · rw [upd_ne hb] at q ⊢; exact k.sub.same b u q
  · by_cases hb : b = p
    · subst hb; rw [upd_same] at n; cases n
    · rw [upd_ne hb] at q n; exact k.sub.loose b u q n
  · obtain ⟨u, hu⟩ := k.trk a ha
    rw [upd_ne (ne_of_none hu hp)]; exact q
theorem sub_cell {G H : Hp} (s : Sub G H) {a : Addr} {o : HO} (g : G a = none) (l : Loose o) : Sub G (upd H a o) := ⟨fun b u q => by
    rw [upd_ne (ne_of_none q g)]; exact s.same b u q, fun b u q n => by
    by_cases hb : b = a
    · subst hb; rw [upd_same] at q; cases q; exact l
    · rw [upd_ne hb] at q; exact s.loose b u q n⟩
/-- a new cell -/
theorem Ok.cellNew (k : Ok K A F H S σ) {p : Addr} {o : HO} {c : Cell} (hp : H p = none) (l : Loose o) (hc : CellOk K (A ++ [p]) F (upd H p o) p c) : Ok K (A ++ [p]) F (upd H p o) { S with os := S.os ++ [some c] } σ := by
  have fp : F p = none := k.sub.none hp
  have np : p ∉ A := fun z => by obtain ⟨u, hu⟩ := k.trk p z; rw [hp] at hu; cases hu
  have pp : A <+: A ++ [p] := List.prefix_append _ _
  refine ⟨sub_cell k.sub fp l, k.len, by simp [k.alen], List.nodup_append.mpr ⟨k.nd, by simp, fun a ha b hb => by simp at hb; subst hb; intro z; subst z; exact np ha⟩, fun i r h => ?_, fun j c' h => ?_, fun a h => ?_⟩
  · obtain ⟨v, e1, q⟩ := k.rslot i r h
    exact ⟨v, e1, q.mono pp (Same.refl F) _ _⟩
  · by_cases hj : j < S.os.length
    · have h' : S.os[j]? = some (some c') := by
        have := h
        simp only at this
        rw [List.getElem?_append_left hj] at this; exact this
      obtain ⟨a, e1, f, q⟩ := k.cell j c' h'
      exact ⟨a, pre_at pp e1, f, q.mono pp (Same.refl F) fun u hu => by rw [upd_ne (ne_of_none hu hp)]; exact hu⟩
    · have e : j = S.os.length := by
        have := (List.getElem?_eq_some_iff.mp h).1
        simp at this
        omega
      subst e
      have h' : some c = some c' := by simpa using h
      cases h'
      exact ⟨p, by rw [k.alen]; simp, fp, hc⟩
  · rcases List.mem_append.mp h with h | h
    · obtain ⟨u, hu⟩ := k.trk a h
      exact ⟨u, by rw [upd_ne (ne_of_none hu hp)]; exact hu⟩
    · simp at h; subst h; exact ⟨o, upd_same⟩
theorem idx_nodup {α : Type} {A : List α} (nd : A.Nodup) {i j : Nat} {a : α} (h1 : A[i]? = some a) (h2 : A[j]? = some a) : i = j := by
  obtain ⟨l1, e1⟩ := List.getElem?_eq_some_iff.mp h1
  obtain ⟨l2, e2⟩ := List.getElem?_eq_some_iff.mp h2
  exact (List.getElem_inj nd).mp (e1.trans e2.symm)
/-- a cell written -/
theorem Ok.cellSet (k : Ok K A F H S σ) {j : Nat} {a : Addr} {o : HO} {c c' : Cell} (hj : S.os[j]? = some (some c)) (ha : A[j]? = some a) (l : Loose o) (hc : CellOk K A F (upd H a o) a c') :
    Ok K A F (upd H a o) { S with os := S.os.set j (some c') } σ := by
  obtain ⟨a', e1, fa, _⟩ := k.cell j c hj
  rw [ha] at e1; cases e1
  refine ⟨sub_cell k.sub fa l, k.len, by simp [k.alen], k.nd, k.rslot, fun i d h => ?_, fun b h => ?_⟩
  · by_cases hi : j = i
    · subst hi
      have hlt := (List.getElem?_eq_some_iff.mp hj).1
      rw [List.getElem?_set_self hlt] at h
      cases h
      exact ⟨a, ha, fa, hc⟩
    · rw [List.getElem?_set_ne hi] at h
      obtain ⟨b, e1, f, q⟩ := k.cell i d h
      have hb : b ≠ a := fun z => hi (idx_nodup k.nd ha (z ▸ e1))
      exact ⟨b, e1, f, q.mono (List.prefix_refl _) (Same.refl F) fun u hu => by rw [upd_ne hb]; exact hu⟩
  · by_cases hb : b = a
    · exact ⟨o, by rw [hb, upd_same]⟩
    · obtain ⟨u, hu⟩ := k.trk b h
      exact ⟨u, by rw [upd_ne hb]; exact hu⟩
/-- a cell is written no more: its object is known for good -/
theorem Ok.sealO (k : Ok K A F H S σ) {j : Nat} {a : Addr} {o : HO} {c : Cell} (hj : S.os[j]? = some (some c)) (ha : A[j]? = some a) (ho : H a = some o) :
    Same F (upd F a o) ∧ Ok K A (upd F a o) H { S with os := S.os.set j none } σ := by
  obtain ⟨a', e1, fa, _⟩ := k.cell j c hj
  rw [ha] at e1; cases e1
  have sm : Same F (upd F a o) := same_upd fa
  refine ⟨sm, ⟨⟨fun b u q => ?_, fun b u q n => ?_⟩, k.len, by simp [k.alen], k.nd, fun i r h => ?_, fun i d h => ?_, k.trk⟩⟩
  · by_cases hb : b = a
    · subst hb; rw [upd_same] at q; cases q; exact ho
    · rw [upd_ne hb] at q; exact k.sub.same b u q
  · by_cases hb : b = a
    · subst hb; rw [upd_same] at n; cases n
    · rw [upd_ne hb] at n; exact k.sub.loose b u q n
  · obtain ⟨v, e1, q⟩ := k.rslot i r h
    exact ⟨v, e1, q.mono (List.prefix_refl _) sm _ _⟩
  · by_cases hi : j = i
    · subst hi
      have hlt := (List.getElem?_eq_some_iff.mp hj).1
      rw [List.getElem?_set_self hlt] at h
      cases h
    · rw [List.getElem?_set_ne hi] at h
      obtain ⟨b, e1, f, q⟩ := k.cell i d h
      have hb : b ≠ a := fun z => hi (idx_nodup k.nd ha (z ▸ e1))
      exact ⟨b, e1, by rw [upd_ne hb]; exact f, q.mono (List.prefix_refl _) sm fun u hu => hu⟩
/-- .. a list of data -/
theorem Ok.seal (k : Ok K A F H S σ) {j : Nat} {ds : List PyData} (hj : S.os[j]? = some (some (.lst ds))) :
    ∃ a F', A[j]? = some a ∧ Same F F' ∧ Rp K F' (.ref a) (.list ds) ∧ Ok K A F' H { S with os := S.os.set j none } σ ∧ ∀ b, b ≠ a → F' b = F b := by
  obtain ⟨a, ha, fa, vs, hv, r, hz⟩ := k.cell j _ hj
  obtain ⟨sm, k'⟩ := k.sealO hj ha hv
  exact ⟨a, _, ha, sm, .lst upd_same (Rps.mono sm _ _ r) hz, k', fun b hb => upd_ne hb⟩
theorem Ok.setR (k : Ok K A F H S σ) {i : Nat} {r : R} {v : V} (q : Rr K A F v r) : Ok K A F H { S with sl := S.sl.set i (some r) } (σ.set i (some v)) := by
  refine ⟨k.sub, by simp [k.len], k.alen, k.nd, fun n e h => ?_, k.cell, k.trk⟩
  by_cases hi : i = n
  · subst hi
    have hlt : i < S.sl.length := by
      have := (List.getElem?_eq_some_iff.mp h).1
      simpa using this
    rw [List.getElem?_set_self hlt] at h
    cases h
    exact ⟨v, by rw [List.getElem?_set_self (by rw [← k.len]; exact hlt)], q⟩
  · rw [List.getElem?_set_ne hi] at h ⊢
    exact k.rslot n e h
theorem Ok.setDat (k : Ok K A F H S σ) {i : Nat} {d : PyData} {v : V} (r : Rp K F v d) : Ok K A F H { S with sl := S.sl.set i (some (.dat d)) } (σ.set i (some v)) := k.setR (.dat r)
theorem Ok.setOwn (k : Ok K A F H S σ) {i j : Nat} {a : Addr} (ha : A[j]? = some a) : Ok K A F H { S with sl := S.sl.set i (some (.own j)) } (σ.set i (some (.ref a))) := k.setR (.own ha)
theorem set_at {α : Type} {l : List (Option α)} {i : Nat} {v : α} (hv : l[i]? = some (some v)) : l.set i (some v) = l := by
  apply List.ext_getElem?
  intro n
  by_cases hi : i = n
  · subst hi
    rw [List.getElem?_set_self (List.getElem?_eq_some_iff.mp hv).1, hv]
  · rw [List.getElem?_set_ne hi]
/-- the slot's thing told otherwise, the value as it was -/
theorem Ok.rAt (k : Ok K A F H S σ) {i : Nat} {r : R} {v : V} (hv : σ[i]? = some (some v)) (q : Rr K A F v r) : Ok K A F H { S with sl := S.sl.set i (some r) } σ := by
  have := k.setR (i := i) q
  rwa [set_at hv] at this
theorem Ok.datAt (k : Ok K A F H S σ) {i : Nat} {d : PyData} {v : V} (hv : σ[i]? = some (some v)) (r : Rp K F v d) : Ok K A F H { S with sl := S.sl.set i (some (.dat d)) } σ := k.rAt hv (.dat r)
end
end Fu

set_option maxHeartbeats 4000000
namespace Fu
open PySem PySem.Spec PyProof.Rows L2

theorem bind_inv {α β : Type} {x : Option α} {f : α → Option β} {b : β} (h : x.bind f = some b) : ∃ a, x = some a ∧ f a = some b := by
  cases x with
  | none => cases h
  | some a => exact ⟨a, rfl, h⟩

/-! ### the judgements: an expression's reading meets a function on states -/
def RdE (K : PySem.W.Frag) (t : TE) (g : M D) : Prop := ∀ A F H S σ d S' (Q : VK), Ok K A F H S σ → g S = some (d, S') →
  (∀ A' F' H' v, A <+: A' → Same F F' → Ok K A' F' H' S' σ → Rp K F' v d → Q v H') → t σ H Q
def RdT (K : PySem.W.Frag) (t : TT) (g : M Bool) : Prop := ∀ A F H S σ b S' (Q : Bool → Hp → Prop), Ok K A F H S σ → g S = some (b, S') →
  (∀ A' F' H', A <+: A' → Same F F' → Ok K A' F' H' S' σ → Q b H') → t σ H Q
def RdA (K : PySem.W.Frag) (t : TA) (g : M (List D)) : Prop := ∀ A F H S σ ds S' (Q : List V → Hp → Prop), Ok K A F H S σ → g S = some (ds, S') →
  (∀ A' F' H' vs, A <+: A' → Same F F' → Ok K A' F' H' S' σ → Rps K F' vs ds → Q vs H') → t σ H Q
structure GE (X : Cx) (e : Expr) (g : M D) : Prop where
  ex : ∃ t, PE X e t ∧ RdE X.K t g
structure GT (X : Cx) (e : Expr) (g : M Bool) : Prop where
  ex : ∃ t, PT X e t ∧ RdT X.K t g
structure GW (X : Cx) (e : Expr) (g : M Bool) : Prop where
  ex : ∃ t, PW X e t ∧ RdT X.K t g
structure GA (X : Cx) (es : List Expr) (g : M (List D)) : Prop where
  ex : ∃ t, PA X es t ∧ RdA X.K t g

/-! ### names and constants -/
def gVar (i : Nat) : M D := fun S => match S.sl[i]? with
  | some (some (.dat d)) => some (d, S)
  | some (some (.own j)) => match S.os[j]? with
    | some (some (.lst ds)) => some (.list ds, ⟨S.sl.set i (some (.dat (.list ds))), S.os.set j none⟩)
    | _ => none
  | _ => none
def gC (d : D) : M D := fun S => some (d, S)
section
variable {X : Cx} {pos : Pos}
theorem rd_var {K : PySem.W.Frag} (i : Nat) : RdE K (tVar i) (gVar i) := by
  intro A F H S σ d S' Q k h post
  unfold gVar at h
  cases e : S.sl[i]? with
  | none => rw [e] at h; cases h
  | some r =>
    cases r with
    | none => rw [e] at h; cases h
    | some r =>
      cases r with
      | dat d' =>
        rw [e] at h; cases h
        obtain ⟨v, ev, r⟩ := k.slot i _ e
        exact ⟨v, ev, post A F H v (List.prefix_refl _) (Same.refl F) k r⟩
      | scr ns => rw [e] at h; cases h
      | tup rs => rw [e] at h; cases h
      | exc c => rw [e] at h; cases h
      | own j =>
        rw [e] at h
        simp only at h
        cases e2 : S.os[j]? with
        | none => rw [e2] at h; cases h
        | some c =>
          cases c with
          | none => rw [e2] at h; cases h
          | some c =>
            cases c with
            | lst ds =>
              rw [e2] at h; cases h
              obtain ⟨a, ha, ev⟩ := k.oslot i j e
              obtain ⟨a', F', ha', sm, r, k', _⟩ := k.seal e2
              rw [ha] at ha'; cases ha'
              exact ⟨_, ev, post A F' H _ (List.prefix_refl _) sm (k'.datAt ev r) r⟩
            | lR _ => rw [e2] at h; cases h
            | dR _ => rw [e2] at h; cases h
            | tR _ => rw [e2] at h; cases h
theorem e_var (i : Nat) {x : Str} (hN : X.N[i]? = some x := by rfl) (hv : Vis X.env.scope x := by first | exact Or.inl rfl | exact Or.inr (Or.inl rfl) | exact Or.inr (Or.inr rfl)) (hd : (x == ("__debug__" : Str)) = false := by decide)
    (hcd : (x == ("__classdict__" : Str)) = false := by decide) : GE X (.Name x pos) (gVar i) := ⟨_, pe_var hN hv hd hcd, rd_var i⟩
theorem rd_c {K : PySem.W.Frag} {v : V} {d : D} (r : ∀ F, Rp K F v d) : RdE K (tC v) (gC d) := by
  intro A F H S σ d' S' Q k h post
  cases h
  exact post A F H v (List.prefix_refl _) (Same.refl F) k (r F)
theorem e_int {i : Int} {j} : GE X (.Constant (.int i) j pos) (gC (.int i)) := ⟨_, pe_int, rd_c fun _ => .int i⟩
theorem e_bl {b : Bool} {j} : GE X (.Constant (.bool b) j pos) (gC (.bool b)) := ⟨_, pe_bl, rd_c fun _ => .bl b⟩
theorem e_non {j} : GE X (.Constant .none j pos) (gC .none) := ⟨_, pe_non, rd_c fun _ => .non⟩
theorem e_str {x : Str} {j} (hz : x.length ≤ sizeLine := by decide) : GE X (.Constant (.str x) j pos) (gC (.str x)) := ⟨_, pe_str, rd_c fun _ => .str hz⟩
/-- a module's constant -/
theorem e_gint {x : Str} {i : Int} {t : Tok} (hm : X.mg x = some (.int i t)) (hg : Gl X x := by rfl) (hd : (x == ("__debug__" : Str)) = false := by decide) : GE X (.Name x pos) (gC (.int i)) := ⟨_, pe_glob (v := .int i) hg hm ⟨t, rfl⟩ hd, rd_c fun _ => .int i⟩
end

/-! ### operators by values -/
def RdOp (K : PySem.W.Frag) (r : R2) (f : D → D → Option D) : Prop := ∀ A F H S σ x y d e z Q, Ok K A F H S σ → Rp K F x d → Rp K F y e → f d e = some z →
  (∀ F' H' v, Same F F' → Ok K A F' H' S σ → Rp K F' v z → Q v H') → r x y H Q
def gBin (f : D → D → Option D) (ga gb : M D) : M D := fun S => (ga S).bind fun p => (gb p.2).bind fun q => (f p.1 q.1).bind fun z => some (z, q.2)
section
variable {X : Cx} {pos : Pos} {a b : Expr} {ga gb : M D}
theorem rd_op {K : PySem.W.Frag} {r : R2} {f : D → D → Option D} {ta tb : TE} (hf : RdOp K r f) (ra : RdE K ta ga) (rb : RdE K tb gb) : RdE K (tOp r ta tb) (gBin f ga gb) := by
  intro A F H S σ d S' Q k h post
  obtain ⟨⟨x, S1⟩, h1, h⟩ := bind_inv h
  obtain ⟨⟨y, S2⟩, h2, h⟩ := bind_inv h
  obtain ⟨z, h3, h⟩ := bind_inv h
  cases h
  refine ra A F H S σ x S1 _ k h1 fun A1 F1 H1 v1 p1 s1 k1 r1 => rb A1 F1 H1 S1 σ y S2 _ k1 h2 fun A2 F2 H2 v2 p2 s2 k2 r2 => ?_
  exact hf A2 F2 H2 _ σ v1 v2 x y _ Q k2 (r1.mono s2 _ _) r2 h3 fun F3 H3 v s3 k3 r3 => post A2 F3 H3 v (p1.trans p2) (s1.trans (s2.trans s3)) k3 r3
theorem e_op {op : Operator} {r : R2} {f : D → D → Option D} (ho : OpR X (binaryOp op) r) (hf : RdOp X.K r f) (ha : GE X a ga) (hb : GE X b gb) : GE X (.BinOp a op b pos) (gBin f ga gb) :=
  let ⟨_, pa, ra⟩ := ha.ex; let ⟨_, pb, rb⟩ := hb.ex; ⟨_, pe_op ho pa pb, rd_op hf ra rb⟩
theorem e_cmpR {op : CmpOp} {r : R2} {f : D → D → Option D} (ho : OpR X (compareOp op) r) (hf : RdOp X.K r f) (hm : behindInMarks op b = false) (ha : GE X a ga) (hb : GE X b gb) : GE X (.Compare a [op] [b] pos) (gBin f ga gb) :=
  let ⟨_, pa, ra⟩ := ha.ex; let ⟨_, pb, rb⟩ := hb.ex; ⟨_, pe_cmpR ho pa pb hm, rd_op hf ra rb⟩
def gB (g : M D) : M Bool := fun S => (g S).bind fun p => match p.1 with
  | .bool b => some (b, p.2)
  | _ => none
theorem rd_test {K : PySem.W.Frag} {t : TE} {g : M D} (h : RdE K t g) : RdT K (tB t) (gB g) := by
  intro A F H S σ b S' Q k e post
  obtain ⟨⟨d, S1⟩, h1, e⟩ := bind_inv e
  refine h A F H S σ d S1 _ k h1 fun A1 F1 H1 v p1 s1 k1 r1 => ?_
  cases d <;> simp only at e <;> cases e
  cases r1
  exact ⟨_, rfl, post A1 F1 H1 p1 s1 k1⟩
theorem t_cmpR {op : CmpOp} {r : R2} {f : D → D → Option D} (ho : OpR X (compareOp op) r) (hf : RdOp X.K r f) (hm : behindInMarks op b = false) (ha : GE X a ga) (hb : GE X b gb) : GT X (.Compare a [op] [b] pos) (gB (gBin f ga gb)) :=
  let ⟨_, pa, ra⟩ := ha.ex; let ⟨_, pb, rb⟩ := hb.ex; ⟨_, pt_cmpR ho pa pb hm, rd_test (rd_op hf ra rb)⟩
theorem t_val {e : Expr} {g : M D} (h : GE X e g) (he : ∀ whole, isTrue e X.env whole = (do let v ← whole; standAt e.pos; holding [v] (truthy v)) := by intro _; rfl) : GT X e (gB g) :=
  let ⟨_, pe, re⟩ := h.ex; ⟨_, pt_val pe he, rd_test re⟩

/-! ### the operators -/
def dAdd : D → D → Option D
  | .int i, .int j => some (.int (i + j))
  | .str x, .str y => if x.length + y.length ≤ sizeLine then some (.str (x ++ y)) else none
  | .list xs, .list ys => if xs.length + ys.length ≤ sizeLine then some (.list (xs ++ ys)) else none
  | .tuple xs, .tuple ys => if xs.length + ys.length ≤ sizeLine then some (.tuple (xs ++ ys)) else none
  | _, _ => none

end

section
variable {K : PySem.W.Frag}
theorem rps_upd {F : Hp} {p : Addr} {o : HO} {vs : List V} {ds : List D} (h : F p = none) (r : Rps K F vs ds) : Rps K (upd F p o) vs ds := Rps.mono (same_upd h) _ _ r
/-- a new list, a new tuple, known for good -/
theorem Ok.newList {A : List Addr} {F H : Hp} {S : Sx} {σ : L2.St} (k : Ok K A F H S σ) {p : Addr} {vs : List V} {ds : List D} (hp : H p = none) (r : Rps K F vs ds) (hz : ds.length ≤ sizeLine) :
    Same F (upd F p (.lst vs)) ∧ Ok K A (upd F p (.lst vs)) (upd H p (.lst vs)) S σ ∧ Rp K (upd F p (.lst vs)) (.ref p) (.list ds) :=
  have fp := k.sub.none hp
  ⟨same_upd fp, k.laid hp, .lst upd_same (rps_upd fp r) hz⟩
theorem Ok.newTup {A : List Addr} {F H : Hp} {S : Sx} {σ : L2.St} (k : Ok K A F H S σ) {p : Addr} {vs : List V} {ds : List D} (hp : H p = none) (r : Rps K F vs ds) (hz : ds.length ≤ sizeLine) :
    Same F (upd F p (.tup vs)) ∧ Ok K A (upd F p (.tup vs)) (upd H p (.tup vs)) S σ ∧ Rp K (upd F p (.tup vs)) (.ref p) (.tuple ds) :=
  have fp := k.sub.none hp
  ⟨same_upd fp, k.laid hp, .tup (.inl (.inl upd_same)) (rps_upd fp r) hz⟩
theorem rp_list_inv {F : Hp} {v : V} {ds : List D} (h : Rp K F v (.list ds)) : ∃ a xs, v = .ref a ∧ F a = some (.lst xs) ∧ Rps K F xs ds ∧ ds.length ≤ sizeLine := by
  cases h with
  | lst h1 h2 h3 => exact ⟨_, _, rfl, h1, h2, h3⟩
theorem rp_tup_inv {F : Hp} {v : V} {ds : List D} (h : Rp K F v (.tuple ds)) : ∃ a xs, v = .ref a ∧ SqT K F a xs ∧ Rps K F xs ds ∧ ds.length ≤ sizeLine := by
  cases h with
  | tup h1 h2 h3 => exact ⟨_, _, rfl, h1, h2, h3⟩
theorem rp_str_inv {F : Hp} {v : V} {x : Str} (h : Rp K F v (.str x)) : v = .str x ∧ x.length ≤ sizeLine := by
  cases h with
  | str h => exact ⟨rfl, h⟩
theorem rp_int_inv {F : Hp} {v : V} {i : Int} (h : Rp K F v (.int i)) : v = .int i := by cases h; rfl
theorem rp_bool_inv {F : Hp} {v : V} {i : Bool} (h : Rp K F v (.bool i)) : v = .bl i := by cases h; rfl

def rAddAny (K : PySem.W.Frag) : R2 := fun x y H Q => (rI0 (fun i j => .int (i + j)) x y H Q) ∨ (∃ i j, x = .str i ∧ y = .str j ∧ i.length + j.length ≤ sizeLine ∧ Q (.str (i ++ j)) H) ∨ rCat x y H Q ∨ rCatA K x y H Q
theorem op_addAny {X : Cx} : OpR X (binaryOp .Add) (rAddAny X.K) := OpR.or op_add (OpR.or op_add_str (OpR.or op_cat op_catA))
theorem str_app_len (x y : Str) : (x ++ y).length = x.length + y.length := by
  show (Str.append x y).length = _
  simp [Str.append, Str.length]
theorem rd_add : RdOp K (rAddAny K) dAdd := by
  intro A F H S σ x y d e z Q k rx ry h post
  have id1 : ∀ v, Rp K F v z → Q v H := fun v r => post F H v (Same.refl F) k r
  cases d <;> cases e <;> simp only [dAdd] at h <;> try cases h
  · cases rp_int_inv rx; cases rp_int_inv ry
    exact .inl ⟨_, _, rfl, rfl, id1 _ (.int _)⟩
  · split at h
    · rename_i hz
      cases h
      obtain ⟨rfl, _⟩ := rp_str_inv rx
      obtain ⟨rfl, _⟩ := rp_str_inv ry
      exact .inr (.inl ⟨_, _, rfl, rfl, hz, id1 _ (.str (by rw [str_app_len]; exact hz))⟩)
    · cases h
  · split at h
    · rename_i hz
      cases h
      obtain ⟨a, xs, rfl, h1, h2, _⟩ := rp_list_inv rx
      obtain ⟨b, ys, rfl, g1, g2, _⟩ := rp_list_inv ry
      refine .inr (.inr (.inl ⟨a, b, xs, ys, rfl, rfl, k.sub.same _ _ h1, k.sub.same _ _ g1, by rw [h2.length, g2.length]; exact hz, fun p hp => ?_⟩))
      obtain ⟨s1, k1, r1⟩ := k.newList hp (h2.append g2) (by rw [List.length_append]; exact hz)
      exact post _ _ _ s1 k1 r1
    · cases h
  · split at h
    · rename_i hz
      cases h
      obtain ⟨a, xs, rfl, h1, h2, _⟩ := rp_tup_inv rx
      obtain ⟨b, ys, rfl, g1, g2, _⟩ := rp_tup_inv ry
      refine .inr (.inr (.inr ⟨a, b, xs, ys, rfl, rfl, sqT_same k.sub.same h1, sqT_same k.sub.same g1, by rw [h2.length, g2.length]; exact hz, fun e => ?_, fun e1 e2 => ?_, fun e1 e2 p hp => ?_⟩))
      · subst e
        cases h2
        exact id1 _ (by simpa using ry)
      · subst e2
        cases g2
        exact id1 _ (by simpa using rx)
      · obtain ⟨s1, k1, r1⟩ := k.newTup hp (h2.append g2) (by rw [List.length_append]; exact hz)
        exact post _ _ _ s1 k1 r1
    · cases h

/-! ### other operators on ints -/
def dSub : D → D → Option D
  | .int i, .int j => some (.int (i - j))
  | _, _ => none
theorem rd_sub : RdOp K (rI0 fun i j => .int (i - j)) dSub := by
  intro A F H S σ x y d e z Q k rx ry h post
  cases d <;> cases e <;> simp only [dSub] at h <;> cases h
  cases rp_int_inv rx; cases rp_int_inv ry
  exact ⟨_, _, rfl, rfl, post F H _ (Same.refl F) k (.int _)⟩
end
end Fu

set_option maxHeartbeats 4000000
namespace Fu
open PySem PySem.Spec PyProof.Rows L2
section
variable {K : PySem.W.Frag}
/-! ### products, quotients, rests, powers -/
instance (i j : Int) : Decidable (CMulW i j) := inferInstanceAs (Decidable (_ < _))
instance (i j : Int) : Decidable (CDivW i j) := inferInstanceAs (Decidable (_ ∧ _))
instance (i j : Int) : Decidable (CPow i j) := inferInstanceAs (Decidable (_ ∧ _ ∧ _))
def dMul : D → D → Option D
  | .int i, .int j => if CMulW i j then some (.int (i * j)) else none
  | .list xs, .int k => if -(2 ^ 63) ≤ k ∧ k < 2 ^ 63 ∧ xs.length * k.toNat ≤ sizeLine then some (.list (List.replicate k.toNat xs).flatten) else none
  | _, _ => none
def rMulAny : R2 := fun x y H Q => rI CMulW (fun i j => .int (i * j)) x y H Q ∨ rRep x y H Q
theorem op_mulAny {X : Cx} : OpR X (binaryOp .Mult) rMulAny := OpR.or op_mulW op_rep
theorem rd_mul : RdOp K rMulAny dMul := by
  intro A F H S σ x y d e z Q k rx ry h post
  cases d <;> cases e <;> simp only [dMul] at h <;> try cases h
  · split at h
    · rename_i hz
      cases h
      cases rp_int_inv rx; cases rp_int_inv ry
      exact .inl ⟨_, _, rfl, rfl, hz, post F H _ (Same.refl F) k (.int _)⟩
    · cases h
  · split at h
    · rename_i hz
      cases h
      obtain ⟨a, xs, rfl, h1, h2, _⟩ := rp_list_inv rx
      cases rp_int_inv ry
      refine .inr ⟨a, _, xs, rfl, rfl, k.sub.same _ _ h1, hz.1, hz.2.1, by rw [h2.length]; exact hz.2.2, fun p hp => ?_⟩
      obtain ⟨s1, k1, r1⟩ := k.newList hp (h2.rep _) (by rw [PyProof.Rows.lm_len_rep_flat, Nat.mul_comm]; exact hz.2.2)
      exact post _ _ _ s1 k1 r1
    · cases h
def dDiv : D → D → Option D
  | .int i, .int j => if CDivW i j then some (.int (i / j)) else none
  | _, _ => none
def dMod : D → D → Option D
  | .int i, .int j => if 0 < j then some (.int (i % j)) else none
  | _, _ => none
def dPow : D → D → Option D
  | .int i, .int j => if CPow i j then some (.int (i ^ j.toNat)) else none
  | _, _ => none
theorem rd_ii {C : Int → Int → Prop} [∀ i j, Decidable (C i j)] {f : Int → Int → Int} {g : D → D → Option D} (hg : ∀ d e z, g d e = some z → ∃ i j, d = .int i ∧ e = .int j ∧ C i j ∧ z = .int (f i j)) : RdOp K (rI C fun i j => .int (f i j)) g := by
  intro A F H S σ x y d e z Q k rx ry h post
  obtain ⟨i, j, rfl, rfl, c, rfl⟩ := hg d e z h
  cases rp_int_inv rx; cases rp_int_inv ry
  exact ⟨_, _, rfl, rfl, c, post F H _ (Same.refl F) k (.int _)⟩
theorem rd_div : RdOp K (rI CDivW fun i j => .int (i / j)) dDiv := rd_ii fun d e z h => by
  cases d <;> cases e <;> simp only [dDiv] at h <;> try cases h
  split at h
  · cases h; exact ⟨_, _, rfl, rfl, by assumption, rfl⟩
  · cases h
theorem rd_mod : RdOp K (rI (fun _ j => 0 < j) fun i j => .int (i % j)) dMod := rd_ii fun d e z h => by
  cases d <;> cases e <;> simp only [dMod] at h <;> try cases h
  split at h
  · cases h; exact ⟨_, _, rfl, rfl, by assumption, rfl⟩
  · cases h
theorem rd_pow : RdOp K (rI CPow fun i j => .int (i ^ j.toNat)) dPow := rd_ii fun d e z h => by
  cases d <;> cases e <;> simp only [dPow] at h <;> try cases h
  split at h
  · cases h; exact ⟨_, _, rfl, rfl, by assumption, rfl⟩
  · cases h

/-! ### comparisons -/
def dCmp (p : Int → Int → Bool) : D → D → Option D
  | .int i, .int j => some (.bool (p i j))
  | _, _ => none
theorem rd_cmp (p : Int → Int → Bool) : RdOp K (rI0 fun i j => .bl (p i j)) (dCmp p) := by
  intro A F H S σ x y d e z Q k rx ry h post
  cases d <;> cases e <;> simp only [dCmp] at h <;> cases h
  cases rp_int_inv rx; cases rp_int_inv ry
  exact ⟨_, _, rfl, rfl, post F H _ (Same.refl F) k (.bl _)⟩
def strEq : D → D → Option Bool
  | .str x, .str y => some (decide (x = y))
  | _, _ => none
def dEq (d e : D) : Option D := if SeqAt.shaped d = true ∧ SeqAt.shaped e = true then some (.bool (PyData.eqv d e)) else (strEq d e).map .bool
def dNe (d e : D) : Option D := if SeqAt.shaped d = true ∧ SeqAt.shaped e = true then some (.bool (!PyData.eqv d e)) else (strEq d e).map fun b => .bool (!b)
def rEqAny (K : PySem.W.Frag) : R2 := fun x y H Q => rEqD K x y H Q ∨ rEq x y H Q
def rNeAny (K : PySem.W.Frag) : R2 := fun x y H Q => rNeD K x y H Q ∨ rNe x y H Q
theorem op_eqAny {X : Cx} (hu : X.A.units + 64 < cLine) : OpR X (compareOp .Eq) (rEqAny X.K) := OpR.or (op_eqD hu) op_eq
theorem op_neAny {X : Cx} (hu : X.A.units + 64 < cLine) : OpR X (compareOp .NotEq) (rNeAny X.K) := OpR.or (op_neD hu) op_ne
theorem strEq_inv {d e : D} {b : Bool} (h : strEq d e = some b) : ∃ x y, d = .str x ∧ e = .str y ∧ b = decide (x = y) := by
  unfold strEq at h
  split at h
  · cases h; exact ⟨_, _, rfl, rfl, rfl⟩
  · cases h
theorem strV_eq (x y : Str) : decide (V.str x = V.str y) = decide (x = y) := by
  by_cases h : x = y
  · subst h; simp
  · rw [decide_eq_false h, decide_eq_false (fun z => h (by injection z))]
theorem Rp.dpH {F H : Hp} {v : V} {d : D} (s : Same F H) (c : SeqAt.shaped d = true) (r : Rp K F v d) : Dp K H v d := Rp.dp _ _ (SeqAt.canLay_of_shaped c) (r.mono s _ _)
theorem rd_eq : RdOp K (rEqAny K) dEq := by
  intro A F H S σ x y d e z Q k rx ry h post
  unfold dEq at h
  split at h
  · rename_i c
    cases h
    exact .inl ⟨d, e, rx.dpH k.sub.same c.1, ry.dpH k.sub.same c.2, c.1, c.2, post F H _ (Same.refl F) k (.bl _)⟩
  · obtain ⟨b, h1, rfl⟩ := Option.map_eq_some_iff.mp h
    obtain ⟨u, v, rfl, rfl, rfl⟩ := strEq_inv h1
    obtain ⟨rfl, _⟩ := rp_str_inv rx
    obtain ⟨rfl, _⟩ := rp_str_inv ry
    exact .inr ⟨rfl, post F H _ (Same.refl F) k (by rw [strV_eq]; exact .bl _)⟩
theorem rd_ne : RdOp K (rNeAny K) dNe := by
  intro A F H S σ x y d e z Q k rx ry h post
  unfold dNe at h
  split at h
  · rename_i c
    cases h
    exact .inl ⟨d, e, rx.dpH k.sub.same c.1, ry.dpH k.sub.same c.2, c.1, c.2, post F H _ (Same.refl F) k (.bl _)⟩
  · obtain ⟨b, h1, rfl⟩ := Option.map_eq_some_iff.mp h
    obtain ⟨u, v, rfl, rfl, rfl⟩ := strEq_inv h1
    obtain ⟨rfl, _⟩ := rp_str_inv rx
    obtain ⟨rfl, _⟩ := rp_str_inv ry
    exact .inr ⟨rfl, post F H _ (Same.refl F) k (by rw [strV_eq]; exact .bl _)⟩
/-- in a list, in a tuple, in a text -/
def dIn : D → D → Option D
  | .str x, .str y => some (.bool (!(Builtin.Str.occurrences y x 0 y.length 1).isEmpty))
  | d, .list ds => if SeqAt.shaped d = true ∧ SeqAt.shaped (.list ds) = true then some (.bool (ds.any fun z => PyData.eqv z d)) else none
  | d, .tuple ds => if SeqAt.shaped d = true ∧ SeqAt.shaped (.tuple ds) = true then some (.bool (ds.any fun z => PyData.eqv z d)) else none
  | _, _ => none
def rInT (K : PySem.W.Frag) : R2 := fun x y H Q => ∃ d ds, Dp K H x d ∧ Dp K H y (.tuple ds) ∧ SeqAt.shaped d = true ∧ SeqAt.shaped (.tuple ds) = true ∧ Q (.bl (ds.any fun z => PyData.eqv z d)) H
theorem op_inT {X : Cx} (hu : X.A.units + 65 < cLine) : OpR X (compareOp .In) (rInT X.K) := by
  intro pins s σ H x y v u Q I rx ry h
  obtain ⟨d, ds, hd, he, sd, se, q⟩ := h
  obtain ⟨as, r1⟩ := Dp.reads I d x v hd rx
  obtain ⟨bs, r2⟩ := Dp.reads I (.tuple ds) y u he ry
  exact SeqAt.in_tuple_reads r2 r1 (SeqAt.canLay_of_shaped se) (SeqAt.canLay_of_shaped sd) (room_in_shaped (xs := ds) sd hu) ⟨.bl _, H, I, rfl, q⟩
def rInAny (K : PySem.W.Frag) : R2 := fun x y H Q => (∃ i j, x = .str i ∧ y = .str j ∧ Q (.bl (!(Builtin.Str.occurrences j i 0 j.length 1).isEmpty)) H) ∨ rInD K x y H Q ∨ rInT K x y H Q
theorem op_inAny {X : Cx} (hu : X.A.units + 65 < cLine) : OpR X (compareOp .In) (rInAny X.K) := OpR.or op_in_str (OpR.or (op_inD hu) (op_inT hu))
theorem rd_in : RdOp K (rInAny K) dIn := by
  intro A F H S σ x y d e z Q k rx ry h post
  have fin : ∀ b, z = .bool b → Q (.bl b) H := fun b e => by subst e; exact post F H _ (Same.refl F) k (.bl _)
  unfold dIn at h
  split at h
  · cases h
    obtain ⟨rfl, _⟩ := rp_str_inv rx
    obtain ⟨rfl, _⟩ := rp_str_inv ry
    exact .inl ⟨_, _, rfl, rfl, fin _ rfl⟩
  · split at h
    · rename_i c
      cases h
      exact .inr (.inl ⟨_, _, rx.dpH k.sub.same c.1, ry.dpH k.sub.same c.2, c.1, c.2, fin _ rfl⟩)
    · cases h
  · split at h
    · rename_i c
      cases h
      exact .inr (.inr ⟨_, _, rx.dpH k.sub.same c.1, ry.dpH k.sub.same c.2, c.1, c.2, fin _ rfl⟩)
    · cases h
  · cases h
theorem rp_ne_non {F : Hp} {v : V} {d : D} (r : Rp K F v d) (h : d = .none → False) : decide (v = V.non) = false := by
  cases r <;> first | exact (h rfl).elim | simp
end

/-! ### the expressions' rules by operators -/
section
variable {X : Cx} {pos : Pos} {a b c : Expr} {ga gb gc : M D}
theorem e_add (ha : GE X a ga) (hb : GE X b gb) : GE X (.BinOp a .Add b pos) (gBin dAdd ga gb) := e_op op_addAny rd_add ha hb
theorem e_sub (ha : GE X a ga) (hb : GE X b gb) : GE X (.BinOp a .Sub b pos) (gBin dSub ga gb) := e_op op_sub rd_sub ha hb
theorem e_mul (ha : GE X a ga) (hb : GE X b gb) : GE X (.BinOp a .Mult b pos) (gBin dMul ga gb) := e_op op_mulAny rd_mul ha hb
theorem e_div (ha : GE X a ga) (hb : GE X b gb) : GE X (.BinOp a .FloorDiv b pos) (gBin dDiv ga gb) := e_op op_fdivW rd_div ha hb
theorem e_mod (ha : GE X a ga) (hb : GE X b gb) : GE X (.BinOp a .Mod b pos) (gBin dMod ga gb) := e_op op_mod rd_mod ha hb
theorem e_pow (ha : GE X a ga) (hb : GE X b gb) : GE X (.BinOp a .Pow b pos) (gBin dPow ga gb) := e_op op_pow rd_pow ha hb
abbrev dLt := dCmp fun i j => decide (i < j)
abbrev dLe := dCmp fun i j => decide (i ≤ j)
abbrev dGt := dCmp fun i j => decide (j < i)
abbrev dGe := dCmp fun i j => decide (j ≤ i)
theorem e_lt (ha : GE X a ga) (hb : GE X b gb) : GE X (.Compare a [.Lt] [b] pos) (gBin dLt ga gb) := e_cmpR op_lt (rd_cmp _) (nomark _) ha hb
theorem e_ge (ha : GE X a ga) (hb : GE X b gb) : GE X (.Compare a [.GtE] [b] pos) (gBin dGe ga gb) := e_cmpR op_ge (rd_cmp _) (nomark _) ha hb
theorem e_eq (hu : X.A.units + 64 < cLine) (ha : GE X a ga) (hb : GE X b gb) : GE X (.Compare a [.Eq] [b] pos) (gBin dEq ga gb) := e_cmpR (op_eqAny hu) rd_eq (nomark _) ha hb
theorem e_ne (hu : X.A.units + 64 < cLine) (ha : GE X a ga) (hb : GE X b gb) : GE X (.Compare a [.NotEq] [b] pos) (gBin dNe ga gb) := e_cmpR (op_neAny hu) rd_ne (nomark _) ha hb
theorem t_gt (ha : GE X a ga) (hb : GE X b gb) : GT X (.Compare a [.Gt] [b] pos) (gB (gBin dGt ga gb)) := t_cmpR op_gt (rd_cmp _) (nomark _) ha hb
theorem t_ge (ha : GE X a ga) (hb : GE X b gb) : GT X (.Compare a [.GtE] [b] pos) (gB (gBin dGe ga gb)) := t_cmpR op_ge (rd_cmp _) (nomark _) ha hb
theorem t_eq (hu : X.A.units + 64 < cLine) (ha : GE X a ga) (hb : GE X b gb) : GT X (.Compare a [.Eq] [b] pos) (gB (gBin dEq ga gb)) := t_cmpR (op_eqAny hu) rd_eq (nomark _) ha hb
theorem t_ne (hu : X.A.units + 64 < cLine) (ha : GE X a ga) (hb : GE X b gb) : GT X (.Compare a [.NotEq] [b] pos) (gB (gBin dNe ga gb)) := t_cmpR (op_neAny hu) rd_ne (nomark _) ha hb
theorem t_in (hu : X.A.units + 65 < cLine) (ha : GE X a ga) (hb : GE X b gb) (hm : behindInMarks .In b = false := by rfl) : GT X (.Compare a [.In] [b] pos) (gB (gBin dIn ga gb)) := t_cmpR (op_inAny hu) rd_in hm ha hb
/-! ### and, or, not, if -/
def gAnd (g h : M Bool) : M Bool := fun S => (g S).bind fun p => if p.1 = true then h p.2 else some (false, p.2)
def gOr (g h : M Bool) : M Bool := fun S => (g S).bind fun p => if p.1 = true then some (true, p.2) else h p.2
def gNot (g : M Bool) : M Bool := fun S => (g S).bind fun p => some (!p.1, p.2)
def gIf (t : M Bool) (g h : M D) : M D := fun S => (t S).bind fun p => if p.1 = true then g p.2 else h p.2
variable {rest : List Expr} {g h : M Bool}
theorem w_and1 (ha : GT X a g) : GW X (.BoolOp .And [a] pos) g := let ⟨_, pa, ra⟩ := ha.ex; ⟨_, pw_and1 pa, ra⟩
theorem w_or1 (ha : GT X a g) : GW X (.BoolOp .Or [a] pos) g := let ⟨_, pa, ra⟩ := ha.ex; ⟨_, pw_or1 pa, ra⟩
theorem rd_and {K : PySem.W.Frag} {t u : TT} (ha : RdT K t g) (hb : RdT K u h) : RdT K (tAnd t u) (gAnd g h) := by
  intro A F H S σ d S' Q k e post
  obtain ⟨⟨x, S1⟩, h1, e⟩ := bind_inv e
  refine ha A F H S σ x S1 _ k h1 fun A1 F1 H1 p1 s1 k1 => ?_
  cases x with
  | true => exact hb A1 F1 H1 S1 σ d S' Q k1 e fun A2 F2 H2 p2 s2 k2 => post A2 F2 H2 (p1.trans p2) (s1.trans s2) k2
  | false =>
    cases e
    exact post A1 F1 H1 p1 s1 k1
theorem rd_or {K : PySem.W.Frag} {t u : TT} (ha : RdT K t g) (hb : RdT K u h) : RdT K (tOr t u) (gOr g h) := by
  intro A F H S σ d S' Q k e post
  obtain ⟨⟨x, S1⟩, h1, e⟩ := bind_inv e
  refine ha A F H S σ x S1 _ k h1 fun A1 F1 H1 p1 s1 k1 => ?_
  cases x with
  | false => exact hb A1 F1 H1 S1 σ d S' Q k1 e fun A2 F2 H2 p2 s2 k2 => post A2 F2 H2 (p1.trans p2) (s1.trans s2) k2
  | true =>
    cases e
    exact post A1 F1 H1 p1 s1 k1
theorem w_and (ha : GT X a g) (hb : GW X (.BoolOp .And (b :: rest) pos) h) : GW X (.BoolOp .And (a :: b :: rest) pos) (gAnd g h) :=
  let ⟨_, pa, ra⟩ := ha.ex; let ⟨_, pb, rb⟩ := hb.ex; ⟨_, pw_and pa pb, rd_and ra rb⟩
theorem w_or (ha : GT X a g) (hb : GW X (.BoolOp .Or (b :: rest) pos) h) : GW X (.BoolOp .Or (a :: b :: rest) pos) (gOr g h) :=
  let ⟨_, pa, ra⟩ := ha.ex; let ⟨_, pb, rb⟩ := hb.ex; ⟨_, pw_or pa pb, rd_or ra rb⟩
theorem t_w {e : Expr} (hw : GW X e g) : GT X e g := let ⟨_, pa, ra⟩ := hw.ex; ⟨_, pa.pt, ra⟩
theorem t_not (ha : GT X a g) : GT X (.UnaryOp .Not a pos) (gNot g) := by
  obtain ⟨t, pa, ra⟩ := ha.ex
  refine ⟨_, pt_not pa, fun A F H S σ d S' Q k e post => ?_⟩
  obtain ⟨⟨x, S1⟩, h1, e⟩ := bind_inv e
  cases e
  exact ra A F H S σ x _ _ k h1 post
/-- as values -/
def gAndV (g h : M D) : M D := fun S => (g S).bind fun p => match p.1 with
  | .bool true => h p.2
  | .bool false => some (.bool false, p.2)
  | _ => none
def gOrV (g h : M D) : M D := fun S => (g S).bind fun p => match p.1 with
  | .bool true => some (.bool true, p.2)
  | .bool false => h p.2
  | _ => none
def gNotV (g : M D) : M D := fun S => (g S).bind fun p => match p.1 with
  | .bool b => some (.bool (!b), p.2)
  | _ => none
theorem e_one {op} (ha : GE X a ga) : GE X (.BoolOp op [a] pos) ga := let ⟨_, pa, ra⟩ := ha.ex; ⟨_, pe_one pa, ra⟩
theorem e_and (ha : GE X a ga) (hb : GE X (.BoolOp .And (b :: rest) pos) gb) : GE X (.BoolOp .And (a :: b :: rest) pos) (gAndV ga gb) := by
  obtain ⟨t, pa, ra⟩ := ha.ex
  obtain ⟨u, pb, rb⟩ := hb.ex
  refine ⟨_, pe_and pa pb, fun A F H S σ d S' Q k e post => ?_⟩
  obtain ⟨⟨x, S1⟩, h1, e⟩ := bind_inv e
  refine ra A F H S σ x S1 _ k h1 fun A1 F1 H1 v p1 s1 k1 r1 => ?_
  cases x <;> simp only at e <;> try cases e
  rename_i y
  cases rp_bool_inv r1
  refine ⟨y, rfl, ?_⟩
  cases y with
  | true => exact rb A1 F1 H1 S1 σ d S' Q k1 e fun A2 F2 H2 v p2 s2 k2 => post A2 F2 H2 v (p1.trans p2) (s1.trans s2) k2
  | false =>
    cases e
    exact post A1 F1 H1 _ p1 s1 k1 (.bl _)
theorem e_not (ha : GE X a ga) : GE X (.UnaryOp .Not a pos) (gNotV ga) := by
  obtain ⟨t, pa, ra⟩ := ha.ex
  refine ⟨_, pe_not pa, fun A F H S σ d S' Q k e post => ?_⟩
  obtain ⟨⟨x, S1⟩, h1, e⟩ := bind_inv e
  refine ra A F H S σ x S1 _ k h1 fun A1 F1 H1 v p1 s1 k1 r1 => ?_
  cases x <;> simp only at e <;> try cases e
  cases rp_bool_inv r1
  exact ⟨_, rfl, post A1 F1 H1 _ p1 s1 k1 (.bl _)⟩
theorem e_if (hc : GT X c g) (ha : GE X a ga) (hb : GE X b gb) : GE X (.IfExp c a b pos) (gIf g ga gb) := by
  obtain ⟨t, pc, rc⟩ := hc.ex
  obtain ⟨_, pa, ra⟩ := ha.ex
  obtain ⟨_, pb, rb⟩ := hb.ex
  refine ⟨_, pe_ifExp pc pa pb, fun A F H S σ d S' Q k e post => ?_⟩
  obtain ⟨⟨x, S1⟩, h1, e⟩ := bind_inv e
  refine rc A F H S σ x S1 _ k h1 fun A1 F1 H1 p1 s1 k1 => ?_
  cases x with
  | true => exact ra A1 F1 H1 S1 σ d S' Q k1 e fun A2 F2 H2 v p2 s2 k2 => post A2 F2 H2 v (p1.trans p2) (s1.trans s2) k2
  | false => exact rb A1 F1 H1 S1 σ d S' Q k1 e fun A2 F2 H2 v p2 s2 k2 => post A2 F2 H2 v (p1.trans p2) (s1.trans s2) k2
def gUn (f : D → Option D) (g : M D) : M D := fun S => (g S).bind fun p => (f p.1).bind fun z => some (z, p.2)
def dNeg : D → Option D
  | .int i => some (.int (-i))
  | _ => none
theorem e_neg (ha : GE X a ga) : GE X (.UnaryOp .USub a pos) (gUn dNeg ga) := by
  obtain ⟨t, pa, ra⟩ := ha.ex
  refine ⟨_, pe_un un_neg pa, fun A F H S σ d S' Q k e post => ?_⟩
  obtain ⟨⟨x, S1⟩, h1, e⟩ := bind_inv e
  obtain ⟨z, h2, e⟩ := bind_inv e
  cases e
  refine ra A F H S σ x _ _ k h1 fun A1 F1 H1 v p1 s1 k1 r1 => ?_
  cases x <;> simp only [dNeg] at h2 <;> cases h2
  cases rp_int_inv r1
  exact ⟨_, rfl, post A1 F1 H1 _ p1 s1 k1 (.int _)⟩

/-! ### arguments, displays -/
def gNil : M (List D) := fun S => some ([], S)
def gCons (g : M D) (gs : M (List D)) : M (List D) := fun S => (g S).bind fun p => (gs p.2).bind fun q => some (p.1 :: q.1, q.2)
variable {e : Expr} {es : List Expr} {ge : M D} {gs : M (List D)}
theorem a_nil : GA X [] gNil := ⟨_, pa_nil, fun A F H S σ d S' Q k e post => by cases e; exact post A F H _ (List.prefix_refl _) (Same.refl F) k .nil⟩
theorem a_cons (ha : GE X e ge) (hs : GA X es gs) (hst : starEach (e :: es) X.env = (false, eval e X.env) :: starEach es X.env := by rfl) : GA X (e :: es) (gCons ge gs) := by
  obtain ⟨t, pa, ra⟩ := ha.ex
  obtain ⟨u, pb, rb⟩ := hs.ex
  refine ⟨_, pa_cons pa pb hst, fun A F H S σ d S' Q k e post => ?_⟩
  obtain ⟨⟨x, S1⟩, h1, e⟩ := bind_inv e
  obtain ⟨⟨y, S2⟩, h2, e⟩ := bind_inv e
  cases e
  refine ra A F H S σ x S1 _ k h1 fun A1 F1 H1 v p1 s1 k1 r1 => rb A1 F1 H1 S1 σ y S2 _ k1 h2 fun A2 F2 H2 vs p2 s2 k2 r2 => ?_
  exact post A2 F2 H2 _ (p1.trans p2) (s1.trans s2) k2 (.cons (r1.mono s2 _ _) r2)
def gTup (g : M (List D)) : M D := fun S => (g S).bind fun p => if p.1.length ≤ sizeLine then some (.tuple p.1, p.2) else none
def gLst (g : M (List D)) : M D := fun S => (g S).bind fun p => if p.1.length ≤ sizeLine then some (.list p.1, p.2) else none
theorem e_tup {x1} (hs : GA X es gs) : GE X (.Tuple es x1 pos) (gTup gs) := by
  obtain ⟨u, pb, rb⟩ := hs.ex
  refine ⟨_, pe_tup pb, fun A F H S σ d S' Q k e post => ?_⟩
  obtain ⟨⟨x, S1⟩, h1, e⟩ := bind_inv e
  simp only at e
  split at e
  · rename_i hz
    cases e
    refine rb A F H S σ x _ _ k h1 fun A1 F1 H1 vs p1 s1 k1 r1 => ⟨by rw [r1.length]; exact hz, fun p hp => ?_⟩
    obtain ⟨s2, k2, r2⟩ := k1.newTup hp r1 hz
    exact post A1 _ _ _ p1 (s1.trans s2) k2 r2
  · cases e
theorem e_lst (hs : GA X es gs) : GE X (.List es pos) (gLst gs) := by
  obtain ⟨u, pb, rb⟩ := hs.ex
  refine ⟨_, pe_lst pb, fun A F H S σ d S' Q k e post => ?_⟩
  obtain ⟨⟨x, S1⟩, h1, e⟩ := bind_inv e
  simp only at e
  split at e
  · rename_i hz
    cases e
    refine rb A F H S σ x _ _ k h1 fun A1 F1 H1 vs p1 s1 k1 r1 => ⟨by rw [r1.length]; exact hz, fun p hp => ?_⟩
    obtain ⟨s2, k2, r2⟩ := k1.newList hp r1 hz
    exact post A1 _ _ _ p1 (s1.trans s2) k2 r2
  · cases e

/-! ### items, slices -/
def dIx : D → D → Option D
  | .list xs, .int i => atI xs i
  | .tuple xs, .int i => atI xs i
  | .str z, .int i => (atI z.cps.toList i).bind fun c => some (.str ⟨#[c]⟩)
  | _, _ => none
theorem rps_atI {K : PySem.W.Frag} {F : Hp} {vs : List V} {ds : List D} {i : Int} {d : D} (r : Rps K F vs ds) (h : atI ds i = some d) : ∃ v, atI vs i = some v ∧ Rp K F v d := by
  unfold atI at h ⊢
  rw [r.length]
  obtain ⟨j, h1, h2⟩ := bind_inv h
  rw [h1]
  exact r.get h2
def rIxAny (K : PySem.W.Frag) : R2 := fun x y H Q => rIxL K x y H Q ∨ rIxT K x y H Q ∨ rIxS x y H Q
theorem ix_any : IxR X (rIxAny X.K) := IxR.or ix_list (IxR.or ix_tup ix_str)
theorem one_len (c : Nat) : (⟨#[c]⟩ : Str).length ≤ sizeLine := by
  show 1 ≤ sizeLine
  decide
theorem rd_ix {K : PySem.W.Frag} : RdOp K (rIxAny K) dIx := by
  intro A F H S σ x y d e z Q k rx ry h post
  unfold dIx at h
  split at h
  · obtain ⟨a, xs, rfl, h1, h2, _⟩ := rp_list_inv rx
    cases rp_int_inv ry
    obtain ⟨v, e1, r⟩ := rps_atI h2 h
    exact .inl ⟨a, xs, _, v, rfl, rfl, SqL.of (k.sub.same _ _ h1), e1, post F H _ (Same.refl F) k r⟩
  · obtain ⟨a, xs, rfl, h1, h2, _⟩ := rp_tup_inv rx
    cases rp_int_inv ry
    obtain ⟨v, e1, r⟩ := rps_atI h2 h
    exact .inr (.inl ⟨a, xs, _, v, rfl, rfl, sqT_same k.sub.same h1, e1, post F H _ (Same.refl F) k r⟩)
  · obtain ⟨rfl, hz⟩ := rp_str_inv rx
    cases rp_int_inv ry
    obtain ⟨c, h1, h2⟩ := bind_inv h
    cases h2
    exact .inr (.inr ⟨_, _, c, rfl, rfl, hz, h1, post F H _ (Same.refl F) k (.str (one_len c))⟩)
  · cases h
theorem e_ix (ha : GE X a ga) (hb : GE X b gb) (hs : PlainIx b := by exact fun _ _ => rfl) : GE X (.Subscript a b pos) (gBin dIx ga gb) := by
  obtain ⟨t, pa, ra⟩ := ha.ex
  obtain ⟨u, pb, rb⟩ := hb.ex
  exact ⟨_, pe_ix ix_any pa pb hs, rd_op rd_ix ra rb⟩
/-- a slice's part -/
structure GO (X : Cx) (e : Option Expr) (g : M (Option Int)) : Prop where
  ex : ∃ t, PO X e t ∧ ∀ A F H S σ o S' (Q : Option Int → Hp → Prop), Ok X.K A F H S σ → g S = some (o, S') → (∀ A' F' H', A <+: A' → Same F F' → Ok X.K A' F' H' S' σ → Q o H') → t σ H Q
def gNo : M (Option Int) := fun S => some (none, S)
def gSo (g : M D) : M (Option Int) := fun S => (g S).bind fun p => match p.1 with
  | .int i => some (some i, p.2)
  | _ => none
theorem o_none : GO X none gNo := ⟨_, po_none, fun A F H S σ o S' Q k e post => by cases e; exact post A F H (List.prefix_refl _) (Same.refl F) k⟩
theorem o_some (ha : GE X a ga) : GO X (some a) (gSo ga) := by
  obtain ⟨t, pa, ra⟩ := ha.ex
  refine ⟨_, po_some pa, fun A F H S σ o S' Q k e post => ?_⟩
  obtain ⟨⟨x, S1⟩, h1, e⟩ := bind_inv e
  refine ra A F H S σ x _ _ k h1 fun A1 F1 H1 v p1 s1 k1 r1 => ?_
  cases x <;> simp only at e <;> cases e
  cases rp_int_inv r1
  exact ⟨_, rfl, post A1 F1 H1 p1 s1 k1⟩
def cutL {α : Type} (xs : List α) (lo hi : Option Int) : List α := (xs.drop (HT.sIx xs.length 0 lo)).take (HT.sIx xs.length xs.length hi - HT.sIx xs.length 0 lo)
theorem cutL_le {α : Type} (xs : List α) (lo hi : Option Int) : (cutL xs lo hi).length ≤ xs.length := by
  unfold cutL
  rw [List.length_take, List.length_drop]
  omega
def dSl : D → Option Int → Option Int → Option D
  | .list xs, lo, hi => some (.list (cutL xs lo hi))
  | .tuple xs, lo, hi => some (.tuple (cutL xs lo hi))
  | .str z, lo, hi => some (.str (cutS z lo hi))
  | _, _, _ => none
def gSl (g : M D) (gl gh : M (Option Int)) : M D := fun S => (g S).bind fun p => (gl p.2).bind fun q => (gh q.2).bind fun r => (dSl p.1 q.1 r.1).bind fun z => some (z, r.2)
def rSlAny (K : PySem.W.Frag) : V → Option Int → Option Int → Hp → VK → Prop := fun x lo hi H Q => rSlL K x lo hi H Q ∨ rSlA K x lo hi H Q ∨ rSlS x lo hi H Q
theorem sl_any : SlR X (rSlAny X.K) := SlR.or sl_list (SlR.or sl_tupA sl_str)
theorem rps_cut {K : PySem.W.Frag} {F : Hp} {vs : List V} {ds : List D} (r : Rps K F vs ds) (lo hi : Option Int) : Rps K F (cutV vs lo hi) (cutL ds lo hi) := by
  unfold cutV cutL
  rw [r.length]
  exact (r.drop _).take _
theorem rd_sl {K : PySem.W.Frag} {A : List Addr} {F H : Hp} {S : Sx} {σ : L2.St} {x : V} {d z : D} {lo hi : Option Int} {Q : VK} (k : Ok K A F H S σ) (rx : Rp K F x d) (h : dSl d lo hi = some z)
    (post : ∀ F' H' v, Same F F' → Ok K A F' H' S σ → Rp K F' v z → Q v H') : rSlAny K x lo hi H Q := by
  cases d <;> simp only [dSl] at h <;> cases h
  · obtain ⟨rfl, hz⟩ := rp_str_inv rx
    exact .inr (.inr ⟨_, rfl, hz, post F H _ (Same.refl F) k (.str (Nat.le_trans (cutS_length _ _ _) hz))⟩)
  · obtain ⟨a, xs, rfl, h1, h2, h3⟩ := rp_list_inv rx
    refine .inl ⟨a, xs, rfl, SqL.of (k.sub.same _ _ h1), fun p hp => ?_⟩
    obtain ⟨s1, k1, r1⟩ := k.newList hp (rps_cut h2 lo hi) (Nat.le_trans (cutL_le _ _ _) h3)
    exact post _ _ _ s1 k1 r1
  · obtain ⟨a, xs, rfl, h1, h2, h3⟩ := rp_tup_inv rx
    refine .inr (.inl ⟨a, xs, rfl, sqT_same k.sub.same h1, fun hw => ?_, fun _ p hp => ?_⟩)
    · refine post F H _ (Same.refl F) k ?_
      rename_i ds
      have : cutL ds lo hi = ds := by
        unfold cutL
        rw [← h2.length, hw.1, hw.2, h2.length]
        simp
      rw [this]
      exact rx
    · obtain ⟨s1, k1, r1⟩ := k.newTup hp (rps_cut h2 lo hi) (Nat.le_trans (cutL_le _ _ _) h3)
      exact post _ _ _ s1 k1 r1
theorem e_sl {lo hi : Option Expr} {p2 : Pos} {gl gh : M (Option Int)} (ha : GE X a ga) (hl : GO X lo gl) (hh : GO X hi gh) : GE X (.Subscript a (.Slice lo hi none p2) pos) (gSl ga gl gh) := by
  obtain ⟨t, pa, ra⟩ := ha.ex
  obtain ⟨_, pl, rl⟩ := hl.ex
  obtain ⟨_, ph, rh⟩ := hh.ex
  refine ⟨_, pe_slice sl_any pa pl ph, fun A F H S σ d S' Q k e post => ?_⟩
  obtain ⟨⟨x, S1⟩, h1, e⟩ := bind_inv e
  obtain ⟨⟨l, S2⟩, h2, e⟩ := bind_inv e
  obtain ⟨⟨u, S3⟩, h3, e⟩ := bind_inv e
  obtain ⟨z, h4, e⟩ := bind_inv e
  cases e
  refine ra A F H S σ x _ _ k h1 fun A1 F1 H1 v p1 s1 k1 r1 => rl A1 F1 H1 _ σ l _ _ k1 h2 fun A2 F2 H2 p2 s2 k2 => rh A2 F2 H2 _ σ u _ _ k2 h3 fun A3 F3 H3 p3 s3 k3 => ?_
  exact rd_sl k3 ((r1.mono s2 _ _).mono s3 _ _) h4 fun F4 H4 w s4 k4 r4 => post A3 F4 H4 w (p1.trans (p2.trans p3)) (s1.trans (s2.trans (s3.trans s4))) k4 r4
end
end Fu

set_option maxHeartbeats 4000000
namespace Fu
open PySem PySem.Spec PyProof.Rows L2

/-! ### calls of built-ins by name -/
def RdC (K : PySem.W.Frag) (r : List V → Hp → VK → Prop) (f : List D → Option D) : Prop := ∀ A F H S σ xs ds z Q, Ok K A F H S σ → Rps K F xs ds → f ds = some z →
  (∀ F' H' v, Same F F' → Ok K A F' H' S σ → Rp K F' v z → Q v H') → r xs H Q
def gCall (f : List D → Option D) (g : M (List D)) : M D := fun S => (g S).bind fun p => (f p.1).bind fun z => some (z, p.2)
section
variable {X : Cx} {pos p p2 : Pos} {x : Str} {e : Expr} {es : List Expr} {gs : M (List D)} {r : List V → Hp → VK → Prop} {f : List D → Option D} {id T : String}
theorem rd_callB {K : PySem.W.Frag} {t : TA} (hf : RdC K r f) (rs : RdA K t gs) : RdE K (tCB r t) (gCall f gs) := by
  intro A F H S σ d S' Q k h post
  obtain ⟨⟨ds, S1⟩, h1, h⟩ := bind_inv h
  obtain ⟨z, h2, h⟩ := bind_inv h
  cases h
  exact rs A F H S σ ds _ _ k h1 fun A1 F1 H1 vs p1 s1 k1 r1 => hf A1 F1 H1 _ σ vs ds _ Q k1 r1 h2 fun F2 H2 v s2 k2 r2 => post A1 F2 H2 v p1 (s1.trans s2) k2 r2
theorem e_callB (hc : CallR X (.builtin id) r) (hf : RdC X.K r f) (hm : X.mg x = none) (hv : bootBuiltins x = some (.builtin id)) (ha : GA X (e :: es) gs) (hg : Gl X x := by rfl) (hn : x ≠ "__name__" := by decide) (hdb : (x == ("__debug__" : Str)) = false := by decide)
    (he : starEach (e :: es) X.env = (false, eval e X.env) :: starEach es X.env := by rfl) (hpl : (backTo pos (starEach es X.env)).any (·.1) = false := by rfl) : GE X (.Call (.Name x p) (e :: es) [] pos) (gCall f gs) :=
  let ⟨_, pa, ra⟩ := ha.ex; ⟨_, pe_callB hc hg hm hv pa hn hdb he hpl, rd_callB hf ra⟩
theorem e_callTy (hc : CallR X (.type T) r) (hf : RdC X.K r f) (hm : X.mg x = none) (hv : bootBuiltins x = some (.type T)) (ha : GA X (e :: es) gs) (hg : Gl X x := by rfl) (hn : x ≠ "__name__" := by decide) (hdb : (x == ("__debug__" : Str)) = false := by decide)
    (he : starEach (e :: es) X.env = (false, eval e X.env) :: starEach es X.env := by rfl) (hpl : (backTo pos (starEach es X.env)).any (·.1) = false := by rfl) : GE X (.Call (.Name x p) (e :: es) [] pos) (gCall f gs) :=
  let ⟨_, pa, ra⟩ := ha.ex; ⟨_, pe_callTy hc hg hm hv pa hn hdb he hpl, rd_callB hf ra⟩
end

section
variable {K : PySem.W.Frag}
theorem rps1 {F : Hp} {vs : List V} {d : D} (r : Rps K F vs [d]) : ∃ v, vs = [v] ∧ Rp K F v d := by
  cases r with
  | cons h1 h2 => cases h2; exact ⟨_, rfl, h1⟩
theorem rps2 {F : Hp} {vs : List V} {d e : D} (r : Rps K F vs [d, e]) : ∃ v u, vs = [v, u] ∧ Rp K F v d ∧ Rp K F u e := by
  cases r with
  | cons h1 h2 => cases h2 with
    | cons h3 h4 => cases h4; exact ⟨_, _, rfl, h1, h3⟩
def dLen : List D → Option D
  | [.list xs] => some (.int xs.length)
  | [.tuple xs] => some (.int xs.length)
  | [.str x] => some (.int x.length)
  | _ => none
theorem rd_len : RdC K (fun xs H Q => ∃ x n, xs = [x] ∧ LenV K x H n ∧ Q (.int n) H) dLen := by
  intro A F H S σ xs ds z Q k r h post
  unfold dLen at h
  split at h <;> cases h
  · obtain ⟨v, rfl, rv⟩ := rps1 r
    obtain ⟨a, vs, rfl, h1, h2, _⟩ := rp_list_inv rv
    exact ⟨_, _, rfl, .inl ⟨vs, SqL.of (k.sub.same _ _ h1), h2.length.symm⟩, post F H _ (Same.refl F) k (.int _)⟩
  · obtain ⟨v, rfl, rv⟩ := rps1 r
    obtain ⟨a, vs, rfl, h1, h2, _⟩ := rp_tup_inv rv
    exact ⟨_, _, rfl, .inr ⟨vs, sqT_same k.sub.same h1, h2.length.symm⟩, post F H _ (Same.refl F) k (.int _)⟩
  · obtain ⟨v, rfl, rv⟩ := rps1 r
    obtain ⟨rfl, hz⟩ := rp_str_inv rv
    exact ⟨_, _, rfl, ⟨hz, rfl⟩, post F H _ (Same.refl F) k (.int _)⟩
def dInt : List D → Option D
  | [.int i] => some (.int i)
  | [.bool b] => some (.int (if b then 1 else 0))
  | _ => none
theorem rd_int : RdC K (fun xs H Q => (∃ i, xs = [.int i] ∧ Q (.int i) H) ∨ ∃ k, xs = [.bl k] ∧ Q (.int (if k then 1 else 0)) H) dInt := by
  intro A F H S σ xs ds z Q k r h post
  unfold dInt at h
  split at h <;> cases h
  · obtain ⟨v, rfl, rv⟩ := rps1 r
    cases rp_int_inv rv
    exact .inl ⟨_, rfl, post F H _ (Same.refl F) k (.int _)⟩
  · obtain ⟨v, rfl, rv⟩ := rps1 r
    cases rp_bool_inv rv
    exact .inr ⟨_, rfl, post F H _ (Same.refl F) k (.int _)⟩
def dAbs : List D → Option D
  | [.int i] => some (.int (if i < 0 then -i else i))
  | _ => none
theorem rd_abs : RdC K (fun xs H Q => ∃ i, xs = [.int i] ∧ Q (.int (if i < 0 then -i else i)) H) dAbs := by
  intro A F H S σ xs ds z Q k r h post
  unfold dAbs at h
  split at h <;> cases h
  obtain ⟨v, rfl, rv⟩ := rps1 r
  cases rp_int_inv rv
  exact ⟨_, rfl, post F H _ (Same.refl F) k (.int _)⟩
def dMax2 : List D → Option D
  | [.int i, .int j] => some (.int (if j > i then j else i))
  | _ => none
def dMin2 : List D → Option D
  | [.int i, .int j] => some (.int (if j < i then j else i))
  | _ => none
theorem rd_min2 : RdC K (fun xs H Q => ∃ i j, xs = [.int i, .int j] ∧ Q (.int (if j < i then j else i)) H) dMin2 := by
  intro A F H S σ xs ds z Q k r h post
  unfold dMin2 at h
  split at h <;> cases h
  obtain ⟨v, u, rfl, rv, ru⟩ := rps2 r
  cases rp_int_inv rv; cases rp_int_inv ru
  exact ⟨_, _, rfl, post F H _ (Same.refl F) k (.int _)⟩
def dList : List D → Option D
  | [.list xs] => some (.list xs)
  | [.tuple xs] => some (.list xs)
  | _ => none
def dTuple : List D → Option D
  | [.list xs] => some (.tuple xs)
  | [.tuple xs] => some (.tuple xs)
  | _ => none
theorem rd_tuple : RdC K (fun xs H Q => ∃ p ys, xs = [.ref p] ∧ ((SqL K H p ys ∧ ∀ l, H l = none → Q (.ref l) (upd H l (.tup ys))) ∨ (SqT K H p ys ∧ Q (.ref p) H))) dTuple := by
  intro A F H S σ xs ds z Q k r h post
  unfold dTuple at h
  split at h <;> cases h
  · obtain ⟨v, rfl, rv⟩ := rps1 r
    obtain ⟨a, vs, rfl, h1, h2, h3⟩ := rp_list_inv rv
    refine ⟨_, _, rfl, .inl ⟨SqL.of (k.sub.same _ _ h1), fun l hl => ?_⟩⟩
    obtain ⟨s1, k1, r1⟩ := k.newTup hl h2 h3
    exact post _ _ _ s1 k1 r1
  · obtain ⟨v, rfl, rv⟩ := rps1 r
    obtain ⟨a, vs, rfl, h1, h2, h3⟩ := rp_tup_inv rv
    exact ⟨_, _, rfl, .inr ⟨sqT_same k.sub.same h1, post F H _ (Same.refl F) k rv⟩⟩
/-- all items are truths -/
def allBools : List D → Option (List Bool)
  | [] => some []
  | .bool b :: ds => (allBools ds).bind fun bs => some (b :: bs)
  | _ => none
theorem allBools_map : ∀ {ds : List D} {bs : List Bool}, allBools ds = some bs → ds = bs.map .bool
  | [], _, h => by cases h; rfl
  | .bool b :: ds, _, h => by
    obtain ⟨bs, h1, h2⟩ := bind_inv h
    cases h2
    rw [List.map_cons, allBools_map h1]
  | .none :: _, _, h => by simp [allBools] at h
  | .int _ :: _, _, h => by simp [allBools] at h
  | .str _ :: _, _, h => by simp [allBools] at h
  | .list _ :: _, _, h => by simp [allBools] at h
  | .tuple _ :: _, _, h => by simp [allBools] at h
  | .dict _ :: _, _, h => by simp [allBools] at h
theorem rps_bools {F : Hp} : ∀ {vs : List V} {bs : List Bool}, Rps K F vs (bs.map .bool) → vs = bs.map V.bl
  | _, [], h => by cases h; rfl
  | _, b :: bs, h => by
    cases h with
    | cons h1 h2 => rw [rp_bool_inv h1, rps_bools h2]; rfl
def dAll : List D → Option D
  | [.list xs] => (allBools xs).bind fun bs => some (.bool (bs.all id))
  | _ => none
def dAny : List D → Option D
  | [.list xs] => (allBools xs).bind fun bs => some (.bool (bs.any id))
  | _ => none
theorem rd_all : RdC K (rAll K) dAll := by
  intro A F H S σ xs ds z Q k r h post
  unfold dAll at h
  split at h
  · obtain ⟨bs, h1, h2⟩ := bind_inv h
    cases h2
    obtain ⟨v, rfl, rv⟩ := rps1 r
    obtain ⟨a, vs, rfl, g1, g2, g3⟩ := rp_list_inv rv
    rw [allBools_map h1] at g2
    rw [rps_bools g2] at g1
    exact ⟨a, bs, rfl, SqL.of (k.sub.same _ _ g1), post F H _ (Same.refl F) k (.bl _)⟩
  · cases h
end
section
variable {X : Cx} {pos p p2 : Pos} {e : Expr} {es : List Expr} {gs : M (List D)}
theorem e_len (hm : X.mg "len" = none) (ha : GA X [e] gs) (hg : Gl X "len" := by rfl) (he : starEach [e] X.env = (false, eval e X.env) :: starEach [] X.env := by rfl) : GE X (.Call (.Name "len" p) [e] [] pos) (gCall dLen gs) :=
  e_callB call_len rd_len hm PySem.boot_len ha hg (he := he) (hpl := by rfl)
theorem e_intOf (hm : X.mg "int" = none) (ha : GA X [e] gs) (hg : Gl X "int" := by rfl) (he : starEach [e] X.env = (false, eval e X.env) :: starEach [] X.env := by rfl) : GE X (.Call (.Name "int" p) [e] [] pos) (gCall dInt gs) :=
  e_callTy call_int1 rd_int hm (by decide +kernel) ha hg (he := he) (hpl := by rfl)
theorem e_abs (hm : X.mg "abs" = none) (ha : GA X [e] gs) (hg : Gl X "abs" := by rfl) (he : starEach [e] X.env = (false, eval e X.env) :: starEach [] X.env := by rfl) : GE X (.Call (.Name "abs" p) [e] [] pos) (gCall dAbs gs) :=
  e_callB call_abs rd_abs hm (by decide +kernel) ha hg (he := he) (hpl := by rfl)
theorem e_tuple (hm : X.mg "tuple" = none) (ha : GA X [e] gs) (hg : Gl X "tuple" := by rfl) (he : starEach [e] X.env = (false, eval e X.env) :: starEach [] X.env := by rfl) : GE X (.Call (.Name "tuple" p) [e] [] pos) (gCall dTuple gs) :=
  e_callTy call_tuple_of rd_tuple hm (by decide +kernel) ha hg (he := he) (hpl := by rfl)
theorem e_all (hm : X.mg "all" = none) (ha : GA X [e] gs) (hc : X.calm = true := by rfl) (hg : Gl X "all" := by rfl) (he : starEach [e] X.env = (false, eval e X.env) :: starEach [] X.env := by rfl) : GE X (.Call (.Name "all" p) [e] [] pos) (gCall dAll gs) :=
  e_callB (cr_all hc) rd_all hm (by decide +kernel) ha hg (he := he) (hpl := by rfl)
variable {e2 : Expr}
theorem e_min2 (hm : X.mg "min" = none) (ha : GA X [e, e2] gs) (hc : X.calm = true := by rfl) (hg : Gl X "min" := by rfl) (he : starEach [e, e2] X.env = (false, eval e X.env) :: starEach [e2] X.env := by rfl) (hpl : (backTo pos (starEach [e2] X.env)).any (·.1) = false := by rfl) :
    GE X (.Call (.Name "min" p) [e, e2] [] pos) (gCall dMin2 gs) := e_callB (call_min2 hc) rd_min2 hm (by decide +kernel) ha hg (he := he) (hpl := hpl)
end

/-! ### isinstance -/
def dTy : D → String
  | .none => "NoneType"
  | .bool _ => "bool"
  | .int _ => "int"
  | .str _ => "str"
  | .list _ => "list"
  | .tuple _ => "tuple"
  | .dict _ => "dict"
def isT (T : String) (d : D) : Bool := (dTy d == T) || (T == "int" && dTy d == "bool")
theorem kit_int (d : D) : kitB (dTy d) "int" = some (isT "int" d) := by cases d <;> simp only [dTy, isT] <;> decide +kernel
theorem kit_bool (d : D) : kitB (dTy d) "bool" = some (isT "bool" d) := by cases d <;> simp only [dTy, isT] <;> decide +kernel
theorem kit_list (d : D) : kitB (dTy d) "list" = some (isT "list" d) := by cases d <;> simp only [dTy, isT] <;> decide +kernel
theorem kit_tuple (d : D) : kitB (dTy d) "tuple" = some (isT "tuple" d) := by cases d <;> simp only [dTy, isT] <;> decide +kernel
def TyE (K : PySem.W.Frag) (H : Hp) (v : V) (t : Value) : Prop := TyX K H v t ∨ ∃ a, v = .ref a ∧ t = .type "dict" ∧ H a = some (dictO a)
theorem kit_ofE {X : Cx} {pins : List (Addr × Obj)} {σ : L2.St} {H : Hp} {s : Shared} {x : V} {u t : Value} (I : Inv X pins σ H s) (r : RelV x u) (ty : TyE X.K H x t) : ∃ P, PySem.W.KitX X.K u t P ∧ P s.heap ∧ u ≠ .builtin "__main__.__loader__#opaque" := by
  rcases ty with ty | ⟨a, rfl, rfl, h⟩
  · exact kit_of I r ty
  · cases r
    exact ⟨_, PySem.W.kitx_dict, (show ObjOk X.prog X.w H s.heap a (dictO a) from I.hok a _ h).1, (fun z => nomatch z)⟩
def rIsiE (K : PySem.W.Frag) : List V → Hp → VK → Prop := fun xs H Q => ∃ x c t u b, xs = [x, c] ∧ ClsV c u ∧ TyE K H x t ∧ PySem.W.kitOne K t u = some b ∧ Q (.bl b) H
theorem call_isiE {X : Cx} : CallR X (.builtin "isinstance") (rIsiE X.K) := by
  intro pins s σ H xs us Q I r ⟨x, c, t, u, b, e0, k, ty, e, q⟩
  subst e0
  obtain ⟨u1, u2, rfl, r1, r2⟩ := L2.vals2 r
  have e2 := ClsV.eq k r2
  subst e2
  obtain ⟨P, Z, p, hx⟩ := kit_ofE I r1 ty
  exact PySem.W.kia_one Z I.kIn p e hx fun tk => ⟨.bl b, H, I.tok tk, rfl, q⟩
def rIsiTE (K : PySem.W.Frag) : List V → Hp → VK → Prop := fun xs H Q => ∃ x tp cs t us b, xs = [x, .ref tp] ∧ H tp = some (.tup cs) ∧ Paired ClsV cs us ∧ TyE K H x t ∧ PySem.W.kitAny K t us = some b ∧ Q (.bl b) H
theorem cls_vals : ∀ {cs : List V} {us its : List Value}, Paired ClsV cs us → Vals cs its → its = us
  | [], _, _, .nil, .nil => rfl
  | _ :: _, _, _, .cons h1 h2, .cons g1 g2 => by rw [cls_vals h2 g2, ClsV.eq h1 g1]
theorem call_isiTE {X : Cx} : CallR X (.builtin "isinstance") (rIsiTE X.K) := by
  intro pins s σ H xs us Q I r ⟨x, tp, cs, t, ws, b, e0, hT, k, ty, e, q⟩
  subst e0
  obtain ⟨u1, u2, rfl, r1, r2⟩ := L2.vals2 r
  cases r2
  obtain ⟨P, Z, p, hx⟩ := kit_ofE I r1 ty
  obtain ⟨_, its, rv, ot, t1, t2, n, t3⟩ := (show ObjOk X.prog X.w H s.heap tp (.tup cs) from I.hok tp _ hT)
  have hi := cls_vals k rv
  subst hi
  obtain ⟨oc, od, oda, osl⟩ := ot
  dsimp only at t2 t3
  subst t2 t3
  exact PySem.W.kia_tup Z I.kIn p t1 e hx fun tk => ⟨.bl b, H, I.tok tk, rfl, q⟩
theorem rp_ty {K : PySem.W.Frag} {F H : Hp} {v : V} {d : D} (s : Same F H) (r : Rp K F v d) : TyE K H v (.type (dTy d)) := by
  cases r with
  | non => exact .inl (.base .non)
  | bl b => exact .inl (.base (.bl b))
  | int i => exact .inl (.base (.int i))
  | str _ => exact .inl (.base (.str _))
  | lst h1 _ _ => exact .inl (.base (.lst (s _ _ h1)))
  | tup h1 _ _ =>
    rcases sqT_same s h1 with (h | ⟨o, h⟩) | ⟨o, its, n, h, hc, _⟩
    · exact .inl (.base (.tup h))
    · exact .inl (.fTuple h)
    · exact .inl (.kTuple h hc)
  | dct h _ =>
    rcases h with ⟨es, h⟩ | ⟨es, h⟩ | h
    · exact .inl (.base (.dK (s _ _ h)))
    · exact .inl (.base (.dT (s _ _ h)))
    · exact .inr ⟨_, rfl, rfl, s _ _ h⟩
section
variable {X : Cx} {pos p p2 p3 p4 : Pos} {e : Expr} {g : M D} {x y : Str} {T U : String}
def gIsi (T : String) (g : M D) : M D := fun S => (g S).bind fun p => some (.bool (isT T p.1), p.2)
def gIsi2 (T U : String) (g : M D) : M D := fun S => (g S).bind fun p => some (.bool (isT T p.1 || isT U p.1), p.2)
theorem e_isi (hm : X.mg "isinstance" = none) (hmx : X.mg x = none) (hv : bootBuiltins x = some (.type T)) (kt : ∀ d, kitB (dTy d) T = some (isT T d)) (ha : GE X e g) (hg : Gl X "isinstance" := by rfl) (hgx : Gl X x := by rfl)
    (hnx : x ≠ "__name__" := by decide) (hdx : (x == ("__debug__" : Str)) = false := by decide)
    (he : starEach [e, .Name x p2] X.env = (false, eval e X.env) :: starEach [.Name x p2] X.env := by rfl) (he2 : starEach [.Name x p2] X.env = (false, eval (.Name x p2) X.env) :: starEach [] X.env := by rfl)
    (hpl : (backTo pos (starEach [.Name x p2] X.env)).any (·.1) = false := by rfl) :
    GE X (.Call (.Name "isinstance" p) [e, .Name x p2] [] pos) (gIsi T g) := by
  obtain ⟨t, pa, ra⟩ := ha.ex
  refine ⟨_, pe_callB call_isiE hg hm (by decide +kernel) (pa_cons pa (pa_cons (pe_bltn (v := .ty T) hgx hmx hv rfl hnx hdx) pa_nil he2) he) (by decide) (by decide) he hpl, fun A F H S σ d S' Q k h post => ?_⟩
  obtain ⟨⟨d1, S1⟩, h1, h⟩ := bind_inv h
  cases h
  refine ra A F H S σ d1 _ _ k h1 fun A1 F1 H1 v p1 s1 k1 r1 => ?_
  exact ⟨v, .ty T, _, _, _, rfl, .ty T, rp_ty k1.sub.same r1, kit_ty (kt d1), post A1 F1 H1 _ p1 s1 k1 (.bl _)⟩
theorem e_isi2 {kx} (hm : X.mg "isinstance" = none) (hmx : X.mg x = none) (hv : bootBuiltins x = some (.type T)) (kt : ∀ d, kitB (dTy d) T = some (isT T d)) (hmy : X.mg y = none) (hw : bootBuiltins y = some (.type U)) (ku : ∀ d, kitB (dTy d) U = some (isT U d))
    (ha : GE X e g) (hg : Gl X "isinstance" := by rfl) (hgx : Gl X x := by rfl) (hgy : Gl X y := by rfl)
    (hnx : x ≠ "__name__" := by decide) (hdx : (x == ("__debug__" : Str)) = false := by decide) (hny : y ≠ "__name__" := by decide) (hdy : (y == ("__debug__" : Str)) = false := by decide)
    (he : starEach [e, .Tuple [.Name x p2, .Name y p3] kx p4] X.env = (false, eval e X.env) :: starEach [.Tuple [.Name x p2, .Name y p3] kx p4] X.env := by rfl)
    (he2 : starEach [.Tuple [.Name x p2, .Name y p3] kx p4] X.env = (false, eval (.Tuple [.Name x p2, .Name y p3] kx p4) X.env) :: starEach [] X.env := by rfl)
    (he3 : starEach [.Name x p2, .Name y p3] X.env = (false, eval (.Name x p2) X.env) :: starEach [.Name y p3] X.env := by rfl)
    (he4 : starEach [.Name y p3] X.env = (false, eval (.Name y p3) X.env) :: starEach [] X.env := by rfl)
    (hpl : (backTo pos (starEach [.Tuple [.Name x p2, .Name y p3] kx p4] X.env)).any (·.1) = false := by rfl) :
    GE X (.Call (.Name "isinstance" p) [e, .Tuple [.Name x p2, .Name y p3] kx p4] [] pos) (gIsi2 T U g) := by
  obtain ⟨t, pa, ra⟩ := ha.ex
  refine ⟨_, pe_callB call_isiTE hg hm (by decide +kernel) (pa_cons pa (pa_cons (pe_tup (pa_cons (pe_bltn (v := .ty T) hgx hmx hv rfl hnx hdx) (pa_cons (pe_bltn (v := .ty U) hgy hmy hw rfl hny hdy) pa_nil he4) he3)) pa_nil he2) he) (by decide) (by decide) he hpl, fun A F H S σ d S' Q k h post => ?_⟩
  obtain ⟨⟨d1, S1⟩, h1, h⟩ := bind_inv h
  cases h
  refine ra A F H S σ d1 _ _ k h1 fun A1 F1 H1 v p1 s1 k1 r1 => ?_
  refine ⟨by show 2 ≤ sizeLine; decide, fun q hq => ?_⟩
  have k2 := k1.laid (o := .tup [.ty T, .ty U]) hq
  have s2 : Same F1 (upd F1 q (.tup [.ty T, .ty U])) := same_upd (k1.sub.none hq)
  refine ⟨v, q, _, _, _, _, rfl, upd_same, .cons (.ty T) (.cons (.ty U) .nil), rp_ty k2.sub.same (r1.mono s2 _ _), ?_, post A1 _ _ _ p1 (s1.trans s2) k2 (.bl _)⟩
  refine kitAny_cons (kit_ty (kt d1)) (fun e1 => ?_) (fun e1 => by rw [e1]; rfl)
  rw [e1]
  exact kitAny_cons (kit_ty (ku d1)) (fun e2 => by rw [e2]; exact kitAny_nil) (fun e2 => by rw [e2]; rfl)
end

/-! ### the calls of the text's own defs -/
/-- a def that writes nothing that was there: its value by data -/
def spF (K : PySem.W.Frag) (n : Nat) (f : List D → Option D) : Sp := fun vs H Q _ => ∃ ds z, ds.length = n ∧ Rps K H vs ds ∧ f ds = some z ∧ ∀ H' v, Same H H' → Rp K H' v z → Q v H'
theorem spF_len {K : PySem.W.Frag} {n : Nat} {f : List D → Option D} {ps : List Str} (h : ps.length = n) : ∀ vs H Q E, spF K n f vs H Q E → vs.length = ps.length := by
  intro vs H Q E ⟨ds, z, e, r, _⟩
  rw [r.length, e, h]
theorem same_mix {G H G' : Hp} (lost : ∀ b o, H b = some o → G b = none → G' b = none) : Same G' (mixH G H G') := fun b o e => by
  cases q : G b with
  | some u => rw [mix_held q]; exact e
  | none =>
    cases r : H b with
    | none => rw [mix_free r]; exact e
    | some u => rw [lost b u r q] at e; cases e
theorem Ok.mix {K : PySem.W.Frag} {A : List Addr} {F H G' : Hp} {S : Sx} {σ : L2.St} (k : Ok K A F H S σ) (s : Same F G') (lost : ∀ b o, H b = some o → F b = none → G' b = none) : Ok K A G' (mixH F H G') S σ := by
  refine k.grow ⟨same_mix lost, fun b o e n => ?_⟩ s (fun a ha o e => ?_) fun a ha e => ?_
  · cases q : F b with
    | some u => rw [mix_held q, n] at e; cases e
    | none =>
      cases r : H b with
      | none => rw [mix_free r, n] at e; cases e
      | some u => rw [mix_lost q r] at e; cases e; exact k.sub.loose b _ r q
  · cases q : F a with
    | some u =>
      rw [mix_held q]
      have e2 := k.sub.same a u q
      rw [e] at e2; cases e2
      exact s a _ q
    | none => exact mix_lost q e
  · obtain ⟨o, ho⟩ := k.trk a ha
    exact lost a o ho e
def gCallF (n : Nat) (f : List D → Option D) (g : M (List D)) : M D := fun S => (g S).bind fun p => if p.1.length = n then (f p.1).bind fun z => some (z, p.2) else none
section
variable {X : Cx} {pos p p2 : Pos} {x : Str} {e : Expr} {es : List Expr} {gs : M (List D)} {f : List D → Option D} {CX : CXT} {k n : Nat} {fa : Addr} {fd : FuncData} {ps : List Str} {E : XK}
theorem e_call (F : FnOk X.prog X.w X.K X.mg X.base CX k fa fd ps (spF X.K n f)) (hr : Room k X.A) (hm : X.mg x = some (.ref fa)) (hk : PySem.W.keepIn X.K (.ref fa) = true) (hb : L2.Binds X.K fd ps []) (hx : Passes CX X E) (ha : GA X (e :: es) gs)
    (hg : Gl X x := by rfl) (hdb : (x == ("__debug__" : Str)) = false := by decide) (he : starEach (e :: es) X.env = (false, eval e X.env) :: starEach es X.env := by rfl) (hpl : (backTo pos (starEach es X.env)).any (·.1) = false := by rfl) :
    GE X (.Call (.Name x p) (e :: es) [] pos) (gCallF n f gs) := by
  obtain ⟨t, pa, ra⟩ := ha.ex
  refine ⟨_, pe_callF F hr hg hm hk hb .nil hx pa hdb he hpl, fun A F H S σ d S' Q k h post => ?_⟩
  obtain ⟨⟨ds, S1⟩, h1, h⟩ := bind_inv h
  simp only at h
  split at h
  · rename_i hn
    obtain ⟨z, h2, h⟩ := bind_inv h
    cases h
    refine ra A F H S σ ds _ _ k h1 fun A1 F1 H1 vs p1 s1 k1 r1 => ⟨F1, k1.sub, ds, _, hn, by rw [List.append_nil]; exact r1, h2, fun G' v sm rv => ⟨fun b xs q => sm b _ q, fun lost => ?_⟩⟩
    exact post A1 G' _ v p1 (s1.trans sm) (k1.mix sm lost) rv
  · cases h
/-- a def that writes one list that is handed in, the first argument -/
def spIO (K : PySem.W.Frag) (n : Nat) (f : List D → List D → Option (D × List D)) : Sp := fun vs H Q _ => ∃ (a : Addr) (xs : List V) (rest : List V) (F : Hp) (cs ds : List D) (r : D) (cs' : List D), vs = .ref a :: rest ∧ F a = none ∧ H = upd F a (.lst xs) ∧ cs.length ≤ sizeLine ∧
  Rps K F xs cs ∧ Rps K F rest ds ∧ ds.length = n ∧ f cs ds = some (r, cs') ∧ ∀ F' xs' v, Same F F' → F' a = none → Rps K F' xs' cs' → cs'.length ≤ sizeLine → Rp K F' v r → Q v (upd F' a (.lst xs'))
theorem spIO_len {K : PySem.W.Frag} {n : Nat} {f : List D → List D → Option (D × List D)} {ps : List Str} (h : ps.length = n + 1) : ∀ vs H Q E, spIO K n f vs H Q E → vs.length = ps.length := by
  intro vs H Q E ⟨a, xs, rest, F, cs, ds, r, cs', e, _, _, _, _, hr, hn, _⟩
  rw [e, List.length_cons, hr.length, hn, h]
def gIO (i n : Nat) (f : List D → List D → Option (D × List D)) (g : M (List D)) : M D := fun S => match S.sl[i]? with
  | some (some (.own j)) => (g S).bind fun p => match p.2.os[j]? with
    | some (some (.lst cs)) => if p.1.length = n then (f cs p.1).bind fun z => some (z.1, ⟨p.2.sl, p.2.os.set j (some (.lst z.2))⟩) else none
    | _ => none
  | _ => none
theorem prefix_at {α : Type} {A B : List α} {j : Nat} {a : α} (p : A <+: B) (h : A[j]? = some a) : B[j]? = some a := by
  obtain ⟨C, rfl⟩ := p
  rw [List.getElem?_append_left (List.getElem?_eq_some_iff.mp h).1]; exact h
theorem e_callIO {f : List D → List D → Option (D × List D)} {y : Str} {py : Pos} (i : Nat) (F : FnOk X.prog X.w X.K X.mg X.base CX k fa fd ps (spIO X.K n f)) (hr : Room k X.A) (hm : X.mg x = some (.ref fa)) (hk : PySem.W.keepIn X.K (.ref fa) = true) (hb : L2.Binds X.K fd ps []) (hx : Passes CX X E) (ha : GA X es gs)
    (hN : X.N[i]? = some y := by rfl) (hv : Vis X.env.scope y := by first | exact Or.inl rfl | exact Or.inr (Or.inl rfl) | exact Or.inr (Or.inr rfl)) (hdy : (y == ("__debug__" : Str)) = false := by decide) (hcd : (y == ("__classdict__" : Str)) = false := by decide)
    (hg : Gl X x := by rfl) (hdb : (x == ("__debug__" : Str)) = false := by decide) (he : starEach (.Name y py :: es) X.env = (false, eval (.Name y py) X.env) :: starEach es X.env := by rfl) (hpl : (backTo pos (starEach es X.env)).any (·.1) = false := by rfl) :
    GE X (.Call (.Name x p) (.Name y py :: es) [] pos) (gIO i n f gs) := by
  obtain ⟨t, pa, ra⟩ := ha.ex
  refine ⟨_, pe_callF F hr hg hm hk hb .nil hx (pa_cons (pe_var hN hv hdy hcd) pa he) hdb he hpl, fun A F H S σ d S' Q k h post => ?_⟩
  unfold gIO at h
  split at h
  · rename_i j ej
    obtain ⟨⟨ds, S1⟩, h1, h⟩ := bind_inv h
    simp only at h
    split at h
    · rename_i cs ec
      split at h
      · rename_i hn
        obtain ⟨⟨r, cs'⟩, h2, h⟩ := bind_inv h
        cases h
        obtain ⟨a, ea, ev⟩ := k.oslot i j ej
        refine ⟨_, ev, ra A F H S σ ds S1 _ k h1 fun A1 F1 H1 vs p1 s1 k1 r1 => ?_⟩
        obtain ⟨a', ea', fa', xs, hxs, rxs, hz⟩ := k1.cell j _ ec
        rw [prefix_at p1 ea] at ea'; cases ea'
        have sub1 : Sub (upd F1 a (.lst xs)) H1 := ⟨fun b u q => by
            by_cases hb : b = a
            · subst hb; rw [upd_same] at q; cases q; exact hxs
            · rw [upd_ne hb] at q; exact k1.sub.same b u q, fun b u q n => by
            by_cases hb : b = a
            · subst hb; rw [upd_same] at n; cases n
            · rw [upd_ne hb] at n; exact k1.sub.loose b u q n⟩
        refine ⟨upd F1 a (.lst xs), sub1, a, xs, vs, F1, cs, ds, r, cs', by rw [List.append_nil], fa', rfl, hz, rxs, r1, hn, h2, fun F' xs' v sm fa2 rx hz' rv => ⟨fun b ys q => ?_, fun lost => ?_⟩⟩
        · by_cases hb : b = a
          · subst hb; rw [upd_same] at q; cases q
          · rw [upd_ne hb] at q ⊢; exact sm b _ q
        · have lostF : ∀ b o, b ≠ a → H1 b = some o → F1 b = none → F' b = none := fun b o hb ho hf => by
            have := lost b o ho (by rw [upd_ne hb]; exact hf)
            rwa [upd_ne hb] at this
          have ma : mixH (upd F1 a (.lst xs)) H1 (upd F' a (.lst xs')) a = some (.lst xs') := by rw [mix_held upd_same, upd_same]
          have mb : ∀ b, b ≠ a → mixH (upd F1 a (.lst xs)) H1 (upd F' a (.lst xs')) b = mixH F1 H1 F' b := fun b hb => by
            unfold mixH
            rw [upd_ne hb, upd_ne hb]
          have km : Ok X.K A1 F' (upd (mixH F1 H1 F') a (.lst xs')) ⟨S1.sl, S1.os.set j (some (.lst cs'))⟩ σ := by
            have e1 : Ok X.K A1 F' (mixH F1 H1 F') S1 σ := by
              refine k1.mix sm fun b o ho hf => ?_
              by_cases hb : b = a
              · subst hb; exact fa2
              · exact lostF b o hb ho hf
            exact e1.cellSet ec (prefix_at p1 ea) trivial ⟨xs', upd_same, rx, hz'⟩
          have em : mixH (upd F1 a (.lst xs)) H1 (upd F' a (.lst xs')) = upd (mixH F1 H1 F') a (.lst xs') := by
            funext b
            by_cases hb : b = a
            · subst hb; rw [ma, upd_same]
            · rw [mb b hb, upd_ne hb]
          rw [em]
          exact post A1 F' _ v p1 (s1.trans sm) km rv
      · cases h
    · cases h
  · cases h
end
end Fu

set_option maxHeartbeats 4000000
namespace Fu
open PySem PySem.Spec PyProof.Rows L2 RZ

/-! ### what is walked -/
/-- J yields the data ds, one by one, wherever F stands -/
structure Walk (K : PySem.W.Frag) (F : Hp) (J : It) (ds : List D) : Prop where
  stop : ∀ i H, Same F H → ds.length ≤ i → J.stop i H
  go : ∀ i H, Same F H → i < ds.length → J.go i H
  yld : ∀ (i : Nat) d H x H', Same F H → ds[i]? = some d → J.yld i H x H' → (H' = H ∧ Rp K F x d) ∨ ∃ T vs es, x = .ref T ∧ H T = none ∧ H' = upd H T (.tup vs) ∧ d = .tuple es ∧ Rps K F vs es ∧ es.length ≤ sizeLine
def RdI (K : PySem.W.Frag) (t : TI) (g : M (List D)) : Prop := ∀ A F H S σ ds S' (R : It → Hp → Prop), Ok K A F H S σ → g S = some (ds, S') →
  (∀ A' F' H' J, A <+: A' → Same F F' → Ok K A' F' H' S' σ → Walk K F' J ds → ds.length ≤ sizeLine → R J H') → t σ H R
structure GI (X : Cx) (tg iter : Expr) (g : M (List D)) : Prop where
  ex : ∃ t, PI X tg iter t ∧ RdI X.K t g
/-- .. of numbers alone: they stand in any heap -/
structure GI0 (X : Cx) (tg iter : Expr) (g : M (List D)) : Prop where
  ex : ∃ t, PI X tg iter t ∧ ∀ A F H S σ ds S' (R : It → Hp → Prop), Ok X.K A F H S σ → g S = some (ds, S') →
    (∀ A' F' H' J, A <+: A' → Same F F' → Ok X.K A' F' H' S' σ → Walk X.K (fun _ => none) J ds → R J H') → t σ H R
theorem PI.or {X : Cx} {tg iter : Expr} {t u : TI} (h1 : PI X tg iter t) (h2 : PI X tg iter u) : PI X tg iter (fun σ H R => t σ H R ∨ u σ H R) :=
  ⟨fun pins s σ H R I h => h.elim (h1.run pins s σ H R I) (h2.run pins s σ H R I)⟩
section
variable {K : PySem.W.Frag} {F : Hp}
theorem walk_list {a : Addr} {vs : List V} {ds : List D} (h : F a = some (.lst vs)) (r : Rps K F vs ds) : Walk K F (Itl K a) ds where
  stop := fun i H s hi => ⟨vs, SqL.of (s _ _ h), by rw [r.length]; exact hi⟩
  go := fun i H s hi => by
    obtain ⟨v, e, _⟩ := r.get (List.getElem?_eq_getElem hi)
    exact ⟨vs, v, SqL.of (s _ _ h), e⟩
  yld := fun i d H x H' s hd y => by
    obtain ⟨e, y⟩ := y
    obtain ⟨v, ev, rv⟩ := r.get hd
    have := y vs (SqL.of (s _ _ h))
    rw [ev] at this; cases this
    exact .inl ⟨e, rv⟩
theorem walk_tup {a : Addr} {vs : List V} {ds : List D} (h : SqT K F a vs) (r : Rps K F vs ds) : Walk K F (Itt K a) ds where
  stop := fun i H s hi => ⟨vs, sqT_same s h, by rw [r.length]; exact hi⟩
  go := fun i H s hi => by
    obtain ⟨v, e, _⟩ := r.get (List.getElem?_eq_getElem hi)
    exact ⟨vs, v, sqT_same s h, e⟩
  yld := fun i d H x H' s hd y => by
    obtain ⟨e, y⟩ := y
    obtain ⟨v, ev, rv⟩ := r.get hd
    have := y vs (sqT_same s h)
    rw [ev] at this; cases this
    exact .inl ⟨e, rv⟩
def chars (x : Str) : List D := x.cps.toList.map fun c => .str ⟨#[c]⟩
theorem walk_str (x : Str) : Walk K F (Its x) (chars x) where
  stop := fun i H s hi => by
    have : x.cps.size ≤ i := by simpa [chars] using hi
    exact this
  go := fun i H s hi => by
    have : i < x.cps.size := by simpa [chars] using hi
    exact this
  yld := fun i d H v H' s hd y => by
    obtain ⟨e, c, hc, rfl⟩ := y
    have h2 : x.cps.toList[i]? = some c := by rw [Array.getElem?_toList]; exact hc
    unfold chars at hd
    rw [List.getElem?_map, h2] at hd
    cases hd
    exact .inl ⟨e, .str (one_len c)⟩
def rng (lo : Int) (n : Nat) : List D := (List.range n).map fun i : Nat => .int (lo + (i : Int))
theorem walk_range (lo : Int) (n : Nat) : Walk K F (Itr lo n) (rng lo n) where
  stop := fun i H s hi => by
    have : n ≤ i := by simpa [rng] using hi
    exact this
  go := fun i H s hi => by
    have : i < n := by simpa [rng] using hi
    exact this
  yld := fun i d H v H' s hd y => by
    obtain ⟨e, rfl⟩ := y
    unfold rng at hd
    rw [List.getElem?_map] at hd
    obtain ⟨j, hj, rfl⟩ := Option.map_eq_some_iff.mp hd
    rw [List.getElem?_range (by
      have := (List.getElem?_eq_some_iff.mp hj).1
      simpa using this)] at hj
    cases hj
    exact .inl ⟨e, .int _⟩
def zipD : List D → List D → List D
  | x :: xs, y :: ys => .tuple [x, y] :: zipD xs ys
  | _, _ => []
theorem zipD_eq : ∀ xs ys : List D, zipD xs ys = (xs.zip ys).map fun p => .tuple [p.1, p.2]
  | x :: xs, y :: ys => by rw [zipD, zipD_eq xs ys]; rfl
  | [], _ => by simp [zipD]
  | _ :: _, [] => by simp [zipD]
theorem walk_zip {a b : Addr} {vs us : List V} {xs ys : List D} (h : F a = some (.lst vs)) (g : F b = some (.lst us)) (r : Rps K F vs xs) (q : Rps K F us ys) : Walk K F (Itz K a b) (zipD xs ys) where
  stop := fun i H s hi => by
    refine ⟨vs, us, SqL.of (s _ _ h), SqL.of (s _ _ g), ?_⟩
    rw [zipD_eq, List.length_map, List.length_zip] at hi
    rw [r.length, q.length]
    omega
  go := fun i H s hi => by
    rw [zipD_eq, List.length_map, List.length_zip] at hi
    obtain ⟨v, e, _⟩ := r.get (List.getElem?_eq_getElem (show i < xs.length by omega))
    obtain ⟨u, e2, _⟩ := q.get (List.getElem?_eq_getElem (show i < ys.length by omega))
    exact ⟨vs, us, v, u, SqL.of (s _ _ h), SqL.of (s _ _ g), e, e2⟩
  yld := fun i d H x H' s hd y => by
    obtain ⟨T, v, u, rfl, hT, rfl, e1, e2⟩ := y
    rw [zipD_eq, List.getElem?_map] at hd
    obtain ⟨⟨d1, d2⟩, hz, rfl⟩ := Option.map_eq_some_iff.mp hd
    rw [List.getElem?_zip_eq_some] at hz
    obtain ⟨v', g1, r1⟩ := r.get hz.1
    obtain ⟨u', g2, r2⟩ := q.get hz.2
    have f1 := e1 vs (SqL.of (s _ _ h))
    have f2 := e2 us (SqL.of (s _ _ g))
    rw [g1] at f1; cases f1
    rw [g2] at f2; cases f2
    exact .inr ⟨T, _, _, rfl, hT, rfl, rfl, .cons r1 (.cons r2 .nil), by show 2 ≤ sizeLine; decide⟩
end
def itemsOf : D → Option (List D)
  | .list xs => some xs
  | .tuple xs => some xs
  | .str x => some (chars x)
  | _ => none
/-- the items of a list, a tuple, a text -/
def gItems (g : M D) : M (List D) := fun S => (g S).bind fun p => (itemsOf p.1).bind fun xs => some (xs, p.2)
section
variable {X : Cx} {tg e e2 e3 : Expr} {ge ge2 : M D} {pos p p2 : Pos} {gs : M (List D)}
theorem chars_len {x : Str} (h : x.length ≤ sizeLine) : (chars x).length ≤ sizeLine := by
  unfold chars
  rw [List.length_map, Array.length_toList]
  exact h
theorem i_any (h : GE X e ge) : GI X tg e (gItems ge) := by
  obtain ⟨t, pe, re⟩ := h.ex
  refine ⟨_, PI.or (pi_list pe) (PI.or (pi_tup pe) (pi_str pe)), fun A F H S σ ds S' R k e post => ?_⟩
  obtain ⟨⟨d, S1⟩, h1, e⟩ := bind_inv e
  obtain ⟨xs, h2, e⟩ := bind_inv e
  cases e
  cases d <;> simp only [itemsOf] at h2 <;> cases h2
  · refine .inr (.inr (re A F H S σ _ _ _ k h1 fun A1 F1 H1 v p1 s1 k1 r1 => ?_))
    obtain ⟨rfl, hz⟩ := rp_str_inv r1
    exact ⟨_, rfl, post A1 F1 H1 _ p1 s1 k1 (walk_str _) (chars_len hz)⟩
  · refine .inl (re A F H S σ _ _ _ k h1 fun A1 F1 H1 v p1 s1 k1 r1 => ?_)
    obtain ⟨a, vs, rfl, g1, g2, g3⟩ := rp_list_inv r1
    exact ⟨a, rfl, ⟨vs, SqL.of (k1.sub.same _ _ g1)⟩, post A1 F1 H1 _ p1 s1 k1 (walk_list g1 g2) g3⟩
  · refine .inr (.inl (re A F H S σ _ _ _ k h1 fun A1 F1 H1 v p1 s1 k1 r1 => ?_))
    obtain ⟨a, vs, rfl, g1, g2, g3⟩ := rp_tup_inv r1
    exact ⟨a, rfl, ⟨vs, sqT_same k1.sub.same g1⟩, post A1 F1 H1 _ p1 s1 k1 (walk_tup g1 g2) g3⟩
/-- range(n), range(a, b) -/
def gRng1 (g : M (List D)) : M (List D) := fun S => (g S).bind fun p => match p.1 with
  | [.int j] => if -(2 ^ 62) ≤ j ∧ j ≤ sizeLine then some (rng 0 j.toNat, p.2) else none
  | _ => none
def gRng2 (g : M (List D)) : M (List D) := fun S => (g S).bind fun p => match p.1 with
  | [.int i, .int j] => if -(2 ^ 32) ≤ i ∧ i ≤ 2 ^ 32 ∧ -(2 ^ 32) ≤ j ∧ j ≤ 2 ^ 32 ∧ j - i ≤ sizeLine then some (rng i (j - i).toNat, p.2) else none
  | _ => none
theorem rng_len (lo : Int) (n : Nat) : (rng lo n).length = n := by simp [rng]
theorem rps_int1 {K : PySem.W.Frag} {F : Hp} {vs : List V} {i : Int} (r : Rps K F vs [.int i]) : vs = [.int i] := by
  obtain ⟨v, rfl, q⟩ := rps1 r
  cases rp_int_inv q; rfl
theorem rps_int2 {K : PySem.W.Frag} {F : Hp} {vs : List V} {i j : Int} (r : Rps K F vs [.int i, .int j]) : vs = [.int i, .int j] := by
  obtain ⟨v, u, rfl, q, q2⟩ := rps2 r
  cases rp_int_inv q; cases rp_int_inv q2; rfl
theorem line_int : (sizeLine : Int) < 2 ^ 32 := by rw [sizeLine_eq]; decide
theorem rd_rng1 {K : PySem.W.Frag} {ta : TA} (ra : RdA K ta gs) : ∀ A F H S σ ds S' (R : It → Hp → Prop), Ok K A F H S σ → gRng1 gs S = some (ds, S') →
    (∀ A' F' H' J, A <+: A' → Same F F' → Ok K A' F' H' S' σ → (∀ G, Walk K G J ds) → ds.length ≤ sizeLine → R J H') → iRng1 ta σ H R := by
  intro A F H S σ ds S' R k e post
  obtain ⟨⟨xs, S1⟩, h1, e⟩ := bind_inv e
  simp only at e
  split at e
  · split at e
    · rename_i j hj
      cases e
      refine ra A F H S σ _ _ _ k h1 fun A1 F1 H1 vs p1 s1 k1 r1 => ?_
      have hl := line_int
      exact ⟨j, rps_int1 r1, hj.1, by omega, post A1 F1 H1 _ p1 s1 k1 (fun G => walk_range 0 _) (by rw [rng_len]; omega)⟩
    · cases e
  · cases e
theorem rd_rng2 {K : PySem.W.Frag} {ta : TA} (ra : RdA K ta gs) : ∀ A F H S σ ds S' (R : It → Hp → Prop), Ok K A F H S σ → gRng2 gs S = some (ds, S') →
    (∀ A' F' H' J, A <+: A' → Same F F' → Ok K A' F' H' S' σ → (∀ G, Walk K G J ds) → ds.length ≤ sizeLine → R J H') → iRng2 ta σ H R := by
  intro A F H S σ ds S' R k e post
  obtain ⟨⟨xs, S1⟩, h1, e⟩ := bind_inv e
  simp only at e
  split at e
  · split at e
    · rename_i i j hj
      cases e
      refine ra A F H S σ _ _ _ k h1 fun A1 F1 H1 vs p1 s1 k1 r1 => ?_
      have hl := line_int
      exact ⟨i, j, rps_int2 r1, by omega, post A1 F1 H1 _ p1 s1 k1 (fun G => walk_range i _) (by rw [rng_len]; omega)⟩
    · cases e
  · cases e
theorem i_range1 (hm : X.mg "range" = none) (ha : GA X [e] gs) (hg : Gl X "range" := by rfl) (hs : starEach [e] X.env = [(false, eval e X.env)] := by rfl) : GI X tg (.Call (.Name "range" p) [e] [] pos) (gRng1 gs) := by
  obtain ⟨t, pa, ra⟩ := ha.ex
  exact ⟨_, pi_range1 hg hm pa hs, fun A F H S σ ds S' R k e post => rd_rng1 ra A F H S σ ds S' R k e fun A1 F1 H1 J p1 s1 k1 w hz => post A1 F1 H1 J p1 s1 k1 (w _) hz⟩
theorem i0_range1 (hm : X.mg "range" = none) (ha : GA X [e] gs) (hg : Gl X "range" := by rfl) (hs : starEach [e] X.env = [(false, eval e X.env)] := by rfl) : GI0 X tg (.Call (.Name "range" p) [e] [] pos) (gRng1 gs) := by
  obtain ⟨t, pa, ra⟩ := ha.ex
  exact ⟨_, pi_range1 hg hm pa hs, fun A F H S σ ds S' R k e post => rd_rng1 ra A F H S σ ds S' R k e fun A1 F1 H1 J p1 s1 k1 w hz => post A1 F1 H1 J p1 s1 k1 (w _)⟩
theorem i_range2 (hm : X.mg "range" = none) (ha : GA X [e, e2] gs) (hg : Gl X "range" := by rfl) (hs : starEach [e, e2] X.env = [(false, eval e X.env), (false, eval e2 X.env)] := by rfl) (hs2 : starEach [e2] X.env = [(false, eval e2 X.env)] := by rfl) : GI X tg (.Call (.Name "range" p) [e, e2] [] pos) (gRng2 gs) := by
  obtain ⟨t, pa, ra⟩ := ha.ex
  exact ⟨_, pi_range2 hg hm pa hs hs2, fun A F H S σ ds S' R k e post => rd_rng2 ra A F H S σ ds S' R k e fun A1 F1 H1 J p1 s1 k1 w hz => post A1 F1 H1 J p1 s1 k1 (w _) hz⟩
/-- zip(xs, ys): both lists or both tuples -/
def gZip (g : M (List D)) : M (List D) := fun S => (g S).bind fun p => match p.1 with
  | [.list xs, .list ys] => some (zipD xs ys, p.2)
  | [.tuple xs, .tuple ys] => some (zipD xs ys, p.2)
  | _ => none
theorem zipD_len (xs ys : List D) : (zipD xs ys).length ≤ xs.length := by
  rw [zipD_eq, List.length_map, List.length_zip]
  omega
theorem walk_zipT {K : PySem.W.Frag} {F : Hp} {a b : Addr} {vs us : List V} {xs ys : List D} (h : SqT K F a vs) (g : SqT K F b us) (r : Rps K F vs xs) (q : Rps K F us ys) : Walk K F (ItzT K a b) (zipD xs ys) where
  stop := fun i H s hi => by
    refine ⟨vs, us, sqT_same s h, sqT_same s g, ?_⟩
    rw [zipD_eq, List.length_map, List.length_zip] at hi
    rw [r.length, q.length]
    omega
  go := fun i H s hi => by
    rw [zipD_eq, List.length_map, List.length_zip] at hi
    obtain ⟨v, e, _⟩ := r.get (List.getElem?_eq_getElem (show i < xs.length by omega))
    obtain ⟨u, e2, _⟩ := q.get (List.getElem?_eq_getElem (show i < ys.length by omega))
    exact ⟨vs, us, v, u, sqT_same s h, sqT_same s g, e, e2⟩
  yld := fun i d H x H' s hd y => by
    obtain ⟨T, v, u, rfl, hT, rfl, e1, e2⟩ := y
    rw [zipD_eq, List.getElem?_map] at hd
    obtain ⟨⟨d1, d2⟩, hz, rfl⟩ := Option.map_eq_some_iff.mp hd
    rw [List.getElem?_zip_eq_some] at hz
    obtain ⟨v', g1, r1⟩ := r.get hz.1
    obtain ⟨u', g2, r2⟩ := q.get hz.2
    have f1 := e1 vs (sqT_same s h)
    have f2 := e2 us (sqT_same s g)
    rw [g1] at f1; cases f1
    rw [g2] at f2; cases f2
    exact .inr ⟨T, _, _, rfl, hT, rfl, rfl, .cons r1 (.cons r2 .nil), by show 2 ≤ sizeLine; decide⟩
theorem i_zip {elts : List Expr} {kk : Nat} {tpos : Pos} (hm : X.mg "zip" = none) (ha : GA X [e, e2] gs) (hg : Gl X "zip" := by rfl) (hs : starEach [e, e2] X.env = (false, eval e X.env) :: starEach [e2] X.env := by rfl) (hpl : (backTo pos (starEach [e2] X.env)).any (·.1) = false := by rfl) :
    GI X (.Tuple elts kk tpos) (.Call (.Name "zip" p) [e, e2] [] pos) (gZip gs) := by
  obtain ⟨t, pa, ra⟩ := ha.ex
  refine ⟨_, pi_zipA hg hm pa hs hpl, fun A F H S σ ds S' R k e post => ?_⟩
  obtain ⟨⟨xs, S1⟩, h1, e⟩ := bind_inv e
  simp only at e
  split at e
  · cases e
    refine ra A F H S σ _ _ _ k h1 fun A1 F1 H1 vs p1 s1 k1 r1 => ?_
    obtain ⟨v, u, rfl, q1, q2⟩ := rps2 r1
    obtain ⟨a, ws, rfl, g1, g2, g3⟩ := rp_list_inv q1
    obtain ⟨b, us, rfl, f1, f2, f3⟩ := rp_list_inv q2
    exact ⟨a, b, ws, us, rfl, .inl ⟨SqL.of (k1.sub.same _ _ g1), SqL.of (k1.sub.same _ _ f1), post A1 F1 H1 _ p1 s1 k1 (walk_zip g1 f1 g2 f2) (Nat.le_trans (zipD_len _ _) g3)⟩⟩
  · cases e
    refine ra A F H S σ _ _ _ k h1 fun A1 F1 H1 vs p1 s1 k1 r1 => ?_
    obtain ⟨v, u, rfl, q1, q2⟩ := rps2 r1
    obtain ⟨a, ws, rfl, g1, g2, g3⟩ := rp_tup_inv q1
    obtain ⟨b, us, rfl, f1, f2, f3⟩ := rp_tup_inv q2
    exact ⟨a, b, ws, us, rfl, .inr ⟨sqT_same k1.sub.same g1, sqT_same k1.sub.same f1, post A1 F1 H1 _ p1 s1 k1 (walk_zipT g1 f1 g2 f2) (Nat.le_trans (zipD_len _ _) g3)⟩⟩
  · cases e
end

/-! ### targets: names, tuples of them -/
def RdG (K : PySem.W.Frag) (tgt : List Nat) (t : TG) (g : D → Sx → Option Sx) : Prop := ∀ A F H S σ v d S' (Q : L2.St → Hp → Prop), Ok K A F H S σ → Rp K F v d → g d S = some S' →
  (∀ A' F' H' σ', A <+: A' → Same F F' → Ok K A' F' H' S' σ' → (∀ vs, (∀ i ∈ tgt, i ∈ vs) → wipe σ' vs = wipe σ vs) → Q σ' H') → t v σ H Q
def RdGs (K : PySem.W.Frag) (tgt : List Nat) (t : TGs) (g : List D → Sx → Option Sx) : Prop := ∀ A F H S σ vs ds S' (Q : L2.St → Hp → Prop), Ok K A F H S σ → Rps K F vs ds → g ds S = some S' →
  (∀ A' F' H' σ', A <+: A' → Same F F' → Ok K A' F' H' S' σ' → (∀ vs, (∀ i ∈ tgt, i ∈ vs) → wipe σ' vs = wipe σ vs) → Q σ' H') → t vs σ H Q
structure GG (X : Cx) (tgt : List Nat) (e : Expr) (g : D → Sx → Option Sx) : Prop where
  ex : ∃ t, PG X e t ∧ RdG X.K tgt t g
structure GGs (X : Cx) (tgt : List Nat) (es : List Expr) (g : List D → Sx → Option Sx) : Prop where
  ex : ∃ t, PGs X es t ∧ RdGs X.K tgt t g
def sName (i : Nat) : D → Sx → Option Sx := fun d S => some ⟨S.sl.set i (some (.dat d)), S.os⟩
def sNil : List D → Sx → Option Sx := fun ds S => match ds with
  | [] => some S
  | _ => none
def sCons (g : D → Sx → Option Sx) (gs : List D → Sx → Option Sx) : List D → Sx → Option Sx := fun ds S => match ds with
  | d :: ds => (g d S).bind fun S1 => gs ds S1
  | [] => none
def sTup (n : Nat) (gs : List D → Sx → Option Sx) : D → Sx → Option Sx := fun d S => match d with
  | .tuple ds => if ds.length = n then gs ds S else none
  | _ => none
theorem wipe_set {σ : L2.St} {i : Nat} {x : Option V} : ∀ {vs : List Nat}, i ∈ vs → wipe (σ.set i x) vs = wipe σ vs
  | v :: vs, h => by
    unfold wipe
    by_cases hv : i = v
    · subst hv
      by_cases hm : i ∈ vs
      · rw [wipe_set hm]
      · have comm : ∀ ws : List Nat, i ∉ ws → wipe (σ.set i x) ws = (wipe σ ws).set i x := by
          intro ws
          induction ws with
          | nil => intro _; rfl
          | cons w ws ih =>
            intro hn
            simp only [List.mem_cons, not_or] at hn
            unfold wipe
            rw [ih hn.2, List.set_comm _ _ hn.1]
        rw [comm vs hm, List.set_set]
    · rcases List.mem_cons.mp h with e | h
      · exact absurd e hv
      · rw [wipe_set h]
section
variable {X : Cx} {pos : Pos} {e : Expr} {es : List Expr} {n : Nat} {tg ts : List Nat} {g : D → Sx → Option Sx} {gs : List D → Sx → Option Sx}
theorem g_name (i : Nat) {x : Str} (hN : X.N.Nodup) (hx : Loc X.env.scope x := by first | exact Or.inl rfl | exact Or.inr rfl) (hi : X.N[i]? = some x := by rfl) (hf : X.fn x = true ∨ X.env.scope.names.lookup x = some .local := by first | exact .inl rfl | exact .inr rfl | assumption) : GG X [i] (.Name x pos) (sName i) :=
  ⟨_, pg_name hN hi hx hf, fun A F H S σ v d S' Q k r e post => by
    cases e
    exact post A F H _ (List.prefix_refl _) (Same.refl F) (k.setDat r) fun vs h => wipe_set (h i (by simp))⟩
theorem gs_nil : GGs X [] [] sNil := ⟨_, pgs_nil, fun A F H S σ vs ds S' Q k r e post => by
  cases ds with
  | cons _ _ => cases e
  | nil => cases e; cases r; exact ⟨rfl, post A F H σ (List.prefix_refl _) (Same.refl F) k fun _ _ => rfl⟩⟩
theorem gs_cons (h1 : GG X tg e g) (h2 : GGs X ts es gs) (hs : (assignEach (e :: es) X.env).map (·.2) = assign e X.env :: (assignEach es X.env).map (·.2) := by rfl) : GGs X (tg ++ ts) (e :: es) (sCons g gs) := by
  obtain ⟨t, p1, r1⟩ := h1.ex
  obtain ⟨u, p2, r2⟩ := h2.ex
  refine ⟨_, pgs_cons p1 p2 hs, fun A F H S σ vs ds S' Q k r e post => ?_⟩
  cases ds with
  | nil => cases e
  | cons d ds =>
    cases r with
    | cons ra rb =>
      obtain ⟨S1, e1, e⟩ := bind_inv e
      refine ⟨_, _, rfl, r1 A F H S σ _ d S1 _ k ra e1 fun A1 F1 H1 σ1 q1 s1 k1 w1 => r2 A1 F1 H1 S1 σ1 _ ds S' Q k1 (Rps.mono s1 _ _ rb) e fun A2 F2 H2 σ2 q2 s2 k2 w2 => ?_⟩
      exact post A2 F2 H2 σ2 (q1.trans q2) (s1.trans s2) k2 fun vs h => (w2 vs fun i hi => h i (List.mem_append_right _ hi)).trans (w1 vs fun i hi => h i (List.mem_append_left _ hi))
theorem g_tup {k} (h : GGs X ts es gs) (hc : X.calm = true := by rfl) (hn : (assignEach es X.env).length = n := by rfl) (hst : (assignEach es X.env).findIdx? (·.1) = none := by rfl) : GG X ts (.Tuple es k pos) (sTup n gs) := by
  obtain ⟨t, p1, r1⟩ := h.ex
  refine ⟨_, pg_tup hc p1 hn hst, fun A F H S σ v d S' Q k r e post => ?_⟩
  cases d <;> simp only [sTup] at e <;> try cases e
  split at e
  · rename_i hl
    obtain ⟨a, vs, rfl, g1, g2, g3⟩ := rp_tup_inv r
    exact ⟨a, vs, rfl, sqT_same k.sub.same g1, by rw [g2.length]; exact hl, r1 A F H S σ vs _ S' Q k g2 e post⟩
  · cases e
end
end Fu

set_option maxHeartbeats 4000000
namespace Fu
open PySem PySem.Spec PyProof.Rows L2 RZ

/-! ### slots of a comprehension's own names -/
def wipeS (sl : List (Option R)) : List Nat → List (Option R)
  | [] => sl
  | v :: vs => (wipeS sl vs).set v none
def backS (old new : List (Option R)) : List Nat → List (Option R)
  | [] => new
  | v :: vs => match old[v]? with
    | some x => (backS old new vs).set v x
    | none => backS old new vs
theorem wipeS_len (sl : List (Option R)) : ∀ vs, (wipeS sl vs).length = sl.length
  | [] => rfl
  | v :: vs => by unfold wipeS; rw [List.length_set, wipeS_len sl vs]
theorem backS_len (old new : List (Option R)) : ∀ vs, (backS old new vs).length = new.length
  | [] => rfl
  | v :: vs => by
    unfold backS
    split
    · rw [List.length_set, backS_len old new vs]
    · exact backS_len old new vs
theorem wipeS_in {sl : List (Option R)} {i : Nat} {r : R} : ∀ {vs : List Nat}, (wipeS sl vs)[i]? = some (some r) → sl[i]? = some (some r) ∧ i ∉ vs
  | [], h => ⟨h, by simp⟩
  | v :: vs, h => by
    unfold wipeS at h
    by_cases hi : v = i
    · subst hi
      by_cases hv : v < (wipeS sl vs).length
      · rw [List.getElem?_set_self hv] at h; cases h
      · rw [List.getElem?_eq_none (by simpa using hv)] at h; cases h
    · rw [List.getElem?_set_ne hi] at h
      obtain ⟨h1, h2⟩ := wipeS_in h
      exact ⟨h1, by simp only [List.mem_cons, not_or]; exact ⟨fun e => hi e.symm, h2⟩⟩
theorem wipeS_out {sl : List (Option R)} {i : Nat} : ∀ {vs : List Nat}, i ∉ vs → (wipeS sl vs)[i]? = sl[i]?
  | [], _ => rfl
  | v :: vs, h => by
    simp only [List.mem_cons, not_or] at h
    unfold wipeS
    rw [List.getElem?_set_ne (Ne.symm h.1), wipeS_out h.2]
theorem wipe_outV {σ : L2.St} {i : Nat} : ∀ {vs : List Nat}, i ∉ vs → (wipe σ vs)[i]? = σ[i]?
  | [], _ => rfl
  | v :: vs, h => by
    simp only [List.mem_cons, not_or] at h
    unfold wipe
    rw [List.getElem?_set_ne (Ne.symm h.1), wipe_outV h.2]
theorem backS_in {old new : List (Option R)} {i : Nat} : ∀ {vs : List Nat}, old.length = new.length → (backS old new vs)[i]? = if i ∈ vs then old[i]? else new[i]?
  | [], _ => by simp [backS]
  | v :: vs, h => by
    have ih := backS_in (i := i) (vs := vs) h
    unfold backS
    by_cases hv : v = i
    · subst hv
      simp only [List.mem_cons, true_or, if_true]
      cases e : old[v]? with
      | none =>
        show (backS old new vs)[v]? = none
        rw [ih]
        have hl : new[v]? = none := List.getElem?_eq_none (by rw [← h]; exact List.getElem?_eq_none_iff.mp e)
        split
        · exact e
        · exact hl
      | some x =>
        show ((backS old new vs).set v x)[v]? = some x
        rw [List.getElem?_set_self]
        rw [backS_len, ← h]
        exact (List.getElem?_eq_some_iff.mp e).1
    · have e2 : (match old[v]? with | some x => (backS old new vs).set v x | none => backS old new vs)[i]? = (backS old new vs)[i]? := by
        split
        · rw [List.getElem?_set_ne hv]
        · rfl
      rw [e2, ih]
      have : (i ∈ v :: vs) ↔ i ∈ vs := by
        simp only [List.mem_cons]
        exact ⟨fun z => z.elim (fun e => absurd e.symm hv) id, .inr⟩
      by_cases hm : i ∈ vs
      · rw [if_pos hm, if_pos (this.mpr hm)]
      · rw [if_neg hm, if_neg (fun z => hm (this.mp z))]
section
variable {K : PySem.W.Frag} {A A' : List Addr} {F F' G H : Hp} {S S' : Sx} {σ τ : L2.St}
theorem Ok.wipe {vs : List Nat} (k : Ok K A F H S τ) (e : L2.wipe τ vs = L2.wipe σ vs) : Ok K A F H ⟨wipeS S.sl vs, S.os⟩ (L2.wipe σ vs) := by
  refine ⟨k.sub, by rw [wipeS_len, k.len, ← e, wipe_length], k.alen, k.nd, fun i r h => ?_, k.cell, k.trk⟩
  obtain ⟨h1, h2⟩ := wipeS_in h
  obtain ⟨v, e1, q⟩ := k.rslot i r h1
  exact ⟨v, by rw [← e, wipe_outV h2]; exact e1, q⟩
theorem Ok.back {vs : List Nat} (k0 : Ok K A F H S σ) (k : Ok K A' F' G ⟨wipeS S'.sl vs, S'.os⟩ (L2.wipe σ vs)) (p : A <+: A') (s : Same F F') : Ok K A' F' G ⟨backS S.sl S'.sl vs, S'.os⟩ σ := by
  have hl : S.sl.length = S'.sl.length := by
    have := k.len
    rw [wipeS_len, wipe_length] at this
    rw [k0.len, this]
  refine ⟨k.sub, by rw [backS_len, ← hl]; exact k0.len, k.alen, k.nd, fun i r h => ?_, k.cell, k.trk⟩
  simp only at h
  rw [backS_in hl] at h
  by_cases hi : i ∈ vs
  · rw [if_pos hi] at h
    obtain ⟨v, e1, q⟩ := k0.rslot i r h
    exact ⟨v, e1, q.mono p s _ _⟩
  · rw [if_neg hi] at h
    obtain ⟨v, e1, q⟩ := k.rslot i r (by simp only; rw [wipeS_out hi]; exact h)
    rw [wipe_outV hi] at e1
    exact ⟨v, e1, q⟩
/-- one list over a heap: what may be forgotten -/
theorem sub_one {p : Addr} {o : HO} (h : G p = none) (l : Loose o) : Sub G (upd G p o) := ⟨fun b u e => by rw [upd_ne (ne_of_none e h)]; exact e, fun b u e n => by
  by_cases hb : b = p
  · subst hb; rw [upd_same] at e; cases e; exact l
  · rw [upd_ne hb, n] at e; cases e⟩
theorem mix_one {G' : Hp} {p : Addr} {o : HO} (h : G p = none) (h' : G' p = none) : mixH G (upd G p o) G' = upd G' p o := by
  funext b
  by_cases hb : b = p
  · subst hb
    rw [mix_lost h upd_same, upd_same]
  · rw [upd_ne hb]
    cases q : G b with
    | some u => exact mix_held q
    | none => exact mix_free (by rw [upd_ne hb]; exact q)
end

/-! ### tests of a comprehension -/
structure GTs (X : Cx) (ifs : List Expr) (g : M Bool) : Prop where
  ex : ∃ t, PTs X ifs t ∧ RdT X.K t g
def gYes : M Bool := fun S => some (true, S)
theorem ts_nil {X : Cx} : GTs X [] gYes := ⟨_, pts_nil, fun A F H S σ b S' Q k e post => by cases e; exact post A F H (List.prefix_refl _) (Same.refl F) k⟩
theorem ts_one {X : Cx} {c : Expr} {g : M Bool} (h : GT X c g) : GTs X [c] g := let ⟨_, p, r⟩ := h.ex; ⟨_, pts_one p, r⟩

/-! ### the turns of a comprehension -/
def gTurns (gg : D → Sx → Option Sx) (gt : M Bool) (ge : M D) (vs : List Nat) : List D → Sx → Option (List D × Sx)
  | [], S => some ([], S)
  | d :: ds, S => (gg d ⟨wipeS S.sl vs, S.os⟩).bind fun S1 => (gt S1).bind fun p =>
    if p.1 = true then (ge p.2).bind fun q => (gTurns gg gt ge vs ds q.2).bind fun r => some (q.1 :: r.1, r.2)
    else gTurns gg gt ge vs ds p.2
def gLc (gi : M (List D)) (gg : D → Sx → Option Sx) (gt : M Bool) (ge : M D) (vs : List Nat) : M D := fun S => (gi S).bind fun p => (gTurns gg gt ge vs p.1 p.2).bind fun r => some (.list r.1, ⟨backS p.2.sl r.2.sl vs, r.2.os⟩)
section
variable {K : PySem.W.Frag}
/-- a new list that is nobody's yet -/
def RdN (K : PySem.W.Frag) (t : TE) (g : M D) : Prop := ∀ A F H S σ d S' (Q : VK), Ok K A F H S σ → g S = some (d, S') →
  (∀ A' F' G p vs ds, A <+: A' → Same F F' → Ok K A' F' G S' σ → G p = none → d = .list ds → Rps K F' vs ds → ds.length ≤ sizeLine → Q (.ref p) (upd G p (.lst vs))) → t σ H Q
theorem RdN.e {t : TE} {g : M D} (h : RdN K t g) : RdE K t g := by
  intro A F H S σ d S' Q k e post
  refine h A F H S σ d S' Q k e fun A1 F1 G p vs ds p1 s1 k1 hp ed r hz => ?_
  subst ed
  obtain ⟨s2, k2, r2⟩ := k1.newList hp r hz
  exact post A1 _ _ _ p1 (s1.trans s2) k2 r2
theorem rd_lc {wi : TI} {g : TG} {tt : TT} {te : TE} {gi : M (List D)} {gg : D → Sx → Option Sx} {gt : M Bool} {ge : M D} {tgt vs : List Nat} (hi : RdI K wi gi) (hg : RdG K tgt g gg) (ht : RdT K tt gt) (he : RdE K te ge) (hv : ∀ i ∈ tgt, i ∈ vs) :
    RdN K (tLc wi (gFr g) (tFrT tt) (tFr te) vs) (gLc gi gg gt ge vs) := by
  intro A F H S σ d S' Q k e post
  obtain ⟨⟨ds, S1⟩, e1, e⟩ := bind_inv e
  obtain ⟨⟨rs, S2⟩, e2, e⟩ := bind_inv e
  cases e
  refine hi A F H S σ ds S1 _ k e1 fun A1 F1 H1 J p1 s1 k1 w hz => fun L hL => ?_
  refine ⟨fun i m H => m = ds.length - i ∧ i ≤ ds.length ∧ ∃ A F G S acc us rest, Same F1 F ∧ A1 <+: A ∧ Ok K A F G ⟨wipeS S.sl vs, S.os⟩ (wipe σ vs) ∧ G L = none ∧ H = upd G L (.lst us) ∧ Rps K F us acc ∧ acc.length ≤ i ∧
    gTurns gg gt ge vs (ds.drop i) S = some (rest, S2) ∧ acc ++ rest = rs, ⟨ds.length, by simp, Nat.zero_le _, A1, F1, H1, S1, [], [], rs, Same.refl _, List.prefix_refl _, k1.wipe rfl, hL, rfl, .nil, Nat.le_refl _, by simpa using e2, rfl⟩, ?_⟩
  rintro i m H ⟨rfl, hil, A2, F2, G2, S3, acc, us, rest, s2, p2, k2, hG, rfl, ru, hla, et, ea⟩
  have sFH : Same F1 (upd G2 L (.lst us)) := (s2.trans k2.sub.same).trans (same_upd hG)
  by_cases hlt : i < ds.length
  · refine .inr ⟨w.go i _ sFH hlt, fun H' => i + 1 ≤ ds.length ∧ ∃ A F G S acc us rest, Same F1 F ∧ A1 <+: A ∧ Ok K A F G ⟨wipeS S.sl vs, S.os⟩ (wipe σ vs) ∧ G L = none ∧ H' = upd G L (.lst us) ∧ Rps K F us acc ∧ acc.length ≤ i + 1 ∧
      gTurns gg gt ge vs (ds.drop (i + 1)) S = some (rest, S2) ∧ acc ++ rest = rs, fun H' h => ⟨ds.length - (i + 1), by omega, rfl, h⟩, fun x H' hy => ?_⟩
    rw [List.drop_eq_getElem_cons hlt] at et
    obtain ⟨S4, e4, et⟩ := bind_inv (show (gg ds[i] ⟨wipeS S3.sl vs, S3.os⟩).bind _ = _ from et)
    obtain ⟨⟨b, S5⟩, e5, et⟩ := bind_inv et
    -- the item
    have key : ∃ F3 G3, Same F2 F3 ∧ Ok K A2 F3 G3 ⟨wipeS S3.sl vs, S3.os⟩ (wipe σ vs) ∧ G3 L = none ∧ H' = upd G3 L (.lst us) ∧ Rp K F3 x ds[i] := by
      rcases w.yld i ds[i] _ x H' sFH (List.getElem?_eq_getElem hlt) hy with ⟨rfl, r⟩ | ⟨T, ws, es, rfl, hT, rfl, ed, r, hz2⟩
      · exact ⟨F2, G2, Same.refl _, k2, hG, rfl, r.mono s2 _ _⟩
      · have hTL : T ≠ L := fun z => by subst z; rw [upd_same] at hT; cases hT
        have gT : G2 T = none := by rwa [upd_ne hTL] at hT
        obtain ⟨s3, k3, r3⟩ := k2.newTup gT (Rps.mono s2 _ _ r) hz2
        refine ⟨_, _, s3, k3, by rw [upd_ne (Ne.symm hTL)]; exact hG, ?_, by rw [ed]; exact r3⟩
        funext c
        by_cases h1 : c = T
        · subst h1; rw [upd_same, upd_ne hTL, upd_same]
        · rw [upd_ne h1]
          by_cases h2 : c = L
          · subst h2; rw [upd_same, upd_same]
          · rw [upd_ne h2, upd_ne h2, upd_ne h1]
    obtain ⟨F3, G3, s3, k3, hG3, rfl, rx⟩ := key
    refine ⟨G3, sub_one hG3 trivial, hg A2 F3 G3 _ _ x ds[i] S4 _ k3 rx e4 fun A4 F4 G4 σ4 p4 s4 k4 w4 => ⟨fun c xs q => ?_, fun lost => ?_⟩⟩
    · exact k4.sub.keep (k4.sub.same c _ (by
        have := k3.sub.keep q (fun z => z)
        exact s4 c _ this)) (fun z => z) |> fun z => k4.sub.same c _ z
    · have hG4 : G4 L = none := lost L _ upd_same hG3
      rw [mix_one hG3 hG4]
      refine ⟨(w4 vs hv).trans (by
        have : ∀ ws : List Nat, wipe (wipe σ ws) ws = wipe σ ws := by
          intro ws
          apply List.ext_getElem?
          intro n
          by_cases hn : n ∈ ws
          · have h1 : ∀ {τ : L2.St} {n : Nat} {ws : List Nat}, n ∈ ws → (wipe τ ws)[n]? = if n < τ.length then some none else none := by
              intro τ n ws
              induction ws with
              | nil => intro h; cases h
              | cons v ws ih =>
                intro h
                unfold wipe
                by_cases hv : v = n
                · subst hv
                  by_cases hl : v < τ.length
                  · rw [List.getElem?_set_self (by rw [wipe_length]; exact hl), if_pos hl]
                  · rw [List.getElem?_eq_none (by rw [List.length_set, wipe_length]; omega), if_neg hl]
                · rw [List.getElem?_set_ne hv]
                  exact ih ((List.mem_cons.mp h).resolve_left fun z => hv z.symm)
            rw [h1 hn, h1 hn, wipe_length]
          · rw [wipe_outV hn]
        exact this vs), G4, sub_one hG4 trivial, ht A4 F4 G4 S4 σ4 b S5 _ k4 e5 fun A5 F5 G5 p5 s5 k5 => ⟨fun c xs q => ?_, fun lost => ?_⟩⟩
      · exact k5.sub.same c _ (s5 c _ (k4.sub.keep q (fun z => z)))
      · have hG5 : G5 L = none := lost L _ upd_same hG4
        rw [mix_one hG4 hG5]
        have w5 : wipe σ4 vs = wipe σ vs := (w4 vs hv).trans (by
          have h1 : ∀ {τ : L2.St} {n : Nat} {ws : List Nat}, n ∈ ws → (wipe τ ws)[n]? = if n < τ.length then some none else none := by
            intro τ n ws
            induction ws with
            | nil => intro h; cases h
            | cons v ws ih =>
              intro h
              unfold wipe
              by_cases hv : v = n
              · subst hv
                by_cases hl : v < τ.length
                · rw [List.getElem?_set_self (by rw [wipe_length]; exact hl), if_pos hl]
                · rw [List.getElem?_eq_none (by rw [List.length_set, wipe_length]; omega), if_neg hl]
              · rw [List.getElem?_set_ne hv]
                exact ih ((List.mem_cons.mp h).resolve_left fun z => hv z.symm)
          apply List.ext_getElem?
          intro n
          by_cases hn : n ∈ vs
          · rw [h1 hn, h1 hn, wipe_length]
          · rw [wipe_outV hn])
        cases b with
        | false =>
          rw [if_neg Bool.false_ne_true] at et
          show if false = true then _ else _
          rw [if_neg Bool.false_ne_true]
          exact ⟨hlt, A5, F5, G5, S5, acc, us, rest, s2.trans (s3.trans (s4.trans s5)), p2.trans (p4.trans p5), k5.wipe w5, hG5, rfl, Rps.mono (s3.trans (s4.trans s5)) _ _ ru, Nat.le_succ_of_le hla, et, ea⟩
        | true =>
          rw [if_pos rfl] at et
          show if true = true then _ else _
          rw [if_pos rfl]
          obtain ⟨⟨y, S6⟩, e6, et⟩ := bind_inv et
          obtain ⟨⟨rest', S7⟩, e7, et⟩ := bind_inv et
          cases et
          refine ⟨G5, sub_one hG5 trivial, he A5 F5 G5 S5 σ4 y S6 _ k5 e6 fun A6 F6 G6 v p6 s6 k6 r6 => ⟨fun c xs q => ?_, fun lost => ?_⟩⟩
          · exact k6.sub.same c _ (s6 c _ (k5.sub.keep q (fun z => z)))
          · have hG6 : G6 L = none := lost L _ upd_same hG5
            rw [mix_one hG5 hG6]
            have ru' : Rps K F6 us acc := Rps.mono (s3.trans (s4.trans (s5.trans s6))) _ _ ru
            refine ⟨us, upd_same, ?_, hlt, A6, F6, G6, S6, acc ++ [y], us ++ [v], rest', s2.trans (s3.trans (s4.trans (s5.trans s6))), p2.trans (p4.trans (p5.trans p6)), k6.wipe w5, hG6, upd_upd, ru'.append (.cons r6 .nil), ?_, e7, ?_⟩
            · rw [ru'.length]
              omega
            · rw [List.length_append, List.length_singleton]
              omega
            · rw [← ea, List.append_assoc]; rfl
  · have ei : i = ds.length := by omega
    subst ei
    rw [List.drop_length] at et
    cases et
    refine .inl ⟨w.stop _ _ sFH (Nat.le_refl _), ?_⟩
    rw [List.append_nil] at ea
    subst ea
    exact post A2 F2 G2 L us acc (p1.trans p2) (s1.trans s2) (k1.back k2 p2 s2) hG rfl ru (Nat.le_trans hla hz)
end

/-! ### the one reading of each judgement -/
def tOf (K : PySem.W.Frag) (g : M D) : TE := fun σ H Q => ∃ A F S d S', Ok K A F H S σ ∧ g S = some (d, S') ∧ ∀ A' F' H' v, A <+: A' → Same F F' → Ok K A' F' H' S' σ → Rp K F' v d → Q v H'
def ttOf (K : PySem.W.Frag) (g : M Bool) : TT := fun σ H Q => ∃ A F S d S', Ok K A F H S σ ∧ g S = some (d, S') ∧ ∀ A' F' H', A <+: A' → Same F F' → Ok K A' F' H' S' σ → Q d H'
def gOf (K : PySem.W.Frag) (tgt : List Nat) (g : D → Sx → Option Sx) : TG := fun v σ H Q => ∃ A F S d S', Ok K A F H S σ ∧ Rp K F v d ∧ g d S = some S' ∧ ∀ A' F' H' σ', A <+: A' → Same F F' → Ok K A' F' H' S' σ' → (∀ vs, (∀ i ∈ tgt, i ∈ vs) → wipe σ' vs = wipe σ vs) → Q σ' H'
def iOf (K : PySem.W.Frag) (g : M (List D)) : TI := fun σ H R => ∃ A F S ds S', Ok K A F H S σ ∧ g S = some (ds, S') ∧ ∀ A' F' H' J, A <+: A' → Same F F' → Ok K A' F' H' S' σ → Walk K F' J ds → ds.length ≤ sizeLine → R J H'
theorem GE.pe {X : Cx} {e : Expr} {g : M D} (h : GE X e g) : PE X e (tOf X.K g) := by
  obtain ⟨t, p, r⟩ := h.ex
  exact ⟨fun pins s σ H Q I ⟨A, F, S, d, S', k, e, post⟩ => p.run pins s σ H Q I (r A F H S σ d S' Q k e post)⟩
theorem rd_of {K : PySem.W.Frag} {g : M D} : RdE K (tOf K g) g := fun A F H S σ d S' Q k e post => ⟨A, F, S, d, S', k, e, post⟩
theorem GTs.pts {X : Cx} {es : List Expr} {g : M Bool} (h : GTs X es g) : PTs X es (ttOf X.K g) := by
  obtain ⟨t, p, r⟩ := h.ex
  exact ⟨fun pins s σ H Q I ⟨A, F, S, d, S', k, e, post⟩ => p.run pins s σ H Q I (r A F H S σ d S' Q k e post)⟩
theorem rd_tof {K : PySem.W.Frag} {g : M Bool} : RdT K (ttOf K g) g := fun A F H S σ d S' Q k e post => ⟨A, F, S, d, S', k, e, post⟩
theorem GG.pg {X : Cx} {tgt : List Nat} {e : Expr} {g : D → Sx → Option Sx} (h : GG X tgt e g) : PG X e (gOf X.K tgt g) := by
  obtain ⟨t, p, r⟩ := h.ex
  exact ⟨fun pins s σ H v u Q I rv ⟨A, F, S, d, S', k, rd, e, post⟩ => p.run pins s σ H v u Q I rv (r A F H S σ v d S' Q k rd e post)⟩
theorem rd_gof {K : PySem.W.Frag} {tgt : List Nat} {g : D → Sx → Option Sx} : RdG K tgt (gOf K tgt g) g := fun A F H S σ v d S' Q k r e post => ⟨A, F, S, d, S', k, r, e, post⟩
theorem GI.pi {X : Cx} {tg e : Expr} {g : M (List D)} (h : GI X tg e g) : PI X tg e (iOf X.K g) := by
  obtain ⟨t, p, r⟩ := h.ex
  exact ⟨fun pins s σ H R I ⟨A, F, S, d, S', k, e, post⟩ => p.run pins s σ H R I (r A F H S σ d S' R k e post)⟩
theorem rd_iof {K : PySem.W.Frag} {g : M (List D)} : RdI K (iOf K g) g := fun A F H S σ d S' Q k e post => ⟨A, F, S, d, S', k, e, post⟩

/-! ### comprehensions -/
section
variable {X : Cx} {pos : Pos} {elt tg iter : Expr} {ifs : List Expr} {scope : Scope} {gi : M (List D)} {gg : D → Sx → Option Sx} {gt : M Bool} {ge : M D} {tgt : List Nat}
/-- the block of a comprehension, wherever it stands -/
abbrev InBlk (X : Cx) (scope : Scope) (P : Cx → Prop) : Prop := ∀ (s : Shared) (H : Hp) (C : Addr) (cl : List (Str × Addr)) (fp : List Addr), P (X.blk s H scope (compEnvC scope cl C X.env) fp)
structure GN (X : Cx) (e : Expr) (g : M D) : Prop where
  ex : ∃ t, PE X e t ∧ RdN X.K t g
theorem GN.e {X : Cx} {e : Expr} {g : M D} (h : GN X e g) : GE X e g := let ⟨_, p, r⟩ := h.ex; ⟨_, p, r.e⟩
theorem n_lc (own : List (Str × Nat)) (hN : X.N.Nodup) (hi : GI X tg iter gi) (ok : BlkOk X.N X.env.scope scope own) (hg : InBlk X scope fun Y => GG Y tgt tg gg) (ht : InBlk X scope fun Y => GTs Y ifs gt) (he : InBlk X scope fun Y => GE Y elt ge)
    (hv : ∀ i ∈ tgt, i ∈ own.map (·.2) := by decide) (hc : X.calm = true := by rfl) (hs : ∀ x, foldedSetIterable iter X.env x = pure x := by intro _; rfl) : GN X (.ListComp elt [⟨tg, iter, ifs, 0⟩] scope pos) (gLc gi gg gt ge (own.map (·.2))) :=
  ⟨_, pe_lc hc hN hi.pi ok (fun s H C cl fp => pg_fr (hg s H C cl fp).pg) (fun s H C cl fp => pts_fr (ht s H C cl fp).pts) (fun s H C cl fp => pe_fr (he s H C cl fp).pe) hs, rd_lc rd_iof rd_gof rd_tof rd_of hv⟩
end
end Fu

set_option maxHeartbeats 4000000
namespace Fu
open PySem PySem.Spec PyProof.Rows L2 RZ

section
variable {K : PySem.W.Frag}
end
/-! ### two clauses -/
section
variable {K : PySem.W.Frag}
end
section
variable {X : Cx} {pos : Pos} {elt tg iter tg1 iter1 : Expr} {ifs ifs1 : List Expr} {scope : Scope} {gi gi1 : M (List D)} {gg gg1 : D → Sx → Option Sx} {gt gt1 : M Bool} {ge : M D} {tgt tgt1 : List Nat}
end
end Fu

set_option maxHeartbeats 4000000
namespace Fu
open PySem PySem.Spec PyProof.Rows L2 RZ

/-! ### statements -/
inductive Out where
  | nx (S : Sx)
  | rt (d : D) (S : Sx)
  | bk (S : Sx)
  | ct (S : Sx)
  | ro (j : Nat) (S : Sx)
/-- what a statement's end hands on; B: what stands for good, A0: the cells that were there -/
def OutP (K : PySem.W.Frag) (B : Hp) (A0 : List Addr) (o : Out) (E : Ends) : Prop := match o with
  | .nx S' => ∀ A F H σ, Same B F → A0 <+: A → Ok K A F H S' σ → E.nx σ H
  | .rt d S' => ∀ A F H σ v, Same B F → A0 <+: A → Ok K A F H S' σ → Rp K F v d → E.rt v H
  | .bk S' => ∀ A F H σ, Same B F → A0 <+: A → Ok K A F H S' σ → E.bk σ H
  | .ct S' => ∀ A F H σ, Same B F → A0 <+: A → Ok K A F H S' σ → E.ct σ H
  | .ro j S' => ∀ A F H σ a, Same B F → A0 <+: A → Ok K A F H S' σ → A[j]? = some a → E.rt (.ref a) H
def RdS (K : PySem.W.Frag) (P : Hp → Prop) (t : TS) (g : Sx → Option Out) : Prop := ∀ B A0 A F H S σ o (E : Ends), P B → Same B F → A0 <+: A → Ok K A F H S σ → g S = some o → OutP K B A0 o E → t E σ H
structure GS (X : Cx) (P : Hp → Prop) (st : Stmt) (g : Sx → Option Out) : Prop where
  ex : ∃ t, PS X st t ∧ RdS X.K P t g
structure GSs (X : Cx) (P : Hp → Prop) (st : List Stmt) (g : Sx → Option Out) : Prop where
  ex : ∃ t, PSs X st t ∧ RdS X.K P t g
def qNx : Sx → Option Out := fun S => some (.nx S)
def qSeq (g h : Sx → Option Out) : Sx → Option Out := fun S => (g S).bind fun o => match o with
  | .nx S1 => h S1
  | o => some o
def qDrop (g : M D) : Sx → Option Out := fun S => (g S).bind fun p => some (.nx p.2)
def qRet (g : M D) : Sx → Option Out := fun S => (g S).bind fun p => some (.rt p.1 p.2)
def qRetN : Sx → Option Out := fun S => some (.rt .none S)
def qIf (t : M Bool) (g h : Sx → Option Out) : Sx → Option Out := fun S => (t S).bind fun p => if p.1 = true then g p.2 else h p.2
def qSet (i : Nat) (g : M D) : Sx → Option Out := fun S => (g S).bind fun p => some (.nx ⟨p.2.sl.set i (some (.dat p.1)), p.2.os⟩)
def qAsg (gg : D → Sx → Option Sx) (g : M D) : Sx → Option Out := fun S => (g S).bind fun p => (gg p.1 p.2).bind fun S1 => some (.nx S1)
/-- a new list of one's own -/
def qOwn (i : Nat) (g : M D) : Sx → Option Out := fun S => (g S).bind fun p => match p.1 with
  | .list ds => some (.nx ⟨p.2.sl.set i (some (.own p.2.os.length)), p.2.os ++ [some (.lst ds)]⟩)
  | _ => none
section
variable {X : Cx} {P : Hp → Prop} {st : Stmt} {sts : List Stmt} {g h : Sx → Option Out} {e : Expr} {ge : M D} {pos : Pos}
theorem ss_nil : GSs X P [] qNx := ⟨_, pss_nil, fun B A0 A F H S σ o E hP s p k e post => by cases e; exact post A F H σ s p k⟩
theorem rd_seq {K : PySem.W.Frag} {t u : TS} (hg : RdS K P t g) (hh : RdS K P u h) : RdS K P (tSeq t u) (qSeq g h) := by
  intro B A0 A F H S σ o E hP s p k e post
  obtain ⟨o1, e1, e⟩ := bind_inv e
  refine hg B A0 A F H S σ o1 _ hP s p k e1 ?_
  cases o1 with
  | nx S1 => exact fun A1 F1 H1 σ1 s1 p1 k1 => hh B A0 A1 F1 H1 S1 σ1 o E hP s1 p1 k1 e post
  | rt d S1 => cases e; exact post
  | bk S1 => cases e; exact post
  | ct S1 => cases e; exact post
  | ro j S1 => cases e; exact post
theorem ss_cons (h1 : GS X P st g) (h2 : GSs X P sts h) : GSs X P (st :: sts) (qSeq g h) :=
  let ⟨_, p1, r1⟩ := h1.ex; let ⟨_, p2, r2⟩ := h2.ex; ⟨_, pss_cons p1 p2, rd_seq r1 r2⟩
theorem ss_one (h1 : GS X P st g) : GSs X P [st] g := let ⟨_, p1, r1⟩ := h1.ex; ⟨_, pss_one p1, r1⟩
theorem s_expr (he : GE X e ge) (hs : swapsWith e none pos.line X.env = pure false := by rfl) : GS X P (.Expr e pos) (qDrop ge) := by
  obtain ⟨t, p1, r1⟩ := he.ex
  refine ⟨_, ps_expr p1 hs, fun B A0 A F H S σ o E hP s p k e post => ?_⟩
  obtain ⟨⟨d, S1⟩, e1, e⟩ := bind_inv e
  cases e
  exact r1 A F H S σ d S1 _ k e1 fun A1 F1 H1 v p1 s1 k1 _ => post A1 F1 H1 σ (s.trans s1) (p.trans p1) k1
theorem s_ret (he : GE X e ge) : GS X P (.Return (some e) pos) (qRet ge) := by
  obtain ⟨t, p1, r1⟩ := he.ex
  refine ⟨_, ps_ret p1, fun B A0 A F H S σ o E hP s p k e post => ?_⟩
  obtain ⟨⟨d, S1⟩, e1, e⟩ := bind_inv e
  cases e
  exact r1 A F H S σ d S1 _ k e1 fun A1 F1 H1 v p1 s1 k1 rv => post A1 F1 H1 σ v (s.trans s1) (p.trans p1) k1 rv
theorem s_if {c : Expr} {a b : List Stmt} {gt : M Bool} (hc : GT X c gt) (ha : GSs X P a g) (hb : GSs X P b h) : GS X P (.If c a b pos) (qIf gt g h) := by
  obtain ⟨t, pc, rc⟩ := hc.ex
  obtain ⟨_, pa, ra⟩ := ha.ex
  obtain ⟨_, pb, rb⟩ := hb.ex
  refine ⟨_, ps_if pc pa pb, fun B A0 A F H S σ o E hP s p k e post => ?_⟩
  obtain ⟨⟨x, S1⟩, e1, e⟩ := bind_inv e
  refine rc A F H S σ x S1 _ k e1 fun A1 F1 H1 p1 s1 k1 => ?_
  cases x with
  | true => exact ra B A0 A1 F1 H1 S1 σ o E hP (s.trans s1) (p.trans p1) k1 e post
  | false => exact rb B A0 A1 F1 H1 S1 σ o E hP (s.trans s1) (p.trans p1) k1 e post
theorem rd_asgN {K : PySem.W.Frag} {t : TE} (i : Nat) (r : RdE K t ge) : RdS K P (tAsg t (gName i)) (qSet i ge) := by
  intro B A0 A F H S σ o E hP s p k e post
  obtain ⟨⟨d, S1⟩, e1, e⟩ := bind_inv e
  cases e
  exact r A F H S σ d S1 _ k e1 fun A1 F1 H1 v p1 s1 k1 rv => post A1 F1 H1 _ (s.trans s1) (p.trans p1) (k1.setDat rv)
theorem s_set {x : Str} {pos' : Pos} (i : Nat) (hN : X.N.Nodup) (he : GE X e ge) (hx : Loc X.env.scope x := by first | exact Or.inl rfl | exact Or.inr rfl) (hi : X.N[i]? = some x := by rfl) (hs : swapsWith e (some (.Name x pos')) pos.line X.env = pure false := by rfl)
    (hf : X.fn x = true ∨ X.env.scope.names.lookup x = some .local := by first | exact .inl rfl | exact .inr rfl | assumption) : GS X P (.Assign [.Name x pos'] e pos) (qSet i ge) :=
  let ⟨_, p1, r1⟩ := he.ex; ⟨_, ps_set hN hi hx p1 hs hf, rd_asgN i r1⟩
theorem s_asg {tg : Expr} {tgt : List Nat} {gg : D → Sx → Option Sx} (hg : GG X tgt tg gg) (he : GE X e ge) (hs : swapsWithSole [tg] e pos.line X.env = pure false := by rfl) (hw : swappedStores [tg] e X.env = pure none := by rfl)
    (h1 : (assignEach [tg] X.env).map (·.2) = [assign tg X.env] := by rfl) : GS X P (.Assign [tg] e pos) (qAsg gg ge) := by
  obtain ⟨t, pa, ra⟩ := he.ex
  obtain ⟨u, pb, rb⟩ := hg.ex
  refine ⟨_, ps_asg pa pb hs hw h1, fun B A0 A F H S σ o E hP s p k e post => ?_⟩
  obtain ⟨⟨d, S1⟩, e1, e⟩ := bind_inv e
  obtain ⟨S2, e2, e⟩ := bind_inv e
  cases e
  exact ra A F H S σ d S1 _ k e1 fun A1 F1 H1 v p1 s1 k1 rv => rb A1 F1 H1 S1 σ v d S2 _ k1 rv e2 fun A2 F2 H2 σ2 p2 s2 k2 _ => post A2 F2 H2 σ2 (s.trans (s1.trans s2)) (p.trans (p1.trans p2)) k2
/-- a, b = x, y -/
def qPar (i j : Nat) (g : M (List D)) : Sx → Option Out := fun S => (g S).bind fun p => match p.1 with
  | [d, e] => some (.nx ⟨(p.2.sl.set i (some (.dat d))).set j (some (.dat e)), p.2.os⟩)
  | _ => none
/-- a list that stands in the heap and is nobody's becomes a cell -/
theorem Ok.adopt {K : PySem.W.Frag} {A : List Addr} {F G : Hp} {S : Sx} {σ : L2.St} (k : Ok K A F G S σ) {p : Addr} {vs : List V} {ds : List D} (hp : G p = none) (r : Rps K F vs ds) (hz : ds.length ≤ sizeLine) :
    Ok K (A ++ [p]) F (upd G p (.lst vs)) ⟨S.sl, S.os ++ [some (.lst ds)]⟩ σ := k.cellNew hp trivial ⟨vs, upd_same, r, hz⟩
theorem rd_asgO {K : PySem.W.Frag} {t : TE} (i : Nat) (r : RdN K t ge) : RdS K P (tAsg t (gName i)) (qOwn i ge) := by
  intro B A0 A F H S σ o E hP s p k e post
  obtain ⟨⟨d, S1⟩, e1, e⟩ := bind_inv e
  refine r A F H S σ d S1 _ k e1 fun A1 F1 G1 L vs ds p1 s1 k1 hL ed rv hz => ?_
  subst ed
  cases e
  have k2 := k1.adopt hL rv hz
  exact post _ F1 _ _ (s.trans s1) (p.trans (p1.trans (List.prefix_append _ _))) (k2.setOwn (j := S1.os.length) (by rw [k1.alen]; simp))
/-- a new list goes out, nobody's yet -/
def qRetO (g : M D) : Sx → Option Out := fun S => (g S).bind fun p => match p.1 with
  | .list ds => some (.ro p.2.os.length ⟨p.2.sl, p.2.os ++ [some (.lst ds)]⟩)
  | _ => none
theorem s_retNew (he : GN X e ge) : GS X P (.Return (some e) pos) (qRetO ge) := by
  obtain ⟨t, p1, r1⟩ := he.ex
  refine ⟨_, ps_ret p1, fun B A0 A F H S σ o E hP s p k e post => ?_⟩
  obtain ⟨⟨d, S1⟩, e1, e⟩ := bind_inv e
  refine r1 A F H S σ d S1 _ k e1 fun A1 F1 G1 L vs ds p1 s1 k1 hL ed rv hz => ?_
  subst ed
  cases e
  exact post _ F1 _ σ L (s.trans s1) (p.trans (p1.trans (List.prefix_append _ _))) (k1.adopt hL rv hz) (by rw [k1.alen]; simp)
theorem s_own {x : Str} {pos' : Pos} (i : Nat) (hN : X.N.Nodup) (he : GN X e ge) (hx : Loc X.env.scope x := by first | exact Or.inl rfl | exact Or.inr rfl) (hi : X.N[i]? = some x := by rfl) (hs : swapsWith e (some (.Name x pos')) pos.line X.env = pure false := by rfl)
    (hf : X.fn x = true ∨ X.env.scope.names.lookup x = some .local := by first | exact .inl rfl | exact .inr rfl | assumption) : GS X P (.Assign [.Name x pos'] e pos) (qOwn i ge) :=
  let ⟨_, p1, r1⟩ := he.ex; ⟨_, ps_set hN hi hx p1 hs hf, rd_asgO i r1⟩
end
section
variable {X : Cx} {P : Hp → Prop} {pos spos py : Pos} {y : Str} {elt tg iter tg1 iter1 : Expr} {ifs ifs1 : List Expr} {scope : Scope} {gi gi1 : M (List D)} {gg gg1 : D → Sx → Option Sx} {gt gt1 : M Bool} {ge : M D} {tgt tgt1 : List Nat}
/-- name = [..], on one line -/
structure Lc1 (X : Cx) (i : Nat) (st : Stmt) (g : M D) : Prop where
  ex : ∃ t, PS X st (tAsg t (gName i)) ∧ RdN X.K t g
theorem lc1 (i : Nat) (own : List (Str × Nat)) (hN : X.N.Nodup) (hi : GI X tg iter gi) (ok : BlkOk X.N X.env.scope scope own) (hg : InBlk X scope fun Y => GG Y tgt tg gg) (ht : InBlk X scope fun Y => GTs Y ifs gt) (he : InBlk X scope fun Y => GE Y elt ge)
    (hy : X.N[i]? = some y := by rfl) (hyl : X.env.scope.names.lookup y = some .local := by rfl) (hv : ∀ i ∈ tgt, i ∈ own.map (·.2) := by decide) (hc : X.calm = true := by rfl) (hs : ∀ x, foldedSetIterable iter X.env x = pure x := by intro _; rfl)
    (hsw : swapsWith (.ListComp elt [⟨tg, iter, ifs, 0⟩] scope pos) (some (.Name y py)) spos.line X.env = pure true := by exact sw_true rfl rfl rfl (by decide +kernel)) :
    Lc1 X i (.Assign [.Name y py] (.ListComp elt [⟨tg, iter, ifs, 0⟩] scope pos) spos) (gLc gi gg gt ge (own.map (·.2))) :=
  ⟨_, ps_setLc hc hN hy hyl hsw hi.pi ok (fun s H C cl fp => pg_fr (hg s H C cl fp).pg) (fun s H C cl fp => pts_fr (ht s H C cl fp).pts) (fun s H C cl fp => pe_fr (he s H C cl fp).pe) hs, rd_lc rd_iof rd_gof rd_tof rd_of hv⟩
theorem s_setLc {i : Nat} {st : Stmt} (h : Lc1 X i st ge) : GS X P st (qSet i ge) := let ⟨_, p, r⟩ := h.ex; ⟨_, p, rd_asgN i r.e⟩
end

/-! ### new lists -/
section
variable {X : Cx} {pos p : Pos} {a b e : Expr} {es : List Expr} {ga gb : M D} {gs : M (List D)}
theorem n_lst (hs : GA X es gs) : GN X (.List es pos) (gLst gs) := by
  obtain ⟨u, pb, rb⟩ := hs.ex
  refine ⟨_, pe_lst pb, fun A F H S σ d S' Q k e post => ?_⟩
  obtain ⟨⟨x, S1⟩, h1, e⟩ := bind_inv e
  simp only at e
  split at e
  · rename_i hz
    cases e
    exact rb A F H S σ x _ _ k h1 fun A1 F1 H1 vs p1 s1 k1 r1 => ⟨by rw [r1.length]; exact hz, fun p hp => post A1 F1 H1 p vs x p1 s1 k1 hp rfl r1 hz⟩
  · cases e
/-- [x] * n -/
def gRep (f : D → D → Option D) (ga gb : M D) : M D := fun S => (gBin f ga gb S).bind fun p => match p.1 with
  | .list ds => some (.list ds, p.2)
  | _ => none
end
end Fu

set_option maxHeartbeats 4000000
namespace Fu
open PySem PySem.Spec PyProof.Rows L2 RZ

/-! ### lists that are written: items, length, comparisons -/
def ownOf (S : Sx) (i : Nat) : Option (Nat × List D) := match S.sl[i]? with
  | some (some (.own j)) => match S.os[j]? with
    | some (some (.lst cs)) => some (j, cs)
    | _ => none
  | _ => none
theorem own_at {K : PySem.W.Frag} {A : List Addr} {F H : Hp} {S : Sx} {σ : L2.St} {i j : Nat} {cs : List D} (k : Ok K A F H S σ) (h : ownOf S i = some (j, cs)) :
    ∃ a vs, S.sl[i]? = some (some (.own j)) ∧ S.os[j]? = some (some (.lst cs)) ∧ A[j]? = some a ∧ σ[i]? = some (some (.ref a)) ∧ F a = none ∧ H a = some (.lst vs) ∧ Rps K F vs cs ∧ cs.length ≤ sizeLine := by
  unfold ownOf at h
  split at h
  · rename_i j' ej
    split at h
    · rename_i cs' ec
      cases h
      obtain ⟨a, ha, ev⟩ := k.oslot i _ ej
      obtain ⟨a', ha', fa, vs, hv, r, hz⟩ := k.cell _ _ ec
      rw [ha] at ha'; cases ha'
      exact ⟨a, vs, ej, ec, ha, ev, fa, hv, r, hz⟩
    · cases h
  · cases h
/-- behind an expression: the cell as it stands by then -/
def cellOf (S : Sx) (j : Nat) : Option (List D) := match S.os[j]? with
  | some (some (.lst cs)) => some cs
  | _ => none
theorem cell_at {K : PySem.W.Frag} {A : List Addr} {F H : Hp} {S : Sx} {σ : L2.St} {j : Nat} {cs : List D} {a : Addr} (k : Ok K A F H S σ) (h : cellOf S j = some cs) (ha : A[j]? = some a) :
    ∃ vs, S.os[j]? = some (some (.lst cs)) ∧ F a = none ∧ H a = some (.lst vs) ∧ Rps K F vs cs ∧ cs.length ≤ sizeLine := by
  unfold cellOf at h
  split at h
  · rename_i cs' ec
    cases h
    obtain ⟨a', ha', fa, vs, hv, r, hz⟩ := k.cell _ _ ec
    rw [ha] at ha'; cases ha'
    exact ⟨vs, ec, fa, hv, r, hz⟩
  · cases h
section
variable {X : Cx} {P : Hp → Prop} {pos py p p2 apos : Pos} {y : Str} {b e : Expr} {es : List Expr} {gb ge : M D} {gs : M (List D)}
def gIxO (i : Nat) (gb : M D) : M D := fun S => (ownOf S i).bind fun o => (gb S).bind fun p => match p.1 with
  | .int n => (cellOf p.2 o.1).bind fun cs => (atI cs n).bind fun d => some (d, p.2)
  | _ => none
theorem e_ixO (i : Nat) (hb : GE X b gb) (hN : X.N[i]? = some y := by rfl) (hv : Vis X.env.scope y := by first | exact Or.inl rfl | exact Or.inr (Or.inl rfl) | exact Or.inr (Or.inr rfl)) (hs : PlainIx b := by exact fun _ _ => rfl) (hdy : (y == ("__debug__" : Str)) = false := by decide) (hcd : (y == ("__classdict__" : Str)) = false := by decide) :
    GE X (.Subscript (.Name y py) b pos) (gIxO i gb) := by
  obtain ⟨u, pb, rb⟩ := hb.ex
  refine ⟨_, pe_ix ix_list (pe_var hN hv hdy hcd) pb hs, fun A F H S σ d S' Q k h post => ?_⟩
  obtain ⟨⟨j, cs0⟩, e0, h⟩ := bind_inv h
  obtain ⟨⟨x, S1⟩, e1, h⟩ := bind_inv h
  obtain ⟨a, vs0, _, _, ha, ev, _⟩ := own_at k e0
  refine ⟨_, ev, rb A F H S σ x S1 _ k e1 fun A1 F1 H1 v p1 s1 k1 r1 => ?_⟩
  cases x <;> simp only at h <;> try cases h
  rename_i n
  obtain ⟨cs, e2, h⟩ := bind_inv h
  obtain ⟨d', e3, h⟩ := bind_inv h
  cases h
  obtain ⟨vs, _, _, hv', r, _⟩ := cell_at k1 e2 (prefix_at p1 ha)
  cases rp_int_inv r1
  obtain ⟨w, ew, rw'⟩ := rps_atI r e3
  exact ⟨a, vs, _, w, rfl, rfl, SqL.of hv', ew, post A1 F1 H1 w p1 s1 k1 rw'⟩
def gLenO (i : Nat) : M D := fun S => (ownOf S i).bind fun o => some (.int o.2.length, S)
theorem e_lenO (i : Nat) (hm : X.mg "len" = none) (hN : X.N[i]? = some y := by rfl) (hv : Vis X.env.scope y := by first | exact Or.inl rfl | exact Or.inr (Or.inl rfl) | exact Or.inr (Or.inr rfl)) (hdy : (y == ("__debug__" : Str)) = false := by decide) (hcd : (y == ("__classdict__" : Str)) = false := by decide)
    (hg : Gl X "len" := by rfl) (he : starEach [.Name y py] X.env = (false, eval (.Name y py) X.env) :: starEach [] X.env := by rfl) : GE X (.Call (.Name "len" p) [.Name y py] [] pos) (gLenO i) := by
  refine ⟨_, pe_callB call_len hg hm PySem.boot_len (pa_cons (pe_var hN hv hdy hcd) pa_nil he) (by decide) (by decide) he (by rfl), fun A F H S σ d S' Q k h post => ?_⟩
  obtain ⟨⟨j, cs⟩, e0, h⟩ := bind_inv h
  cases h
  obtain ⟨a, vs, _, _, ha, ev, _, hv', r, _⟩ := own_at k e0
  exact ⟨_, ev, _, _, rfl, .inl ⟨vs, SqL.of hv', r.length.symm⟩, post A F H _ (List.prefix_refl _) (Same.refl F) k (.int _)⟩
/-- own on the left, own on the right -/
def gOL (f : D → D → Option D) (i : Nat) (gb : M D) : M D := fun S => (ownOf S i).bind fun o => (gb S).bind fun p => (cellOf p.2 o.1).bind fun cs => match f (.list cs) p.1 with
  | some (.bool b) => some (.bool b, p.2)
  | _ => none
def gOR (f : D → D → Option D) (gb : M D) (i : Nat) : M D := fun S => (gb S).bind fun p => (ownOf p.2 i).bind fun o => match f p.1 (.list o.2) with
  | some (.bool b) => some (.bool b, p.2)
  | _ => none
/-! ### lists that are written: append, extend, pop, xs[k] = v -/
def setCell (S : Sx) (j : Nat) (cs : List D) : Sx := ⟨S.sl, S.os.set j (some (.lst cs))⟩
/-- xs.append(e), its value None -/
def gApp (i : Nat) (ge : M D) : M D := fun S => (ownOf S i).bind fun o => (ge S).bind fun p => (cellOf p.2 o.1).bind fun cs => if cs.length < sizeLine then some (.none, setCell p.2 o.1 (cs ++ [p.1])) else none
theorem e_append (i : Nat) (he : GE X e ge) (hN : X.N[i]? = some y := by rfl) (hv : Vis X.env.scope y := by first | exact Or.inl rfl | exact Or.inr (Or.inl rfl) | exact Or.inr (Or.inr rfl)) (hdy : (y == ("__debug__" : Str)) = false := by decide) (hcd : (y == ("__classdict__" : Str)) = false := by decide)
    (hbase : attributeBase (.Name y py) "append" X.env (eval (.Name y py) X.env) = eval (.Name y py) X.env := by rfl)
    (hfew : ((backTo pos (starEach [e] X.env)).all (fun x => !x.1) && (backToKw pos (keywordEach [] X.env)).all (fun x => x.1.isSome) && decide (([e] : List Expr).length + ([] : List Keyword).length + (if ([] : List Keyword).isEmpty then 0 else 1) < 30)) = true := by rfl)
    (hline : (apos.endLine == pos.line) = true := by rfl) (hst : starEach [e] X.env = (false, eval e X.env) :: starEach [] X.env := by rfl) : GE X (.Call (.Attribute (.Name y py) "append" apos) [e] [] pos) (gApp i ge) := by
  obtain ⟨t, pa, ra⟩ := he.ex
  refine ⟨_, pe_bm PySem.F.plainAttrs_list PySem.F.slot_list_append PySem.F.type_list_append mt_append (pe_var hN hv hdy hcd) (pa_cons pa pa_nil hst) hbase hfew hline hst (by rfl), fun A F H S σ d S' Q k h post => ?_⟩
  obtain ⟨⟨j, cs0⟩, e0, h⟩ := bind_inv h
  obtain ⟨⟨x, S1⟩, e1, h⟩ := bind_inv h
  obtain ⟨cs, e2, h⟩ := bind_inv h
  simp only at h
  split at h
  · rename_i hlt
    cases h
    obtain ⟨a, vs0, _, _, ha, ev, _, hv0, _, _⟩ := own_at k e0
    refine ⟨_, ev, .inl ⟨rfl, _, SqL.of hv0⟩, ra A F H S σ x S1 _ k e1 fun A1 F1 H1 v p1 s1 k1 r1 => ?_⟩
    obtain ⟨vs, ec, fa, hv', rr, hz⟩ := cell_at k1 e2 (prefix_at p1 ha)
    refine ⟨a, vs, v, rfl, rfl, hv', by rw [rr.length]; exact hlt, ?_⟩
    exact post A1 F1 _ _ p1 s1 (k1.cellSet ec (prefix_at p1 ha) trivial ⟨_, upd_same, rr.append (.cons r1 .nil), by rw [List.length_append]; exact hlt⟩) .non
  · cases h
def gExt (i : Nat) (ge : M D) : M D := fun S => (ownOf S i).bind fun o => (ge S).bind fun p => (cellOf p.2 o.1).bind fun cs => match p.1 with
  | .list xs => if cs.length + xs.length ≤ sizeLine then some (.none, setCell p.2 o.1 (cs ++ xs)) else none
  | _ => none
theorem e_extend (i : Nat) (he : GE X e ge) (hN : X.N[i]? = some y := by rfl) (hv : Vis X.env.scope y := by first | exact Or.inl rfl | exact Or.inr (Or.inl rfl) | exact Or.inr (Or.inr rfl)) (hdy : (y == ("__debug__" : Str)) = false := by decide) (hcd : (y == ("__classdict__" : Str)) = false := by decide)
    (hbase : attributeBase (.Name y py) "extend" X.env (eval (.Name y py) X.env) = eval (.Name y py) X.env := by rfl)
    (hfew : ((backTo pos (starEach [e] X.env)).all (fun x => !x.1) && (backToKw pos (keywordEach [] X.env)).all (fun x => x.1.isSome) && decide (([e] : List Expr).length + ([] : List Keyword).length + (if ([] : List Keyword).isEmpty then 0 else 1) < 30)) = true := by rfl)
    (hline : (apos.endLine == pos.line) = true := by rfl) (hst : starEach [e] X.env = (false, eval e X.env) :: starEach [] X.env := by rfl) : GE X (.Call (.Attribute (.Name y py) "extend" apos) [e] [] pos) (gExt i ge) := by
  obtain ⟨t, pa, ra⟩ := he.ex
  refine ⟨_, pe_bm PySem.F.plainAttrs_list PySem.F.slot_list_extend PySem.F.type_list_extend mt_extend (pe_var hN hv hdy hcd) (pa_cons pa pa_nil hst) hbase hfew hline hst (by rfl), fun A F H S σ d S' Q k h post => ?_⟩
  obtain ⟨⟨j, cs0⟩, e0, h⟩ := bind_inv h
  obtain ⟨⟨x, S1⟩, e1, h⟩ := bind_inv h
  obtain ⟨cs, e2, h⟩ := bind_inv h
  cases x <;> simp only at h <;> try cases h
  split at h
  · rename_i hlt
    cases h
    obtain ⟨a, vs0, _, _, ha, ev, _, hv0, _, _⟩ := own_at k e0
    refine ⟨_, ev, .inl ⟨rfl, _, SqL.of hv0⟩, ra A F H S σ _ S1 _ k e1 fun A1 F1 H1 v p1 s1 k1 r1 => ?_⟩
    obtain ⟨vs, ec, fa, hv', rr, hz⟩ := cell_at k1 e2 (prefix_at p1 ha)
    obtain ⟨b, us, rfl, g1, g2, g3⟩ := rp_list_inv r1
    refine ⟨a, b, vs, us, rfl, rfl, hv', k1.sub.same _ _ g1, by rw [rr.length, g2.length]; exact hlt, ?_⟩
    exact post A1 F1 _ _ p1 s1 (k1.cellSet ec (prefix_at p1 ha) trivial ⟨_, upd_same, rr.append g2, by rw [List.length_append]; exact hlt⟩) .non
  · cases h
def gPopAt (i : Nat) (ge : M D) : M D := fun S => (ownOf S i).bind fun o => (ge S).bind fun p => (cellOf p.2 o.1).bind fun cs => match p.1 with
  | .int n => if 0 ≤ n ∧ n < cs.length then (cs[n.toNat]?).bind fun d => some (d, setCell p.2 o.1 (cs.eraseIdx n.toNat)) else none
  | _ => none
theorem e_popAt (i : Nat) (he : GE X e ge) (hN : X.N[i]? = some y := by rfl) (hv : Vis X.env.scope y := by first | exact Or.inl rfl | exact Or.inr (Or.inl rfl) | exact Or.inr (Or.inr rfl)) (hdy : (y == ("__debug__" : Str)) = false := by decide) (hcd : (y == ("__classdict__" : Str)) = false := by decide)
    (hbase : attributeBase (.Name y py) "pop" X.env (eval (.Name y py) X.env) = eval (.Name y py) X.env := by rfl)
    (hfew : ((backTo pos (starEach [e] X.env)).all (fun x => !x.1) && (backToKw pos (keywordEach [] X.env)).all (fun x => x.1.isSome) && decide (([e] : List Expr).length + ([] : List Keyword).length + (if ([] : List Keyword).isEmpty then 0 else 1) < 30)) = true := by rfl)
    (hline : (apos.endLine == pos.line) = true := by rfl) (hst : starEach [e] X.env = (false, eval e X.env) :: starEach [] X.env := by rfl) : GE X (.Call (.Attribute (.Name y py) "pop" apos) [e] [] pos) (gPopAt i ge) := by
  obtain ⟨t, pa, ra⟩ := he.ex
  refine ⟨_, pe_bm PySem.F.plainAttrs_list PySem.F.slot_list_pop PySem.F.type_list_pop mt_popAt (pe_var hN hv hdy hcd) (pa_cons pa pa_nil hst) hbase hfew hline hst (by rfl), fun A F H S σ d S' Q k h post => ?_⟩
  obtain ⟨⟨j, cs0⟩, e0, h⟩ := bind_inv h
  obtain ⟨⟨x, S1⟩, e1, h⟩ := bind_inv h
  obtain ⟨cs, e2, h⟩ := bind_inv h
  cases x with
  | int n =>
    simp only at h
    split at h
    · rename_i hn
      obtain ⟨d', e3, h⟩ := bind_inv h
      cases h
      obtain ⟨a, vs0, _, _, ha, ev, _, hv0, _, _⟩ := own_at k e0
      refine ⟨_, ev, .inl ⟨rfl, _, SqL.of hv0⟩, ra A F H S σ _ S1 _ k e1 fun A1 F1 H1 v p1 s1 k1 r1 => ?_⟩
      obtain ⟨vs, ec, fa, hv', rr, hz⟩ := cell_at k1 e2 (prefix_at p1 ha)
      cases rp_int_inv r1
      obtain ⟨w, ew, rw'⟩ := rr.get e3
      have hl := line_int
      refine ⟨a, vs, n, n.toNat, w, rfl, rfl, hv', by omega, by omega, seqIndex_of hn.1 (by rw [rr.length]; exact hn.2), ew, ?_⟩
      refine post A1 F1 _ w p1 s1 (k1.cellSet ec (prefix_at p1 ha) trivial ⟨_, upd_same, rr.erase _, ?_⟩) rw'
      have := len_erase cs n.toNat
      omega
    · cases h
  | _ => cases h
/-- xs[k] = v -/
def qSetO (i : Nat) (gb ge : M D) : Sx → Option Out := fun S => (ge S).bind fun p => (ownOf p.2 i).bind fun o => (gb p.2).bind fun q => match q.1 with
  | .int n => (cellOf q.2 o.1).bind fun cs => (ixN cs.length n).bind fun m => some (.nx (setCell q.2 o.1 (cs.set m p.1)))
  | _ => none
theorem s_setO {spos : Pos} (i : Nat) (hb : GE X b gb) (he : GE X e ge) (hN : X.N[i]? = some y := by rfl) (hv : Vis X.env.scope y := by first | exact Or.inl rfl | exact Or.inr (Or.inl rfl) | exact Or.inr (Or.inr rfl)) (hdy : (y == ("__debug__" : Str)) = false := by decide) (hcd : (y == ("__classdict__" : Str)) = false := by decide)
    (ha : ∀ v, assign (.Subscript (.Name y py) b pos) X.env v = (do
      let ov ← holding [v] (eval (.Name y py) X.env)
      let iv ← holding [v, ov] (eval b X.env)
      standAt pos
      holding [v, ov, iv] (setItem ov iv v)
      release [v, ov, iv] []) := by intro _; rfl)
    (hs : swapsWithSole [.Subscript (.Name y py) b pos] e spos.line X.env = pure false := by rfl) (hw : swappedStores [.Subscript (.Name y py) b pos] e X.env = pure none := by rfl)
    (h1 : (assignEach [.Subscript (.Name y py) b pos] X.env).map (·.2) = [assign (.Subscript (.Name y py) b pos) X.env] := by rfl) : GS X P (.Assign [.Subscript (.Name y py) b pos] e spos) (qSetO i gb ge) := by
  obtain ⟨t, pe, re⟩ := he.ex
  obtain ⟨u, pb, rb⟩ := hb.ex
  refine ⟨_, ps_asg pe (pg_sub (pe_var hN hv hdy hcd) pb set_list ha) hs hw h1, fun B A0 A F H S σ o E hP s p k h post => ?_⟩
  obtain ⟨⟨d, S1⟩, e1, h⟩ := bind_inv h
  obtain ⟨⟨j, cs0⟩, e0, h⟩ := bind_inv h
  obtain ⟨⟨x, S2⟩, e2, h⟩ := bind_inv h
  cases x <;> simp only at h <;> try cases h
  rename_i n
  obtain ⟨cs, e3, h⟩ := bind_inv h
  obtain ⟨m, e4, h⟩ := bind_inv h
  cases h
  refine re A F H S σ d S1 _ k e1 fun A1 F1 H1 v p1 s1 k1 r1 => ?_
  obtain ⟨a, vs0, _, _, ha', ev, _, hv0, _, _⟩ := own_at k1 e0
  refine ⟨_, ev, rb A1 F1 H1 S1 σ _ S2 _ k1 e2 fun A2 F2 H2 w p2 s2 k2 r2 => ?_⟩
  cases rp_int_inv r2
  obtain ⟨vs, ec, fa, hv', rr, hz⟩ := cell_at k2 e3 (prefix_at p2 ha')
  refine ⟨a, vs, n, m, rfl, rfl, hv', by rw [rr.length]; exact e4, ?_⟩
  exact post A2 F2 _ _ (s.trans (s1.trans s2)) (p.trans (p1.trans p2)) (k2.cellSet ec (prefix_at p2 ha') trivial ⟨_, upd_same, Rps.set _ (r1.mono s2 _ _) rr, by rw [List.length_set]; exact hz⟩)

/-! ### x += e of numbers -/
end

/-! ### loops -/
def gLoop (gg : D → Sx → Option Sx) (body : Sx → Option Out) : List D → Sx → Option Out
  | [], S => some (.nx S)
  | d :: ds, S => (gg d S).bind fun S1 => (body S1).bind fun o => match o with
    | .nx S2 => gLoop gg body ds S2
    | .ct S2 => gLoop gg body ds S2
    | .bk S2 => some (.nx S2)
    | .rt d S2 => some (.rt d S2)
    | .ro j S2 => some (.ro j S2)
def qFor (gi : M (List D)) (gg : D → Sx → Option Sx) (body : Sx → Option Out) : Sx → Option Out := fun S => (gi S).bind fun p => gLoop gg body p.1 p.2
section
variable {K : PySem.W.Frag} {P : Hp → Prop}
/-- the loop, its walk over a heap W that B holds -/
theorem rd_loop {g : TG} {tb : TS} {gg : D → Sx → Option Sx} {body : Sx → Option Out} {tgt : List Nat} (hg : RdG K tgt g gg) (hb : RdS K P tb body) {B W : Hp} {A0 : List Addr} {J : It} {ds : List D} {E : Ends} {o : Out} (hP : P B) (w : Walk K W J ds) (hW : Same W B)
    (post : OutP K B A0 o E) {A : List Addr} {F H : Hp} {S : Sx} {σ : L2.St} (s : Same B F) (p : A0 <+: A) (k : Ok K A F H S σ) (e : gLoop gg body ds S = some o) :
    ∃ Wi : Nat → Nat → L2.St → Hp → Prop, (∃ m, Wi 0 m σ H) ∧ ∀ i m σ H, Wi i m σ H →
      (J.stop i H ∧ E.nx σ H) ∨ (J.go i H ∧ ∃ N : L2.St → Hp → Prop, (∀ σ' H', N σ' H' → ∃ m', m' < m ∧ Wi (i + 1) m' σ' H') ∧ ∀ x H', J.yld i H x H' → g x σ H' fun σ2 H2 => tb { E with nx := N, ct := N, bk := E.nx } σ2 H2) := by
  refine ⟨fun i m σ H => m = ds.length - i ∧ i ≤ ds.length ∧ ∃ A F S, Same B F ∧ A0 <+: A ∧ Ok K A F H S σ ∧ gLoop gg body (ds.drop i) S = some o, ⟨ds.length, by simp, Nat.zero_le _, A, F, S, s, p, k, by simpa using e⟩, ?_⟩
  rintro i m σ1 H1 ⟨rfl, hil, A1, F1, S1, s1, p1, k1, e1⟩
  have sWH : Same W H1 := (hW.trans s1).trans k1.sub.same
  by_cases hlt : i < ds.length
  · refine .inr ⟨w.go i _ sWH hlt, fun σ' H' => i + 1 ≤ ds.length ∧ ∃ A F S, Same B F ∧ A0 <+: A ∧ Ok K A F H' S σ' ∧ gLoop gg body (ds.drop (i + 1)) S = some o, fun σ' H' h => ⟨ds.length - (i + 1), by omega, rfl, h⟩, fun x H' hy => ?_⟩
    rw [List.drop_eq_getElem_cons hlt] at e1
    obtain ⟨S2, e2, e1⟩ := bind_inv (show (gg ds[i] S1).bind _ = _ from e1)
    obtain ⟨o2, e3, e1⟩ := bind_inv e1
    have key : ∃ F2, Same F1 F2 ∧ Ok K A1 F2 H' S1 σ1 ∧ Rp K F2 x ds[i] := by
      rcases w.yld i ds[i] _ x H' sWH (List.getElem?_eq_getElem hlt) hy with ⟨rfl, r⟩ | ⟨T, ws, es, rfl, hT, rfl, ed, r, hz2⟩
      · exact ⟨F1, Same.refl _, k1, (r.mono hW _ _).mono s1 _ _⟩
      · obtain ⟨s3, k3, r3⟩ := k1.newTup hT (Rps.mono s1 _ _ (Rps.mono hW _ _ r)) hz2
        exact ⟨_, s3, k3, by rw [ed]; exact r3⟩
    obtain ⟨F2, s2, k2, rx⟩ := key
    refine hg A1 F2 H' S1 σ1 x ds[i] S2 _ k2 rx e2 fun A3 F3 H3 σ3 p3 s3 k3 _ => ?_
    refine hb B A0 A3 F3 H3 S2 σ3 o2 _ hP (s1.trans (s2.trans s3)) (p1.trans p3) k3 e3 ?_
    cases o2 with
    | nx S4 => exact fun A4 F4 H4 σ4 s4 p4 k4 => ⟨hlt, A4, F4, S4, s4, p4, k4, e1⟩
    | ct S4 => exact fun A4 F4 H4 σ4 s4 p4 k4 => ⟨hlt, A4, F4, S4, s4, p4, k4, e1⟩
    | bk S4 => cases e1; exact post
    | rt d S4 => cases e1; exact post
    | ro j S4 => cases e1; exact post
  · have ei : i = ds.length := by omega
    subst ei
    rw [List.drop_length] at e1
    cases e1
    exact .inl ⟨w.stop _ _ sWH (Nat.le_refl _), post A1 F1 H1 σ1 s1 p1 k1⟩
end
section
variable {X : Cx} {P : Hp → Prop} {pos : Pos} {tg iter : Expr} {body : List Stmt} {gi : M (List D)} {gg : D → Sx → Option Sx} {g : Sx → Option Out} {tgt : List Nat}
theorem same_outp {K : PySem.W.Frag} {B B' : Hp} {A0 A0' : List Addr} {o : Out} {E : Ends} (s : Same B B') (p : A0 <+: A0') (h : OutP K B A0 o E) : OutP K B' A0' o E := by
  cases o with
  | nx S => exact fun A F H σ s1 p1 k => h A F H σ (s.trans s1) (p.trans p1) k
  | rt d S => exact fun A F H σ v s1 p1 k => h A F H σ v (s.trans s1) (p.trans p1) k
  | bk S => exact fun A F H σ s1 p1 k => h A F H σ (s.trans s1) (p.trans p1) k
  | ct S => exact fun A F H σ s1 p1 k => h A F H σ (s.trans s1) (p.trans p1) k
  | ro j S => exact fun A F H σ a s1 p1 k => h A F H σ a (s.trans s1) (p.trans p1) k
/-- over data that stand: the body may be judged over any base -/
theorem s_for (hp : PassesOwn (model X.prog X.w) X.A X.env X.xe) (hi : GI X tg iter gi) (hg : GG X tgt tg gg) (hb : GSs X P body g) (hPall : ∀ B, P B) (hc : X.calm = true := by rfl) (hs : ∀ x, foldedSetIterable iter X.env x = pure x := by intro _; rfl) : GS X P (.For tg iter body [] pos) (qFor gi gg g) := by
  obtain ⟨t, pi, ri⟩ := hi.ex
  obtain ⟨u, pg, rg⟩ := hg.ex
  obtain ⟨v, pb, rb⟩ := hb.ex
  refine ⟨_, ps_for hp hc pi pg pb hs, fun B A0 A F H S σ o E hP s p k e post => ?_⟩
  obtain ⟨⟨ds, S1⟩, e1, e⟩ := bind_inv e
  exact ri A F H S σ ds S1 _ k e1 fun A1 F1 H1 J p1 s1 k1 w _ => rd_loop rg rb (hPall F1) w (Same.refl F1) (same_outp (s.trans s1) p post) (Same.refl F1) (p1) k1 e
/-- over numbers -/
theorem s_for0 (hp : PassesOwn (model X.prog X.w) X.A X.env X.xe) (hi : GI0 X tg iter gi) (hg : GG X tgt tg gg) (hb : GSs X P body g) (hc : X.calm = true := by rfl) (hs : ∀ x, foldedSetIterable iter X.env x = pure x := by intro _; rfl) : GS X P (.For tg iter body [] pos) (qFor gi gg g) := by
  obtain ⟨t, pi, ri⟩ := hi.ex
  obtain ⟨u, pg, rg⟩ := hg.ex
  obtain ⟨v, pb, rb⟩ := hb.ex
  refine ⟨_, ps_for hp hc pi pg pb hs, fun B A0 A F H S σ o E hP s p k e post => ?_⟩
  obtain ⟨⟨ds, S1⟩, e1, e⟩ := bind_inv e
  exact ri A F H S σ ds S1 _ k e1 fun A1 F1 H1 J p1 s1 k1 w => rd_loop rg rb hP w (fun b o q => nomatch q) post (s.trans s1) (p.trans p1) k1 e
end
end Fu

set_option maxHeartbeats 4000000
namespace Fu
open PySem PySem.Spec PyProof.Rows L2 RZ

/-! ### defs -/
def initS (n : Nat) (ds : List D) : List (Option R) := ds.map (fun d => some (.dat d)) ++ List.replicate (n - ds.length) none
/-- a def's value by data -/
def mF (n : Nat) (g : Sx → Option Out) : List D → Option D := fun ds => (g ⟨initS n ds, []⟩).bind fun o => match o with
  | .nx _ => some .none
  | .rt d _ => some d
  | _ => none
/-- .. where the first argument is a list that it writes -/
def mIO (n : Nat) (g : Sx → Option Out) : List D → List D → Option (D × List D) := fun cs ds => (g ⟨some (.own 0) :: initS (n - 1) ds, [some (.lst cs)]⟩).bind fun o => match o with
  | .nx S => (cellOf S 0).bind fun c => some (.none, c)
  | .rt d S => (cellOf S 0).bind fun c => some (d, c)
  | _ => none
theorem initS_in {n : Nat} {ds : List D} {i : Nat} {r : R} (h : (initS n ds)[i]? = some (some r)) : ∃ d, ds[i]? = some d ∧ r = .dat d := by
  unfold initS at h
  by_cases hi : i < ds.length
  · rw [List.getElem?_append_left (by simpa using hi), List.getElem?_map] at h
    obtain ⟨d', e1, e2⟩ := Option.map_eq_some_iff.mp h
    cases e2
    exact ⟨d', e1, rfl⟩
  · rw [List.getElem?_append_right (by simp; omega)] at h
    have := List.mem_of_getElem? h
    rw [List.mem_replicate] at this
    exact nomatch this.2
theorem start_at {N : List Str} {vs : List V} {i : Nat} {v : V} (h : vs[i]? = some v) : (L2.start N vs)[i]? = some (some v) := by
  unfold L2.start
  rw [List.getElem?_append_left (by rw [List.length_map]; exact (List.getElem?_eq_some_iff.mp h).1), List.getElem?_map, h]
  rfl
theorem start_dat {K : PySem.W.Frag} {H : Hp} {N : List Str} {vs : List V} {ds : List D} (r : Rps K H vs ds) (hl : vs.length ≤ N.length) {H' : Hp} (s : Sub H H') : Ok K [] H H' ⟨initS N.length ds, []⟩ (L2.start N vs) := by
  refine ⟨s, ?_, rfl, List.nodup_nil, fun i q h => ?_, fun j c h => by simp at h, fun a h => by simp at h⟩
  · simp [initS, L2.start, r.length]
  · obtain ⟨d, e1, rfl⟩ := initS_in h
    obtain ⟨v, ev, rv⟩ := r.get e1
    exact ⟨v, start_at ev, .dat rv⟩
section
variable {P : Program} {w : World} {K : PySem.W.Frag} {mg : Str → Option Value} {base : Heap} {x qual : Str} {st : Stmt} {f : Addr} {fd : FuncData} {N ps : List Str} {k n : Nat} {g : Sx → Option Out}
abbrev AnyB : Hp → Prop := fun _ => True
/-- the context of the def's body -/
abbrev cxF (P : Program) (w : World) (K : PySem.W.Frag) (mg : Str → Option Value) (base : Heap) (N : List Str) (qual : Str) (st : Stmt) (f : Addr) (cdv : Value) (A : Around) (outer : List Env) (s : Shared) (H : Hp) (E : XK) : Cx := (cxOf CX0 P w K mg base N qual (defScope st) f cdv A outer s H E).nox
theorem fn_pure (F : Fun K x qual st f fd) (S : FnScope N ps (defScope st)) (hn : ps.length = n) (hN : n ≤ N.length)
    (body : ∀ (cdv : Value) (A : Around) (outer : List Env) (s : Shared) (H : Hp) (E : XK), Room k (A.deeper (envOfC qual (defScope st) s.heap.objs.size f cdv)) → GSs (cxF P w K mg base N qual st f cdv A outer s H E) AnyB (defBody st) g) :
    FnOk P w K mg base CX0 (k + 1) f fd ps (spF K n (mF N.length g)) := by
  refine F.ok S (spF_len hn) fun cdv A outer s H vs Q E hr h => ?_
  obtain ⟨ds, z, hd, r, e, post⟩ := h
  obtain ⟨t, p, rd⟩ := (body cdv A outer s H E hr).ex
  refine ⟨t, p, ?_⟩
  obtain ⟨o, e1, e⟩ := bind_inv e
  have hl : vs.length ≤ N.length := by rw [r.length, hd]; exact hN
  refine rd H [] [] H H _ (L2.start N vs) o _ trivial (Same.refl H) (List.prefix_refl _) (start_dat r hl (Sub.refl H)) e1 ?_
  cases o with
  | nx S => cases e; exact fun A1 F1 H1 σ1 s1 p1 k1 => post H1 .non (s1.trans k1.sub.same) .non
  | rt d S => cases e; exact fun A1 F1 H1 σ1 v s1 p1 k1 rv => post H1 v (s1.trans k1.sub.same) (rv.mono k1.sub.same _ _)
  | bk S => cases e
  | ct S => cases e
  | ro j S => cases e
theorem start_own {K : PySem.W.Frag} {F : Hp} {N : List Str} {a : Addr} {xs vs : List V} {cs ds : List D} (fa : F a = none) (rc : Rps K F xs cs) (hz : cs.length ≤ sizeLine) (r : Rps K F vs ds) (hl : vs.length + 1 ≤ N.length) :
    Ok K [a] F (upd F a (.lst xs)) ⟨some (.own 0) :: initS (N.length - 1) ds, [some (.lst cs)]⟩ (L2.start N (.ref a :: vs)) := by
  obtain ⟨m, M, rfl⟩ : ∃ m M, N = m :: M := by
    cases N with
    | nil => simp at hl
    | cons m M => exact ⟨m, M, rfl⟩
  have hl' : vs.length ≤ M.length := by simpa using hl
  have k := start_dat (N := M) r hl' (sub_one fa (o := .lst xs) trivial)
  have es : L2.start (m :: M) (.ref a :: vs) = some (.ref a) :: L2.start M vs := by
    unfold L2.start
    simp
  rw [es]
  simp only [List.length_cons, Nat.add_sub_cancel]
  refine ⟨k.sub, by simpa using k.len, rfl, by simp, fun i r h => ?_, fun j c h => ?_, fun b h => ?_⟩
  · cases i with
    | zero =>
      simp at h
      subst h
      exact ⟨_, rfl, .own rfl⟩
    | succ i =>
      obtain ⟨v, e1, r1⟩ := k.rslot i r (by simpa using h)
      exact ⟨v, by simpa using e1, r1.mono (List.nil_prefix) (Same.refl _) _ _⟩
  · cases j with
    | zero =>
      simp at h
      subst h
      exact ⟨a, rfl, fa, xs, upd_same, rc, hz⟩
    | succ j => simp at h
  · simp at h
    subst h
    exact ⟨_, upd_same⟩
theorem fn_io (F : Fun K x qual st f fd) (S : FnScope N ps (defScope st)) (hn : ps.length = n + 1) (hN : n + 1 ≤ N.length)
    (body : ∀ (cdv : Value) (A : Around) (outer : List Env) (s : Shared) (H : Hp) (E : XK), Room k (A.deeper (envOfC qual (defScope st) s.heap.objs.size f cdv)) → GSs (cxF P w K mg base N qual st f cdv A outer s H E) AnyB (defBody st) g) :
    FnOk P w K mg base CX0 (k + 1) f fd ps (spIO K n (mIO N.length g)) := by
  refine F.ok S (spIO_len hn) fun cdv A outer s H vs Q E hr h => ?_
  obtain ⟨a, xs, rest, F0, cs, ds, r, cs', rfl, fa, rfl, hz, rc, rr, hd, e, post⟩ := h
  obtain ⟨t, p, rd⟩ := (body cdv A outer s _ E hr).ex
  refine ⟨t, p, ?_⟩
  obtain ⟨o, e1, e⟩ := bind_inv e
  have hl : rest.length + 1 ≤ N.length := by rw [rr.length, hd]; exact hN
  have fin : ∀ (A1 : List Addr) (F1 H1 : Hp) (σ1 : L2.St) (S1 : Sx) (v : V) (d : D) (c : List D), Same F0 F1 → [a] <+: A1 → Ok K A1 F1 H1 S1 σ1 → Rp K F1 v d → cellOf S1 0 = some c → (d, c) = (r, cs') → Q v H1 := by
    intro A1 F1 H1 σ1 S1 v d c s1 p1 k1 rv hc ee
    cases ee
    have ha : A1[0]? = some a := prefix_at p1 rfl
    obtain ⟨us, ec, fa1, hv, rc1, hz1⟩ := cell_at k1 hc ha
    have s2 : Same F1 (fun b => if b = a then none else H1 b) := fun b o q => by
      show (if b = a then none else H1 b) = some o
      rw [if_neg (ne_of_none q fa1)]
      exact k1.sub.same b o q
    have := post (fun b => if b = a then none else H1 b) us v (s1.trans s2) (if_pos rfl) (Rps.mono s2 _ _ rc1) hz1 (rv.mono s2 _ _)
    rwa [show upd (fun b => if b = a then none else H1 b) a (.lst us) = H1 from ?_] at this
    funext b
    by_cases hb : b = a
    · subst hb; rw [upd_same, hv]
    · rw [upd_ne hb]; exact if_neg hb
  refine rd F0 [a] [a] F0 _ _ _ o _ trivial (Same.refl F0) (List.prefix_refl _) (start_own fa rc hz rr hl) e1 ?_
  cases o with
  | nx S =>
    obtain ⟨c, hc, e⟩ := bind_inv e
    exact fun A1 F1 H1 σ1 s1 p1 k1 => fin A1 F1 H1 σ1 S .non .none c s1 p1 k1 .non hc (by cases e; rfl)
  | rt d S =>
    obtain ⟨c, hc, e⟩ := bind_inv e
    exact fun A1 F1 H1 σ1 v s1 p1 k1 rv => fin A1 F1 H1 σ1 S v d c s1 p1 k1 rv hc (by cases e; rfl)
  | bk S => cases e
  | ct S => cases e
  | ro j S => cases e
end
theorem hu65 {A : Around} {k : Nat} (hr : Room k A) : A.units + 65 < cLine := by have := hr.un; omega


/-! ### defs that hand back a new list -/
/-- the heap without the list at a -/
def lessH (H : Hp) (a : Addr) : Hp := fun b => if b = a then none else H b
theorem less_upd {H : Hp} {a : Addr} {o : HO} (h : H a = some o) : upd (lessH H a) a o = H := by
  funext b
  by_cases hb : b = a
  · subst hb; rw [upd_same, h]
  · rw [upd_ne hb]; exact if_neg hb
theorem less_same {K : PySem.W.Frag} {A : List Addr} {F H : Hp} {S : Sx} {σ : L2.St} (k : Ok K A F H S σ) {a : Addr} (fa : F a = none) : Same F (lessH H a) := fun b o q => by
  show (if b = a then none else H b) = some o
  rw [if_neg (ne_of_none q fa)]
  exact k.sub.same b o q
section
variable {P : Program} {w : World} {K : PySem.W.Frag} {mg : Str → Option Value} {base : Heap} {x qual : Str} {st : Stmt} {f : Addr} {fd : FuncData} {N ps : List Str} {k n : Nat} {g : Sx → Option Out}
end
/-! ### the script -/
section
variable {X : Cx} {pos p p2 py : Pos} {y : Str} {lo hi : Option Expr} {gl gh : M (Option Int)}
def scrOf (S : Sx) (i : Nat) : Option (List Int) := match S.sl[i]? with
  | some (some (.scr ns)) => some ns
  | _ => none
theorem scr_at {K : PySem.W.Frag} {A : List Addr} {F H : Hp} {S : Sx} {σ : L2.St} {i : Nat} {ns : List Int} (k : Ok K A F H S σ) (h : scrOf S i = some ns) : ns.length ≤ 63 ∧ ∃ a, σ[i]? = some (some (.ref a)) ∧ SqL K F a (ns.map V.int) := by
  unfold scrOf at h
  split at h
  · rename_i ns' e
    cases h
    exact k.sslot i _ e
  · cases h
def gScrSl (i : Nat) (gl gh : M (Option Int)) : M D := fun S => (scrOf S i).bind fun ns => (gl S).bind fun q => (gh q.2).bind fun r => some (.list ((cutL ns q.1 r.1).map .int), r.2)
theorem cut_map {α β : Type} (f : α → β) (xs : List α) (lo hi : Option Int) : cutL (xs.map f) lo hi = (cutL xs lo hi).map f := by
  unfold cutL
  rw [List.length_map, List.map_take, List.map_drop]
theorem e_scrSl (i : Nat) (hl : GO X lo gl) (hh : GO X hi gh) (hN : X.N[i]? = some y := by rfl) (hv : Vis X.env.scope y := by first | exact Or.inl rfl | exact Or.inr (Or.inl rfl) | exact Or.inr (Or.inr rfl)) (hdy : (y == ("__debug__" : Str)) = false := by decide) (hcd : (y == ("__classdict__" : Str)) = false := by decide) :
    GE X (.Subscript (.Name y py) (.Slice lo hi none p2) pos) (gScrSl i gl gh) := by
  obtain ⟨_, pl, rl⟩ := hl.ex
  obtain ⟨_, ph, rh⟩ := hh.ex
  refine ⟨_, pe_slice sl_list (pe_var hN hv hdy hcd) pl ph, fun A F H S σ d S' Q k e post => ?_⟩
  obtain ⟨ns, e0, e⟩ := bind_inv e
  obtain ⟨⟨l, S2⟩, h2, e⟩ := bind_inv e
  obtain ⟨⟨u, S3⟩, h3, e⟩ := bind_inv e
  cases e
  obtain ⟨hz, a, ev, hs⟩ := scr_at k e0
  refine ⟨_, ev, rl A F H S σ l _ _ k h2 fun A2 F2 H2 p2 s2 k2 => rh A2 F2 H2 _ σ u _ _ k2 h3 fun A3 F3 H3 p3 s3 k3 => ⟨a, _, rfl, k3.sub.same.seq (s3.seq (s2.seq hs)), fun p hp => ?_⟩⟩
  have e2 : cutV (ns.map V.int) l u = (cutL ns l u).map V.int := cut_map V.int ns l u
  rw [e2]
  obtain ⟨s4, k4, r4⟩ := k3.newList hp (Rps.ints (cutL ns l u)) (by
    rw [List.length_map]
    have h1 := cutL_le ns l u
    have h2 : (63 : Nat) ≤ sizeLine := by decide
    omega)
  exact post A3 _ _ _ (p2.trans p3) (s2.trans (s3.trans s4)) k4 r4
def gScrLen (i : Nat) : M D := fun S => (scrOf S i).bind fun ns => some (.int ns.length, S)
theorem e_scrLen (i : Nat) (hm : X.mg "len" = none) (hN : X.N[i]? = some y := by rfl) (hv : Vis X.env.scope y := by first | exact Or.inl rfl | exact Or.inr (Or.inl rfl) | exact Or.inr (Or.inr rfl)) (hdy : (y == ("__debug__" : Str)) = false := by decide) (hcd : (y == ("__classdict__" : Str)) = false := by decide)
    (hg : Gl X "len" := by rfl) (he : starEach [.Name y py] X.env = (false, eval (.Name y py) X.env) :: starEach [] X.env := by rfl) : GE X (.Call (.Name "len" p) [.Name y py] [] pos) (gScrLen i) := by
  refine ⟨_, pe_callB call_len hg hm PySem.boot_len (pa_cons (pe_var hN hv hdy hcd) pa_nil he) (by decide) (by decide) he (by rfl), fun A F H S σ d S' Q k h post => ?_⟩
  obtain ⟨ns, e0, h⟩ := bind_inv h
  cases h
  obtain ⟨hz, a, ev, hs⟩ := scr_at k e0
  exact ⟨_, ev, _, _, rfl, .inl ⟨_, k.sub.same.seq hs, (List.length_map _).symm⟩, post A F H _ (List.prefix_refl _) (Same.refl F) k (.int _)⟩
end
/-- a def of the script that hands back a new list -/
def spScrN (K : PySem.W.Frag) (f : List Int → Option (List D)) : Sp := fun vs H Q _ => ∃ a ns zs, vs = [.ref a] ∧ SqL K H a (ns.map V.int) ∧ ns.length ≤ 63 ∧ f ns = some zs ∧
  ∀ F p us, Same H F → F p = none → Rps K F us zs → zs.length ≤ sizeLine → Q (.ref p) (upd F p (.lst us))
def mScrN (n : Nat) (g : Sx → Option Out) : List Int → Option (List D) := fun ns => (g ⟨some (.scr ns) :: List.replicate (n - 1) none, []⟩).bind fun o => match o with
  | .ro j S => cellOf S j
  | _ => none
/-- the law: True -/
def mScr (n : Nat) (g : Sx → Option Out) : List Int → Option D := fun ns => (g ⟨some (.scr ns) :: List.replicate (n - 1) none, []⟩).bind fun o => match o with
  | .rt d _ => some d
  | _ => none
/-- nothing that is written stands there -/
def NoLst (B : Hp) : Prop := ∀ b xs, B b ≠ some (.lst xs)
def spLaw (K : PySem.W.Frag) (f : List Int → Option D) : Sp := fun vs H Q _ => ∃ a ns, vs = [.ref a] ∧ SqL K H a (ns.map V.int) ∧ ns.length ≤ 63 ∧ NoLst H ∧ f ns = some (.bool true) ∧ ∀ H', Q (.bl true) H'
theorem start_scr {K : PySem.W.Frag} {H : Hp} {N : List Str} {a : Addr} {ns : List Int} (h : SqL K H a (ns.map V.int)) (hz : ns.length ≤ 63) (hN : 1 ≤ N.length) : Ok K [] H H ⟨some (.scr ns) :: List.replicate (N.length - 1) none, []⟩ (L2.start N [.ref a]) := by
  refine ⟨Sub.refl H, ?_, rfl, List.nodup_nil, fun i r e => ?_, fun j c e => by simp at e, fun b e => by simp at e⟩
  · simp [L2.start]
  · cases i with
    | zero =>
      simp at e
      subst e
      exact ⟨_, rfl, .scr hz h⟩
    | succ i =>
      have := List.mem_of_getElem? (show (List.replicate (N.length - 1) (none : Option R))[i]? = some (some r) by simpa using e)
      rw [List.mem_replicate] at this
      exact nomatch this.2
section
variable {P : Program} {w : World} {K : PySem.W.Frag} {mg : Str → Option Value} {base : Heap} {x qual : Str} {st : Stmt} {f : Addr} {fd : FuncData} {N ps : List Str} {k n : Nat} {g : Sx → Option Out}
theorem fn_scrN (F : Fun K x qual st f fd) (S : FnScope N ps (defScope st)) (hn : ps.length = 1) (hN : 1 ≤ N.length)
    (body : ∀ (cdv : Value) (A : Around) (outer : List Env) (s : Shared) (H : Hp) (E : XK), Room k (A.deeper (envOfC qual (defScope st) s.heap.objs.size f cdv)) → GSs (cxF P w K mg base N qual st f cdv A outer s H E) AnyB (defBody st) g) :
    FnOk P w K mg base CX0 (k + 1) f fd ps (spScrN K (mScrN N.length g)) := by
  refine F.ok S (fun vs H Q E h => by obtain ⟨a, ns, zs, rfl, _⟩ := h; exact hn.symm) fun cdv A outer s H vs Q E hr h => ?_
  obtain ⟨a, ns, zs, rfl, hs, hz, e, post⟩ := h
  obtain ⟨t, p, rd⟩ := (body cdv A outer s H E hr).ex
  refine ⟨t, p, ?_⟩
  obtain ⟨o, e1, e⟩ := bind_inv e
  refine rd H [] [] H H _ _ o _ trivial (Same.refl H) (List.prefix_refl _) (start_scr hs hz hN) e1 ?_
  cases o with
  | nx S => cases e
  | rt d S => cases e
  | bk S => cases e
  | ct S => cases e
  | ro j S =>
    intro A1 F1 H1 σ1 a s1 p1 k1 ha
    obtain ⟨us, ec, fa, hv, rc, hz⟩ := cell_at k1 e ha
    have := post (lessH H1 a) a us (s1.trans (less_same k1 fa)) (if_pos rfl) (Rps.mono (less_same k1 fa) _ _ rc) hz
    rwa [less_upd hv] at this
theorem fn_law {Pb : Hp → Prop} (hPb : ∀ B, NoLst B → Pb B) (F : Fun K x qual st f fd) (S : FnScope N ps (defScope st)) (hn : ps.length = 1) (hN : 1 ≤ N.length)
    (body : ∀ (cdv : Value) (A : Around) (outer : List Env) (s : Shared) (H : Hp) (E : XK), Room k (A.deeper (envOfC qual (defScope st) s.heap.objs.size f cdv)) → GSs (cxF P w K mg base N qual st f cdv A outer s H E) Pb (defBody st) g) :
    FnOk P w K mg base CX0 (k + 1) f fd ps (spLaw K (mScr N.length g)) := by
  refine F.ok S (fun vs H Q E h => by obtain ⟨a, ns, rfl, _⟩ := h; exact hn.symm) fun cdv A outer s H vs Q E hr h => ?_
  obtain ⟨a, ns, rfl, hs, hz, hB, e, post⟩ := h
  obtain ⟨t, p, rd⟩ := (body cdv A outer s H E hr).ex
  refine ⟨t, p, ?_⟩
  obtain ⟨o, e1, e⟩ := bind_inv e
  refine rd H [] [] H H _ _ o _ (hPb H hB) (Same.refl H) (List.prefix_refl _) (start_scr hs hz hN) e1 ?_
  cases o with
  | nx S => cases e
  | rt d S =>
    cases e
    intro A1 F1 H1 σ1 v s1 p1 k1 rv
    cases rv
    exact post H1
  | bk S => cases e
  | ct S => cases e
  | ro j S => cases e
end

/-! ### a def by its name -/
def Has (P : Program) (w : World) (K : PySem.W.Frag) (mg : Str → Option Value) (base : Heap) (x : Str) (k : Nat) (ps : List Str) (sp : Sp) : Prop :=
  ∃ f fd, mg x = some (.ref f) ∧ PySem.W.keepIn K (.ref f) = true ∧ L2.Binds K fd ps [] ∧ FnOk P w K mg base CX0 k f fd ps sp
def DefAt (K : PySem.W.Frag) (mg : Str → Option Value) (x : Str) (st : Stmt) (ps : List Str) : Prop := ∃ f fd, mg x = some (.ref f) ∧ Fun K x x st f fd ∧ L2.Binds K fd ps []
section
variable {P : Program} {w : World} {K : PySem.W.Frag} {mg : Str → Option Value} {base : Heap} {x : Str} {st : Stmt} {N ps : List Str} {k n : Nat} {g : Sx → Option Out}
abbrev Body (P : Program) (w : World) (K : PySem.W.Frag) (mg : Str → Option Value) (base : Heap) (N : List Str) (x : Str) (st : Stmt) (k : Nat) (Pb : Hp → Prop) (g : Sx → Option Out) : Prop :=
  ∀ (f : Addr) (cdv : Value) (A : Around) (outer : List Env) (s : Shared) (H : Hp) (E : XK), Room k (A.deeper (envOfC x (defScope st) s.heap.objs.size f cdv)) → GSs (cxF P w K mg base N x st f cdv A outer s H E) Pb (defBody st) g
theorem has_pure (D : DefAt K mg x st ps) (S : FnScope N ps (defScope st)) (hn : ps.length = n) (hN : n ≤ N.length) (body : Body P w K mg base N x st k AnyB g) : Has P w K mg base x (k + 1) ps (spF K n (mF N.length g)) :=
  let ⟨f, fd, m, F, b⟩ := D; ⟨f, fd, m, F.kp, b, fn_pure F S hn hN (body f)⟩
theorem has_io (D : DefAt K mg x st ps) (S : FnScope N ps (defScope st)) (hn : ps.length = n + 1) (hN : n + 1 ≤ N.length) (body : Body P w K mg base N x st k AnyB g) : Has P w K mg base x (k + 1) ps (spIO K n (mIO N.length g)) :=
  let ⟨f, fd, m, F, b⟩ := D; ⟨f, fd, m, F.kp, b, fn_io F S hn hN (body f)⟩
theorem has_scrN (D : DefAt K mg x st ps) (S : FnScope N ps (defScope st)) (hn : ps.length = 1) (hN : 1 ≤ N.length) (body : Body P w K mg base N x st k AnyB g) : Has P w K mg base x (k + 1) ps (spScrN K (mScrN N.length g)) :=
  let ⟨f, fd, m, F, b⟩ := D; ⟨f, fd, m, F.kp, b, fn_scrN F S hn hN (body f)⟩
end
section
variable {X : Cx} {pos p p2 py : Pos} {x y : Str} {e : Expr} {es : List Expr} {gs : M (List D)} {k n : Nat} {ps : List Str}
theorem e_callH {f : List D → Option D} (h : Has X.prog X.w X.K X.mg X.base x k ps (spF X.K n f)) (hr : Room k X.A) (ha : GA X (e :: es) gs) (hg : Gl X x := by rfl) (hdb : (x == ("__debug__" : Str)) = false := by decide)
    (he : starEach (e :: es) X.env = (false, eval e X.env) :: starEach es X.env := by rfl) (hpl : (backTo pos (starEach es X.env)).any (·.1) = false := by rfl) : GE X (.Call (.Name x p) (e :: es) [] pos) (gCallF n f gs) :=
  let ⟨fa, fd, m, kp, b, F⟩ := h; e_call F hr m kp b pass0 ha hg hdb he hpl
theorem e_callHIO {f : List D → List D → Option (D × List D)} (i : Nat) (h : Has X.prog X.w X.K X.mg X.base x k ps (spIO X.K n f)) (hr : Room k X.A) (ha : GA X es gs)
    (hN : X.N[i]? = some y := by rfl) (hv : Vis X.env.scope y := by first | exact Or.inl rfl | exact Or.inr (Or.inl rfl) | exact Or.inr (Or.inr rfl)) (hdy : (y == ("__debug__" : Str)) = false := by decide) (hcd : (y == ("__classdict__" : Str)) = false := by decide)
    (hg : Gl X x := by rfl) (hdb : (x == ("__debug__" : Str)) = false := by decide) (he : starEach (.Name y py :: es) X.env = (false, eval (.Name y py) X.env) :: starEach es X.env := by rfl) (hpl : (backTo pos (starEach es X.env)).any (·.1) = false := by rfl) :
    GE X (.Call (.Name x p) (.Name y py :: es) [] pos) (gIO i n f gs) :=
  let ⟨fa, fd, m, kp, b, F⟩ := h; e_callIO i F hr m kp b pass0 ha hN hv hdy hcd hg hdb he hpl
theorem mix_new {F1 H1 F' : Hp} {p : Addr} {o : HO} (hp : mixH F1 H1 (upd F' p o) p = some o) (hn : F' p = none) : mixH F1 H1 (upd F' p o) = upd (mixH F1 H1 F') p o := by
  funext b
  by_cases hb : b = p
  · subst hb; rw [upd_same, hp]
  · rw [upd_ne hb]
    unfold mixH
    rw [upd_ne hb]
def gCallScr (i : Nat) (f : List Int → Option (List D)) : M D := fun S => (scrOf S i).bind fun ns => (f ns).bind fun z => some (.list z, S)
theorem n_callScr {f : List Int → Option (List D)} (i : Nat) (h : Has X.prog X.w X.K X.mg X.base x k ps (spScrN X.K f)) (hr : Room k X.A)
    (hN : X.N[i]? = some y := by rfl) (hv : Vis X.env.scope y := by first | exact Or.inl rfl | exact Or.inr (Or.inl rfl) | exact Or.inr (Or.inr rfl)) (hdy : (y == ("__debug__" : Str)) = false := by decide) (hcd : (y == ("__classdict__" : Str)) = false := by decide)
    (hg : Gl X x := by rfl) (hdb : (x == ("__debug__" : Str)) = false := by decide) (he : starEach [.Name y py] X.env = (false, eval (.Name y py) X.env) :: starEach [] X.env := by rfl) : GN X (.Call (.Name x p) [.Name y py] [] pos) (gCallScr i f) := by
  obtain ⟨fa, fd, m, kp, b, F⟩ := h
  refine ⟨_, pe_callF F hr hg m kp b .nil pass0 (pa_cons (pe_var hN hv hdy hcd) pa_nil he) hdb he (by rfl), fun A F H S σ d S' Q k h post => ?_⟩
  obtain ⟨ns, h1, h⟩ := bind_inv h
  obtain ⟨z, h2, h⟩ := bind_inv h
  cases h
  obtain ⟨hz, a, ev, hs⟩ := scr_at k h1
  refine ⟨_, ev, F, k.sub, a, ns, z, by rfl, hs, hz, h2, fun F' L us sm hL ru hz => ⟨fun b xs q => by
      rw [upd_ne (ne_of_none (sm b _ q) hL)]; exact sm b _ q, fun lost => ?_⟩⟩
  have lostF : ∀ b o, H b = some o → F b = none → F' b = none := fun b o ho hf => by
    have := lost b o ho hf
    by_cases hb : b = L
    · subst hb; exact hL
    · rwa [upd_ne hb] at this
  have hLH : H L = none := by
    cases q : H L with
    | none => rfl
    | some u =>
      cases q2 : F L with
      | none => have := lost L u q q2; rw [upd_same] at this; cases this
      | some v => rw [sm L v q2] at hL; cases hL
  rw [mix_new (by rw [mix_free hLH, upd_same]) hL]
  exact post A F' _ L us z (List.prefix_refl _) sm (k.mix sm lostF) (by rw [mix_free hLH]; exact hL) rfl ru hz
theorem e_gintE {i : Int} (hm : ∃ t, X.mg x = some (.int i t)) (hg : Gl X x := by rfl) (hd : (x == ("__debug__" : Str)) = false := by decide) : GE X (.Name x pos) (gC (.int i)) := let ⟨_, m⟩ := hm; e_gint m hg hd
end
end Fu

set_option maxHeartbeats 4000000
namespace Fu
open PySem PySem.Spec PyProof.Rows L2 RZ

section
variable {K : PySem.W.Frag} {F H : Hp}
end

/-! ### sorted(xs) of data -/
def sortOk (xs : List D) : Bool := (xs.all fun d => xs.all fun e => PySem.W.alike d e) && ((xs.all fun d => match d with
  | .tuple (_ :: _) => true
  | _ => false) || (xs.all fun d => match d with
  | .none => false
  | .tuple _ => false
  | _ => true)) && xs.all fun d => d.depth ≤ 20 && d.canLay0
abbrev leD : D → D → Bool := PySem.W.dataLe false (fun d : D => d)
def dSorted : List D → Option D
  | [.list xs] => if sortOk xs = true then some (.list (xs.mergeSort leD)) else none
  | [.tuple xs] => none
  | _ => none
theorem sortOk_all {xs : List D} (h : sortOk xs = true) : PySem.W.AllAlike xs ∧ PySem.W.Sortable xs ∧ ∀ d ∈ xs, d.depth ≤ 20 ∧ d.canLay0 = true := by
  unfold sortOk at h
  rw [Bool.and_eq_true, Bool.and_eq_true, Bool.or_eq_true] at h
  obtain ⟨⟨h1, h2⟩, h3⟩ := h
  refine ⟨fun d hd e he => List.all_eq_true.mp (List.all_eq_true.mp h1 d hd) e he, ?_, fun d hd => ?_⟩
  · rcases h2 with h2 | h2
    · refine .inl fun d hd => ?_
      have := List.all_eq_true.mp h2 d hd
      split at this
      · exact ⟨_, _, rfl⟩
      · cases this
    · refine .inr fun d hd => ?_
      have := List.all_eq_true.mp h2 d hd
      refine ⟨fun e => ?_, fun ys e => ?_⟩
      · rw [e] at this; cases this
      · rw [e] at this; cases this
  · have := List.all_eq_true.mp h3 d hd
    rw [Bool.and_eq_true] at this
    exact ⟨of_decide_eq_true this.1, this.2⟩
/-- its reading: values and data side by side -/
def rSorted (K : PySem.W.Frag) : List V → Hp → VK → Prop := fun xs H Q => ∃ (a : Addr) (ps : List (V × D)), xs = [.ref a] ∧ SqL K H a (ps.map (·.1)) ∧ (∀ p ∈ ps, Dp K H p.1 p.2) ∧ sortOk (ps.map (·.2)) = true ∧ ps.length ≤ sizeLine ∧
  ∀ p, H p = none → Q (.ref p) (upd H p (.lst ((ps.mergeSort (PySem.W.dataLe false fun q : V × D => q.2)).map (·.1))))
theorem each_mk {X : Cx} {pins : List (Addr × Obj)} {σ : L2.St} {H : Hp} {s : Shared} (I : Inv X pins σ H s) : ∀ {ps : List (V × D)} {us : List Value}, Vals (ps.map (·.1)) us → (∀ p ∈ ps, Dp X.K H p.1 p.2) →
    PySem.W.EachIs (fun (v : Value) (b : V × D) => RelV b.1 v) us ps ∧ PySem.W.EachIs (fun (v : Value) (b : V × D) => ∃ as, Reads s.heap v b.2 as) us ps
  | [], us, r, _ => by cases r; exact ⟨.nil, .nil⟩
  | p :: ps, us, r, h => by
    rw [List.map_cons] at r
    cases r with
    | cons r1 r2 =>
      obtain ⟨a, b⟩ := each_mk I r2 fun q hq => h q (List.mem_cons_of_mem _ hq)
      exact ⟨.cons r1 a, .cons (Dp.reads I _ _ _ (h p List.mem_cons_self) r1) b⟩
theorem each_vals : ∀ {ps : List (V × D)} {us : List Value}, PySem.W.EachIs (fun (v : Value) (b : V × D) => RelV b.1 v) us ps → Vals (ps.map (·.1)) us
  | [], _, .nil => .nil
  | _ :: _, _, .cons r t => .cons r (each_vals t)
theorem call_sortedAll {X : Cx} {k : Nat} (hr : Room k X.A) : CallR X (.builtin "sorted") (rSorted X.K) := by
  intro pins s σ H xs us Q I r h
  obtain ⟨a, ps, rfl, hs, hd, so, hz, q⟩ := h
  obtain ⟨u, rfl, ru⟩ := vals1 r
  cases ru
  obtain ⟨its, rv, pl, hzl⟩ := I.list hs
  obtain ⟨e1, e2⟩ := each_mk I rv hd
  obtain ⟨al, sb, dp⟩ := sortOk_all so
  have hun := hr.un
  refine PySem.W.sorted_data (β := V × D) (enc := fun b => b.2) pl.isList e1 e2 al sb hz (fun b hb => ?_) fun out ho eo => ?_
  · have := (dp b.2 (List.mem_map.mpr ⟨b, hb, rfl⟩)).1
    omega
  · have rv2 := each_vals eo
    obtain ⟨c, hc⟩ := sortedAll_at s.heap its out.toArray
    refine ⟨.ref (s.heap.objs.size + 1), _, I.laid (t' := s.toks) (o := .lst ((ps.mergeSort (PySem.W.dataLe false fun q : V × D => q.2)).map (·.1))) (fun b o hb => sortedAll_old hb) (Nat.le_succ _) ⟨?_, out, c, rv2, hc⟩, rfl, q _ (I.hok.fresh (Nat.le_succ _))⟩
    rw [List.length_map, List.length_mergeSort]
    exact hz
theorem zip_rps {K : PySem.W.Frag} {F : Hp} : ∀ {vs : List V} {ds : List D}, Rps K F vs ds → (vs.zip ds).map (·.1) = vs ∧ (vs.zip ds).map (·.2) = ds ∧ ∀ p ∈ vs.zip ds, Rp K F p.1 p.2
  | _, [], h => by cases h; exact ⟨rfl, rfl, fun p hp => by cases hp⟩
  | _, d :: ds, h => by
    cases h with
    | cons h1 h2 =>
      obtain ⟨a, b, c⟩ := zip_rps h2
      refine ⟨by rw [List.zip_cons_cons, List.map_cons, a], by rw [List.zip_cons_cons, List.map_cons, b], fun p hp => ?_⟩
      rw [List.zip_cons_cons] at hp
      rcases List.mem_cons.mp hp with rfl | hp
      · exact h1
      · exact c p hp
theorem rps_zip {K : PySem.W.Frag} {F : Hp} : ∀ {ps : List (V × D)}, (∀ p ∈ ps, Rp K F p.1 p.2) → Rps K F (ps.map (·.1)) (ps.map (·.2))
  | [], _ => .nil
  | p :: ps, h => .cons (h p List.mem_cons_self) (rps_zip fun q hq => h q (List.mem_cons_of_mem _ hq))
theorem rd_sorted {K : PySem.W.Frag} : RdC K (rSorted K) dSorted := by
  intro A F H S σ xs ds z Q k r h post
  unfold dSorted at h
  split at h
  · split at h
    · rename_i ys hso
      cases h
      obtain ⟨v, rfl, rv⟩ := rps1 r
      obtain ⟨a, vs, rfl, h1, h2, h3⟩ := rp_list_inv rv
      obtain ⟨z1, z2, z3⟩ := zip_rps h2
      have hl : (vs.zip ys).length = ys.length := by rw [List.length_zip, h2.length]; omega
      refine ⟨a, vs.zip ys, rfl, SqL.of (by rw [z1]; exact k.sub.same _ _ h1), fun p hp => ?_, by rw [z2]; exact hso, by rw [hl]; exact h3, fun p hp => ?_⟩
      · exact Rp.dp _ _ ((sortOk_all hso).2.2 p.2 (by rw [← z2]; exact List.mem_map.mpr ⟨p, hp, rfl⟩)).2 ((z3 p hp).mono k.sub.same _ _)
      · have e2 : ((vs.zip ys).mergeSort (PySem.W.dataLe false fun q : V × D => q.2)).map (·.2) = ys.mergeSort leD := by
          have := List.map_mergeSort (s := leD) (r := PySem.W.dataLe false fun q : V × D => q.2) (f := fun q : V × D => q.2) (l := vs.zip ys) (fun a _ b _ => rfl)
          rw [this, z2]
        have rr := rps_zip (K := K) (F := F) (ps := (vs.zip ys).mergeSort (PySem.W.dataLe false fun q : V × D => q.2)) fun p hp => z3 p (List.mem_mergeSort.mp hp)
        rw [e2] at rr
        obtain ⟨s1, k1, r1⟩ := k.newList hp rr (by rw [List.length_mergeSort]; exact h3)
        exact post _ _ _ s1 k1 r1
    · cases h
  · cases h
  · cases h

/-! ### max(xs), min(xs) of data -/
/-! ### sum(xs) of ints -/
def allInts : List D → Option (List Int)
  | [] => some []
  | .int b :: ds => (allInts ds).bind fun bs => some (b :: bs)
  | _ => none
theorem allInts_map : ∀ {ds : List D} {bs : List Int}, allInts ds = some bs → ds = bs.map .int
  | [], _, h => by cases h; rfl
  | .int b :: ds, _, h => by
    obtain ⟨bs, h1, h2⟩ := bind_inv h
    cases h2
    rw [List.map_cons, allInts_map h1]
  | .none :: _, _, h => by simp [allInts] at h
  | .bool _ :: _, _, h => by simp [allInts] at h
  | .str _ :: _, _, h => by simp [allInts] at h
  | .list _ :: _, _, h => by simp [allInts] at h
  | .tuple _ :: _, _, h => by simp [allInts] at h
  | .dict _ :: _, _, h => by simp [allInts] at h
theorem allInts_of : ∀ bs : List Int, allInts (bs.map .int) = some bs
  | [] => rfl
  | b :: bs => by
    show (allInts (bs.map .int)).bind _ = _
    rw [allInts_of bs]; rfl
theorem rps_ints {K : PySem.W.Frag} {F : Hp} : ∀ {vs : List V} {bs : List Int}, Rps K F vs (bs.map .int) → vs = bs.map V.int
  | _, [], h => by cases h; rfl
  | _, b :: bs, h => by
    cases h with
    | cons h1 h2 => rw [rp_int_inv h1, rps_ints h2]; rfl
section
variable {X : Cx} {pos p p2 : Pos} {e : Expr} {es : List Expr} {gs : M (List D)} {k : Nat}
theorem e_sorted (hr : Room k X.A) (hm : X.mg "sorted" = none) (ha : GA X [e] gs) (hg : Gl X "sorted" := by rfl) (he : starEach [e] X.env = (false, eval e X.env) :: starEach [] X.env := by rfl) : GE X (.Call (.Name "sorted" p) [e] [] pos) (gCall dSorted gs) :=
  e_callB (call_sortedAll hr) rd_sorted hm (by decide +kernel) ha hg (he := he) (hpl := by rfl)
end
end Fu

set_option maxHeartbeats 4000000
namespace Fu
open PySem PySem.Spec PyProof.Rows L2
/-! ### list(range(..)), xs[::-1], len(set(ints)) -/
section
variable {X : Cx} {pos p p2 p3 p4 : Pos} {a b e e2 : Expr} {ga gb ge ge2 : M D}
theorem rps_rg {K : PySem.W.Frag} {F : Hp} (lo hi : Int) : Rps K F (rgV lo hi) (rng lo (hi - lo).toNat) := by
  have h := Rps.ints (K := K) (H := F) ((List.range (hi - lo).toNat).map fun i : Nat => lo + (i : Int))
  rw [List.map_map, List.map_map] at h
  exact h
def gListRng1 (g : M D) : M D := fun S => (g S).bind fun q => match q.1 with
  | .int j => if -4611686018427387904 ≤ j ∧ j ≤ 16777216 then some (.list (rng 0 j.toNat), q.2) else none
  | _ => none
theorem n_listRng1 (hm : X.mg "list" = none) (hr : X.mg "range" = none) (ha : GE X e ge) (hc : X.calm = true := by rfl) (hg : Gl X "list" := by rfl) (hg2 : Gl X "range" := by rfl)
    (hs : starEach [e] X.env = (false, eval e X.env) :: starEach [] X.env := by rfl) (hs2 : starEach [.Call (.Name "range" p2) [e] [] p3] X.env = (false, eval (.Call (.Name "range" p2) [e] [] p3) X.env) :: starEach [] X.env := by rfl) :
    GN X (.Call (.Name "list" p) [.Call (.Name "range" p2) [e] [] p3] [] pos) (gListRng1 ge) := by
  obtain ⟨_, pa, ra⟩ := ha.ex
  refine ⟨_, pe_listRg hc hg hm (prg_1 hg2 hr pa hs) hs2, fun A F H S σ d S' Q k h post => ?_⟩
  obtain ⟨⟨x, S1⟩, h1, h⟩ := bind_inv h
  cases x with
  | int j =>
    simp only at h
    split at h
    · rename_i hj
      cases h
      refine ra A F H S σ _ _ _ k h1 fun A1 F1 H1 v s1 f1 k1 r1 => ?_
      cases rp_int_inv r1
      refine ⟨j, rfl, ⟨by omega, by omega, by omega, by omega, by omega⟩, fun q hq => post A1 F1 H1 q _ _ s1 f1 k1 hq rfl ?_ ?_⟩
      · have := rps_rg (K := X.K) (F := F1) 0 j
        rwa [Int.sub_zero] at this
      · rw [rng_len, sizeLine_eq]; omega
    · cases h
  | _ => cases h
def dRevL : D → Option D
  | .list xs => some (.list xs.reverse)
  | _ => none
theorem n_revL {k : Nat} (ha : GE X e ge) : GN X (.Subscript e (.Slice none none (some (.UnaryOp .USub (.Constant (.int 1) k p) p2)) p3) pos) (gUn dRevL ge) := by
  obtain ⟨_, pa, ra⟩ := ha.ex
  refine ⟨_, pe_revL pa, fun A F H S σ d S' Q k h post => ?_⟩
  obtain ⟨⟨x, S1⟩, h1, h⟩ := bind_inv h
  obtain ⟨z, h2, h⟩ := bind_inv h
  cases h
  cases x <;> simp only [dRevL] at h2 <;> cases h2
  refine ra A F H S σ _ _ _ k h1 fun A1 F1 H1 v s1 f1 k1 r1 => ?_
  obtain ⟨l, vs, rfl, g1, g2, g3⟩ := rp_list_inv r1
  exact ⟨l, vs, rfl, SqL.of (k1.sub.same _ _ g1), fun q hq => post A1 F1 H1 q _ _ s1 f1 k1 hq rfl g2.reverse (by rw [List.length_reverse]; exact g3)⟩
/-- how many unlike ones -/
def unlike (ns : List Int) : Nat := (PyProof.Rows.firstMet (fun i => ns.getD i 0) ns.length).length
def tManyI (K : PySem.W.Frag) (ta : TE) : TE := fun σ H Q => ta σ H fun x H1 => ∃ (l : Addr) (ns : List Int), x = .ref l ∧ SqL K H1 l (ns.map V.int) ∧ ns.length ≤ 4000 ∧ Q (.int (unlike ns : Nat)) H1
theorem pe_manyI {ta : TE} (g1 : Gl X "len") (m1 : X.mg "len" = none) (g2 : Gl X "set") (m2 : X.mg "set" = none) (ha : PE X e ta) (hc : X.calm = true) (na : starEach [e] X.env = (false, eval e X.env) :: starEach [] X.env) :
    PE X (.Call (.Name "len" p) [.Call (.Name "set" p2) [e] [] p3] [] pos) (tManyI X.K ta) := ⟨fun ps s σ H Q I h => by
  refine Call_ (ld_blt I g1 m1 boot_len (PyProof.Rows.callWith_builtin1 (PyProof.Rows.args_cons ?_ rfl) rfl rfl))
  refine Call_ (ld_blt I g2 m2 boot_set (PyProof.Rows.callWith_type1 (PyProof.Rows.args_cons ?_ na) na rfl))
  refine thn (ha.run ps s σ H _ I h) fun v t ⟨x, G, J, r, q⟩ => PyProof.Rows.args_nil ?_
  obtain ⟨l, ns, ex, hl, hz, q⟩ := q
  subst ex
  cases r
  obtain ⟨its, ri, pl, _⟩ := J.list hl
  have hn : its.toArray.size = ns.length := by rw [List.size_toArray, ← ri.length, List.length_map]
  have hb : its.toArray.size + 1 < scanBound := by rw [hn]; unfold scanBound; omega
  refine call_set_list (J.ok.hd hc) pl.isList (by simpa using RZ.intsAre_vals ri) hb fun h' tk st keep => PyProof.Rows.args_nil ?_
  rw [hn] at st
  obtain ⟨o, es, ep, tb, ho, hex, hd, _, _, _, hf, hcount⟩ := st
  have hle : unlike ns ≤ ns.length := PyProof.Rows.firstMet_length_le _ _
  have J2 : Inv X ps σ G { t with heap := h', toks := tk } := J.kept fun c u eu => keep c u (Heap.lt_size eu) eu
  exact call_len_set ho hex hd hf (by rw [hcount]; unfold unlike at hle; omega) ⟨.int (unlike ns), G, J2.tok _, ⟨_, by rw [hcount]; rfl⟩, q⟩⟩
def dLenSet : D → Option D
  | .list ds => (allInts ds).bind fun ns => if ns.length ≤ 4000 then some (.int (unlike ns : Nat)) else none
  | _ => none
theorem e_lenSet (m1 : X.mg "len" = none) (m2 : X.mg "set" = none) (ha : GE X e ge) (hc : X.calm = true := by rfl) (g1 : Gl X "len" := by rfl) (g2 : Gl X "set" := by rfl) (na : starEach [e] X.env = (false, eval e X.env) :: starEach [] X.env := by rfl) :
    GE X (.Call (.Name "len" p) [.Call (.Name "set" p2) [e] [] p3] [] pos) (gUn dLenSet ge) := by
  obtain ⟨_, pa, ra⟩ := ha.ex
  refine ⟨_, pe_manyI g1 m1 g2 m2 pa hc na, fun A F H S σ d S' Q k h post => ?_⟩
  obtain ⟨⟨x, S1⟩, h1, h⟩ := bind_inv h
  obtain ⟨z, h2, h⟩ := bind_inv h
  cases h
  cases x <;> simp only [dLenSet] at h2 <;> try cases h2
  obtain ⟨ns, h3, h2⟩ := bind_inv h2
  split at h2
  · rename_i hz
    cases h2
    refine ra A F H S σ _ _ _ k h1 fun A1 F1 H1 v s1 f1 k1 r1 => ?_
    obtain ⟨l, vs, rfl, q1, q2, q3⟩ := rp_list_inv r1
    have e := allInts_map h3
    subst e
    cases rps_ints q2
    exact ⟨l, ns, rfl, SqL.of (k1.sub.same _ _ q1), hz, post A1 F1 H1 _ s1 f1 k1 (.int _)⟩
  · cases h2
end
end Fu

set_option maxHeartbeats 4000000
namespace Fu
open PySem PySem.Spec PyProof.Rows L2
/-! ### promises of functions that may ask what is being shown: with no show under way around them -/
structure FnG (P : Program) (w : World) (K : PySem.W.Frag) (mg : Str → Option Value) (base : Heap) (k : Nat) (fa : Addr) (fd : FuncData) (ps : List Str) (sp : Sp) : Prop where
  len : ∀ vs H Q E, sp vs H Q E → vs.length = ps.length
  go : ∀ (A : Around) (out : List Env) (t : Shared) (H : Hp) (ar : Args) (us : List Value) (vs : List V) (Q : VK) (E : XK), Room k A → A.guards = some [] → Env0 P w K mg base A out t H → BindsTo t fd ar (ps.zip us) → Vals vs us → sp vs H Q E →
    codeAny (model P w) A (.call (.ref fa) ar) (CR CX0 out P w H t Q E) t
section
variable {P : Program} {w : World} {K : PySem.W.Frag} {mg : Str → Option Value} {base : Heap} {x qual : Str} {st : Stmt} {f : Addr} {fd : FuncData} {N ps : List Str} {k n : Nat} {sp : Sp}
theorem FnG.of (F : FnOk P w K mg base CX0 k f fd ps sp) : FnG P w K mg base k f fd ps sp := ⟨F.len, fun A out t H ar us vs Q E hr _ => F.run A out t H ar us vs Q E hr⟩
end
section
variable {X : Cx} {k : Nat} {f : Addr} {fd : FuncData} {ps : List Str} {sp : Sp} {E : XK} {x : Str} {p pos : Pos} {e : Expr} {es : List Expr} {t : TA}
end
/-! ### the law's call, from such a promise -/
end Fu

set_option maxHeartbeats 4000000
namespace Fu
open PySem PySem.Spec PyProof.Rows L2
/-! ### defs whose promise wants that no show is under way -/
section
variable {P : Program} {w : World} {K : PySem.W.Frag} {mg : Str → Option Value} {base : Heap} {x qual : Str} {st : Stmt} {f : Addr} {fd : FuncData} {N ps : List Str} {k n : Nat} {g : Sx → Option Out}
end
section
variable {X : Cx} {pos p p2 : Pos} {x : Str} {e : Expr} {es : List Expr} {gs : M (List D)} {f : List D → Option D} {k n : Nat} {fa : Addr} {fd : FuncData} {ps : List Str} {E : XK}
end
section
variable {P : Program} {w : World} {K : PySem.W.Frag} {mg : Str → Option Value} {base : Heap} {x : Str} {st : Stmt} {N ps : List Str} {k n : Nat} {g : Sx → Option Out}
end
section
variable {X : Cx} {pos p p2 py : Pos} {x y : Str} {e : Expr} {es : List Expr} {gs : M (List D)} {k n : Nat} {ps : List Str}
end
end Fu

set_option maxHeartbeats 4000000
namespace Fu
open PySem PySem.Spec PyProof.Rows L2
/-! ### repr of lists and tuples -/
def showOk (d : D) : Bool := d.showable && !d.hasDict && d.canLay0 && decide (d.depth ≤ 60) && decide (d.shown.length ≤ 16777216)
section
variable {X : Cx} {pos p p2 : Pos} {e : Expr} {es : List Expr} {gs : M (List D)} {k : Nat}
end
end Fu

set_option maxHeartbeats 4000000
namespace Fu
open PySem PySem.Spec PyProof.Rows L2
/-! ### a < b < c, list + list as a new list -/
def gChain (f f' : D → D → Option D) (ga gb gc : M D) : M D := fun S => (ga S).bind fun p => (gb p.2).bind fun q => match f p.1 q.1 with
  | some (.bool true) => (gc q.2).bind fun r => (f' q.1 r.1).bind fun z => some (z, r.2)
  | some (.bool false) => some (.bool false, q.2)
  | _ => none
theorem rd_chain {K : PySem.W.Frag} {r r' : R2} {f f' : D → D → Option D} {ta tb tc : TE} {ga gb gc : M D} (hf : RdOp K r f) (hf' : RdOp K r' f') (ra : RdE K ta ga) (rb : RdE K tb gb) (rc : RdE K tc gc) : RdE K (tChain r r' ta tb tc) (gChain f f' ga gb gc) := by
  intro A F H S σ d S' Q k h post
  obtain ⟨⟨x, S1⟩, h1, h⟩ := bind_inv h
  obtain ⟨⟨y, S2⟩, h2, h⟩ := bind_inv h
  simp only at h
  refine ra A F H S σ x S1 _ k h1 fun A1 F1 H1 v1 p1 s1 k1 r1 => rb A1 F1 H1 S1 σ y S2 _ k1 h2 fun A2 F2 H2 v2 p2 s2 k2 r2 => ?_
  split at h
  · rename_i e
    obtain ⟨⟨w, S3⟩, h3, h⟩ := bind_inv h
    obtain ⟨z, h4, h⟩ := bind_inv h
    cases h
    refine hf A2 F2 H2 _ σ v1 v2 x y _ _ k2 (r1.mono s2 _ _) r2 e fun F3 H3 v s3 k3 r3 => ?_
    cases rp_bool_inv r3
    refine ⟨true, rfl, ?_⟩
    rw [if_pos rfl]
    refine rc A2 F3 H3 _ σ w _ _ k3 h3 fun A4 F4 H4 v4 p4 s4 k4 r4 => ?_
    exact hf' A4 F4 H4 _ σ v2 v4 y w _ Q k4 (r2.mono (s3.trans s4) _ _) r4 h4 fun F5 H5 v5 s5 k5 r5 => post A4 F5 H5 v5 ((p1.trans p2).trans p4) (s1.trans (s2.trans (s3.trans (s4.trans s5)))) k5 r5
  · rename_i e
    cases h
    refine hf A2 F2 H2 _ σ v1 v2 x y _ _ k2 (r1.mono s2 _ _) r2 e fun F3 H3 v s3 k3 r3 => ?_
    cases rp_bool_inv r3
    refine ⟨false, rfl, ?_⟩
    rw [if_neg (by decide)]
    exact post A2 F3 H3 _ (p1.trans p2) (s1.trans (s2.trans s3)) k3 (.bl false)
  · cases h
section
variable {X : Cx} {pos p p2 : Pos} {a b c e : Expr} {ga gb gc : M D} {op op' : CmpOp}
theorem e_chain {r r' : R2} {f f' : D → D → Option D} (ho : OpR X (compareOp op) r) (ho' : OpR X (compareOp op') r') (hf : RdOp X.K r f) (hf' : RdOp X.K r' f') (ha : GE X a ga) (hb : GE X b gb) (hc : GE X c gc) (hm : lastMarks [op, op'] [b, c] = false := by with_unfolding_all rfl) :
    GE X (.Compare a [op, op'] [b, c] pos) (gChain f f' ga gb gc) :=
  let ⟨_, pa, ra⟩ := ha.ex; let ⟨_, pb, rb⟩ := hb.ex; let ⟨_, pc, rc⟩ := hc.ex; ⟨_, pe_chain ho ho' pa pb pc hm, rd_chain hf hf' ra rb rc⟩
end
end Fu

set_option maxHeartbeats 4000000
namespace Fu
open PySem PySem.Spec PyProof.Rows L2
/-! ### xs.count(x), slices as new lists -/
def rCountD (K : PySem.W.Frag) : V → List V → Hp → VK → Prop := fun x xs H Q => ∃ (l : Addr) (vs : List V) (v : V) (ds : List D) (d : D), x = .ref l ∧ xs = [v] ∧ SqL K H l vs ∧ DpAll K H vs ds ∧ Dp K H v d ∧ PyData.canLayAll0 ds = true ∧ d.canLay0 = true ∧ d.depth ≤ 60 ∧ Q (.int ((ds.countP fun y => PyData.eqv y d : Nat) : Int)) H
theorem mt_countD {X : Cx} {k : Nat} (hr : Room k X.A) : MtR X "list.count" (rCountD X.K) := by
  intro pins s σ H x xs v us Q I rx rxs h
  obtain ⟨l, vs, y, ds, d, rfl, rfl, hs, hd, hy, c1, c2, dp, q⟩ := h
  cases rx
  obtain ⟨u, rfl, ru⟩ := rxs.one
  obtain ⟨its, rv, pl, hz⟩ := I.list hs
  obtain ⟨as, r1⟩ := Dp.readsAll I ds _ its hd rv
  obtain ⟨bs, r2⟩ := Dp.reads I d _ _ hy ru
  have hun := hr.un
  refine SeqAt.count_list_data pl.isList (by simpa using r1) r2 (PyData.plainAll_of_canLay0 _ c1) (PyData.plain_of_canLay0 _ c2) (by omega) ?_
  exact ⟨.int _, H, I.tok _, ⟨s.toks, rfl⟩, q⟩
def dCount : D → D → Option D
  | .list ds, d => if PyData.canLayAll0 ds = true ∧ d.canLay0 = true ∧ d.depth ≤ 60 then some (.int ((ds.countP fun y => PyData.eqv y d : Nat) : Int)) else none
  | _, _ => none
section
variable {X : Cx} {pos p p2 apos : Pos} {a b e o : Expr} {ga gb ge go : M D} {k : Nat} {gl gh : M (Option Int)} {lo hi : Option Expr}
theorem e_count (hr : Room k X.A) (ho : GE X o go) (he : GE X e ge) (hbase : attributeBase o "count" X.env (eval o X.env) = eval o X.env := by rfl)
    (hfew : ((backTo pos (starEach [e] X.env)).all (fun x => !x.1) && (backToKw pos (keywordEach [] X.env)).all (fun x => x.1.isSome) && decide (([e] : List Expr).length + ([] : List Keyword).length + (if ([] : List Keyword).isEmpty then 0 else 1) < 30)) = true := by rfl)
    (hline : (apos.endLine == pos.line) = true := by rfl) (hst : starEach [e] X.env = (false, eval e X.env) :: starEach [] X.env := by rfl) : GE X (.Call (.Attribute o "count" apos) [e] [] pos) (gBin dCount go ge) := by
  obtain ⟨_, po, ro⟩ := ho.ex
  obtain ⟨_, pe, re⟩ := he.ex
  refine ⟨_, pe_bm PySem.F.plainAttrs_list PySem.F.slot_list_count PySem.F.type_list_count (mt_countD hr) po (pa_cons pe pa_nil hst) hbase hfew hline hst (by rfl), fun A F H S σ z S' Q k h post => ?_⟩
  obtain ⟨⟨x, S1⟩, h1, h⟩ := bind_inv h
  obtain ⟨⟨y, S2⟩, h2, h⟩ := bind_inv h
  obtain ⟨w, h3, h⟩ := bind_inv h
  cases h
  cases x <;> simp only [dCount] at h3 <;> try cases h3
  split at h3
  · rename_i ok
    cases h3
    refine ro A F H S σ _ _ _ k h1 fun A1 F1 H1 v1 p1 s1 k1 r1 => ?_
    obtain ⟨l, vs, rfl, g1, g2, g3⟩ := rp_list_inv r1
    refine ⟨.inl ⟨rfl, _, SqL.of (k1.sub.same _ _ g1)⟩, re A1 F1 H1 _ σ _ _ _ k1 h2 fun A2 F2 H2 v2 p2 s2 k2 r2 => ?_⟩
    exact ⟨l, vs, v2, _, _, rfl, rfl, SqL.of ((s2.trans k2.sub.same) _ _ g1), Rps.dp _ _ ok.1 (Rps.mono (s2.trans k2.sub.same) _ _ g2), Rp.dp _ _ ok.2.1 (r2.mono k2.sub.same _ _), ok.1, ok.2.1, ok.2.2, post A2 F2 H2 _ (p1.trans p2) (s1.trans s2) k2 (.int _)⟩
  · cases h3
end
end Fu

set_option maxHeartbeats 4000000
namespace Fu
open PySem PySem.Spec PyProof.Rows L2
/-! ### an item of an own list as a target among others -/
section
variable {X : Cx} {pos p p2 py : Pos} {y : Str} {b : Expr} {gb : M D} {tgt : List Nat}
end
end Fu

set_option maxHeartbeats 4000000
namespace Fu
open PySem PySem.Spec PyProof.Rows L2
/-! ### a def that calls itself, where it may go no deeper: nothing is promised -/
section
variable {P : Program} {w : World} {K : PySem.W.Frag} {mg : Str → Option Value} {base : Heap} {x : Str} {st : Stmt} {ps : List Str} {k n : Nat}
theorem has_none_pure (D : DefAt K mg x st ps) (hn : ps.length = n) : Has P w K mg base x k ps (spF K n fun _ => none) :=
  let ⟨f, fd, m, F, b⟩ := D; ⟨f, fd, m, F.kp, b, ⟨fun vs H Q E h => (by obtain ⟨ds, z, _, _, h, _⟩ := h; cases h), fun A outer s H args us vs Q E _ _ _ _ h => (by obtain ⟨ds, z, _, _, h, _⟩ := h; cases h)⟩⟩
end
end Fu

set_option maxHeartbeats 4000000
namespace Fu
open PySem PySem.Spec PyProof.Rows L2 RZ
/-! ### slices of a list that is written: the list stays one's own -/
section
variable {X : Cx} {P : Hp → Prop} {pos py p p2 p3 p4 apos : Pos} {x y : Str} {a b c d e : Expr} {es : List Expr} {ga gb gc gd ge : M D} {gs : M (List D)} {lo hi : Option Expr} {gl gh : M (Option Int)}
/-! ### xs += e, a list that is written -/
/-! ### the script: walked, as a list -/
/-! ### enumerate(xs) -/
def enumD : Nat → List D → List D
  | _, [] => []
  | n, x :: xs => .tuple [.int (n : Int), x] :: enumD (n + 1) xs
theorem enumD_len : ∀ (n : Nat) (xs : List D), (enumD n xs).length = xs.length
  | _, [] => rfl
  | n, _ :: xs => by rw [enumD, List.length_cons, enumD_len (n + 1) xs, List.length_cons]
theorem enumD_at : ∀ (n : Nat) (xs : List D) (i : Nat), (enumD n xs)[i]? = (xs[i]?).map fun x => .tuple [.int ((n + i : Nat) : Int), x]
  | _, [], i => by simp [enumD]
  | n, x :: xs, 0 => by simp [enumD]
  | n, x :: xs, i + 1 => by
    rw [enumD, List.getElem?_cons_succ, enumD_at (n + 1) xs i, List.getElem?_cons_succ, show n + 1 + i = n + (i + 1) by omega]
theorem walk_enum {K : PySem.W.Frag} {F : Hp} {a : Addr} {vs : List V} {xs : List D} (h : F a = some (.lst vs)) (r : Rps K F vs xs) : Walk K F (Ite K a) (enumD 0 xs) where
  stop := fun i H s hi => ⟨vs, SqL.of (s _ _ h), by rw [enumD_len] at hi; rw [r.length]; exact hi⟩
  go := fun i H s hi => by
    rw [enumD_len] at hi
    obtain ⟨v, e, _⟩ := r.get (List.getElem?_eq_getElem hi)
    exact ⟨vs, v, SqL.of (s _ _ h), e⟩
  yld := fun i d H x H' s hd y => by
    obtain ⟨T, v, rfl, hT, rfl, e1⟩ := y
    rw [enumD_at] at hd
    obtain ⟨d1, hd1, rfl⟩ := Option.map_eq_some_iff.mp hd
    obtain ⟨v', g1, r1⟩ := r.get hd1
    have f1 := e1 vs (SqL.of (s _ _ h))
    rw [g1] at f1; cases f1
    refine .inr ⟨T, _, _, rfl, hT, rfl, rfl, .cons ?_ (.cons r1 .nil), by show 2 ≤ sizeLine; decide⟩
    rw [Nat.zero_add]
    exact .int _
/-! ### a < b <= c < d -/
end
end Fu

set_option maxHeartbeats 4000000
namespace Fu
open PySem PySem.Spec PyProof.Rows L2 RZ
section
variable {X : Cx} {P : Hp → Prop} {pos py p p2 p3 p4 apos : Pos} {x y : Str} {a b c d e e2 e3 o : Expr} {es : List Expr} {ga gb gc gd ge go g2 : M D} {gs : M (List D)} {k : Nat}
/-! ### xs[::c], c is 1 or -1 -/
/-! ### xs.index(x) -/
def dIndex : D → D → Option D
  | .list ds, d => if SeqAt.shaped d = true ∧ SeqAt.shaped (.list ds) = true then (ds.findIdx? fun z => PyData.eqv z d).map (fun j : Nat => PyData.int (j : Int)) else none
  | _, _ => none
theorem e_index (hr : Room k X.A) (ho : GE X o go) (he : GE X e ge) (hbase : attributeBase o "index" X.env (eval o X.env) = eval o X.env := by rfl)
    (hfew : ((backTo pos (starEach [e] X.env)).all (fun x => !x.1) && (backToKw pos (keywordEach [] X.env)).all (fun x => x.1.isSome) && decide (([e] : List Expr).length + ([] : List Keyword).length + (if ([] : List Keyword).isEmpty then 0 else 1) < 30)) = true := by rfl)
    (hline : (apos.endLine == pos.line) = true := by rfl) (hst : starEach [e] X.env = (false, eval e X.env) :: starEach [] X.env := by rfl) : GE X (.Call (.Attribute o "index" apos) [e] [] pos) (gBin dIndex go ge) := by
  obtain ⟨_, po, ro⟩ := ho.ex
  obtain ⟨_, pe, re⟩ := he.ex
  refine ⟨_, pe_bm PySem.F.plainAttrs_list PySem.F.slot_list_index PySem.F.type_list_index (mt_indexD (hu65 hr)) po (pa_cons pe pa_nil hst) hbase hfew hline hst (by rfl), fun A F H S σ z S' Q k h post => ?_⟩
  obtain ⟨⟨x, S1⟩, h1, h⟩ := bind_inv h
  obtain ⟨⟨y, S2⟩, h2, h⟩ := bind_inv h
  obtain ⟨w, h3, h⟩ := bind_inv h
  cases h
  obtain ⟨ds, rfl⟩ : ∃ ds, x = .list ds := by
    cases x <;> simp only [dIndex] at h3 <;> first | cases h3 | exact ⟨_, rfl⟩
  simp only [dIndex] at h3
  split at h3
  · rename_i ok
    obtain ⟨j, hj, rfl⟩ := Option.map_eq_some_iff.mp h3
    refine ro A F H S σ _ _ _ k h1 fun A1 F1 H1 v s1 f1 k1 r1 => ?_
    have r1' := r1
    obtain ⟨l, vs, rfl, g1, g2, g3⟩ := rp_list_inv r1
    refine ⟨.inl ⟨rfl, _, SqL.of (k1.sub.same _ _ g1)⟩, re A1 F1 H1 _ σ _ _ _ k1 h2 fun A2 F2 H2 u s2 f2 k2 r2 => ?_⟩
    have hlt := (List.findIdx?_eq_some_iff_getElem.mp hj)
    obtain ⟨hl, hp, hn⟩ := hlt
    exact ⟨l, u, y, ds, j, ds[j], rfl, rfl, (r1'.mono f2 _ _).dpH k2.sub.same ok.2, r2.dpH k2.sub.same ok.1, ok.2, ok.1, List.getElem?_eq_getElem hl, hp, fun m z' hm hz => by
      obtain ⟨hml, rfl⟩ := List.getElem?_eq_some_iff.mp hz
      have := hn m hm
      simpa using this, post A2 F2 H2 _ (s1.trans s2) (f1.trans f2) k2 (.int _)⟩
  · cases h3
/-! ### max(a, b, c) -/
end
end Fu

set_option maxHeartbeats 4000000
namespace Fu
open PySem PySem.Spec PyProof.Rows L2 RZ
/-! ### calls that look at lists of one's own: they stay one's own, the answer holds no list -/
section
variable {X : Cx} {pos py p p2 : Pos} {x y : Str} {e : Expr} {es : List Expr} {ge : M D} {gs : M (List D)} {k n : Nat} {ps : List Str}
end
end Fu

set_option maxHeartbeats 4000000
namespace Fu
open PySem PySem.Spec PyProof.Rows L2 RZ
/-! ### looks: an expression that writes nothing sees one's own lists as data; they stay one's own -/
def mapO {α β : Type} (f : α → Option β) : List α → Option (List β)
  | [] => some []
  | x :: xs => (f x).bind fun y => (mapO f xs).map fun ys => y :: ys
def snapR (os : List (Option Cell)) : Nat → R → Option D
  | 0, .dat d => some d
  | 0, _ => none
  | _ + 1, .dat d => some d
  | _ + 1, .scr _ => none
  | _ + 1, .exc _ => none
  | n + 1, .tup rs => (mapO (snapR os n) rs).map .tuple
  | n + 1, .own j => match os[j]? with
    | some (some (.lst ds)) => some (.list ds)
    | some (some (.lR rs)) => (mapO (snapR os n) rs).map .list
    | _ => none
def sealS (os : List (Option Cell)) : Option R → Option R
  | some (.scr ns) => some (.scr ns)
  | some (.exc c) => some (.exc c)
  | some r => (snapR os 8 r).map .dat
  | none => none
def sealAll (S : Sx) : Sx := ⟨S.sl.map (sealS S.os), S.os.map fun _ => none⟩
section
variable {K : PySem.W.Frag} {A : List Addr} {F H H' : Hp} {S : Sx} {σ : L2.St}
end
section
variable {X : Cx} {e : Expr} {g : M D} {gt : M Bool}
end
end Fu

set_option maxHeartbeats 4000000
namespace L2
open PySem PySem.Spec PyProof.Rows
open Fu (XO)
/-! ### an exception that is looked at behind its suite: it is tracked from the suite's end on -/
section
variable {X : Cx} {pins : List (Addr × Obj)} {σ : St} {H : Hp} {s : Shared}
/-- an object that came to stand since the frame began, and that nobody tracks, is tracked -/
theorem adopt {a : Addr} {cls : Value} {o : Obj} {fs : Array Value} (I : Inv X pins σ H s) (na : H a = none) (ha : s.heap.get? a = some o) (hz : Zc cls none o) (hf : o.data = .fields fs) (h0 : X.s_0.heap.get? a = none) (nL : a ≠ X.env.locals)
    (hp : ∀ p ∈ X.pn ++ pins, p.1 ≠ a) : Inv X pins σ (upd H a (XO cls a)) s := by
  have ne : ∀ b u, H b = some u → b ≠ a := fun b u e z => by rw [z, na] at e; cases e
  have ne0 : ∀ b u, X.s_0.heap.get? b = some u → b ≠ a := fun b u e z => by rw [z, h0] at e; cases e
  have nc : ∀ x c, X.env.cells.lookup x = some c → c ≠ a := fun x c e z => by
    obtain ⟨v, o', ho', hd'⟩ := I.cell x c e
    rw [z, ha] at ho'; cases ho'
    rw [hf] at hd'; cases hd'
  refine ⟨I.ok, I.os, I.bare, ⟨I.base.keep, I.base.slot, fun b u e n hx => ?_, I.base.there, fun b xs e => ?_, fun b u xs e => ?_, fun b ps e => ?_⟩, I.loc, I.cell, ?_, fun x c e => ?_, fun p hm => ?_, fun b u e => ?_, I.len⟩
  · rw [upd_ne (ne0 b u e)]; exact I.base.free b u e n hx
  · have := I.base.tups b xs e
    rw [upd_ne (ne b _ this)]; exact this
  · have := I.base.frzs b u xs e
    rw [upd_ne (ne b _ this)]; exact this
  · obtain ⟨more, q⟩ := I.base.tbls b ps e
    exact ⟨more, by rw [upd_ne (ne b _ q)]; exact q⟩
  · rw [upd_ne (Ne.symm nL)]; exact I.free
  · rw [upd_ne (nc x c e)]; exact I.freeC x c e
  · obtain ⟨k1, k2, k3, k4, k5⟩ := I.pin p hm
    exact ⟨k1, by rw [upd_ne (hp p hm)]; exact k2, k3, k4, k5⟩
  · by_cases hb : b = a
    · subst hb
      rw [upd_same] at e
      cases e
      exact ⟨⟨o, fs, ha, hz, hf⟩, ⟨o, ha⟩, fun _ _ ⟨o', f', q, r⟩ k => ⟨o', f', k o' q, r⟩⟩
    · rw [upd_ne hb] at e
      exact (I.hok b u e).stay (fun _ _ _ q => q) (fun c q => by rw [upd_ne (ne c _ q)]; exact q) (fun c xs q => by rw [upd_ne (ne c _ q)]; exact q)
end
/-- what 'except x as n: ..' wishes, the exception tracked behind the suite (slot i is n's) -/
def wKept (K : PySem.W.Frag) (c : Value) (i : Nat) (ts : Addr → Value → TS) (Wout : WX) (D : Ends) : WX := fun cls d σ H =>
  ∃ b, PySem.W.exmOne K cls c = some b ∧ (b = true → d = none ∧ ∀ a, H a = none → ts a cls ⟨fun σ1 H1 => D.nx (σ1.set i none) (upd H1 a (XO cls a)), fun _ _ => False, fun _ _ => False, fun _ _ => False⟩ (σ.set i (some (.ref a))) H) ∧ (b = false → Wout cls d σ H)
section
variable {X : Cx} {x n : Str} {c : Value} {i : Nat} {body suite : List Stmt} {b0 : Stmt} {np p1 p2 : Pos} {tb : WX → TS} {ts : Addr → Value → TS} {Wout : WX}
theorem ps_try_kept (hex : X.ex = []) (hs : X.stack = X.env :: X.outer) (hf : X.env.frame = some X.env.locals) (hN : X.N.Nodup) (hi : X.N[i]? = some n) (hln : X.env.kindOf n = some .local) (hc : Names X x c) (tk : Takes X Wout)
    (hb : ∀ (W : WX) (pn : List (Addr × Obj)) (xe : Value → Shared → Prop), Takes (X.tr pn xe) W → PassesOwn (model X.prog X.w) X.A X.env xe → PSs (X.tr pn xe) body (tb W))
    (hsu : ∀ (a : Addr) (oe : Obj) (cls : Value) (pn : List (Addr × Obj)), PSs (X.suite a ((a, oe) :: pn)) (b0 :: suite) (ts a cls)) :
    PS X (.Try body [.ExceptHandler (some (.Name x np)) (some n) (b0 :: suite) p2] [] [] p1) (fun D σ H => tb (wKept X.K c i ts Wout D) D σ H) := by
  refine ⟨fun pins s σ H D I h => ?_⟩
  have ok := I.ok
  have hfr := ok.frames
  rw [hs] at hfr
  have hl0 : Loc X.env.scope n := .inl hln
  refine wpAny_Try_except ?_
  refine wpAny_mono (Q := fun f s1 => SP (X.tr (X.pn ++ pins) (fun e s1 => wpAny (model X.prog X.w) X.A (noteFrame e X.env) (fun _ s2 => wpAny (model X.prog X.w) X.A (setFlight e none) (fun _ s3 => wpAny (model X.prog X.w) X.A (handleBy e X.env [.ExceptHandler (some (.Name x np)) (some n) (b0 :: suite) p2]) (SP X pins D) X.xe s3) X.xe s2) X.xe s1)) [] D f s1)
    ((hb (wKept X.K c i ts Wout D) (X.pn ++ pins) _ (fun u s1 hx => ?_) PassesOwn.looking).run [] s σ H D (I.toTry _) h) (fun f s1 hsp => ?_) (fun e s1 he => he)
  · obtain ⟨a, B, sI, ps, σ2, H2, cls, d, rfl, J0, nb, up, sky, na, os, ag, b, hb1, hyes, hno⟩ := hx
    have J : Inv X pins σ2 H2 sI := J0.ofTry ok
    have sk : Sky B (X.env :: X.outer) a (Zc cls d) X.env.locals s1.heap := by rw [← hs]; exact sky
    show wpAny (model X.prog X.w) X.A (noteFrame (.ref a) X.env) _ _ _
    refine Sky.land Zc.steady hfr hf sk fun h3 fl3 up3 => ?_
    have J3 : Inv X pins σ2 H2 { s1 with heap := h3 } := J.landed nb fl3.1 (up.trans up3) os ag
    obtain ⟨o3, f3, e3, z3, d3⟩ := fl3.there
    have apart : a ∉ frs (X.env :: X.outer) := fun hm => by
      obtain ⟨_, o', e', hnf⟩ := fl3.2.2.1.mem hm
      rw [e3] at e'; cases e'
      exact hnf _ d3
    have nL : a ≠ X.env.locals := fun z => apart (List.mem_filterMap.mpr ⟨X.env, List.mem_cons_self, by rw [hf, z]⟩)
    have nF : a ∉ X.fs := fun hm => by
      obtain ⟨w, hw, q⟩ := List.mem_filterMap.mp hm
      exact apart (List.mem_filterMap.mpr ⟨w, List.mem_cons_of_mem _ hw, q⟩)
    -- nothing stood at a before the exception
    have nI : sI.heap.get? a = none := by
      cases q : sI.heap.get? a with
      | none => rfl
      | some o =>
        have := nb a o q (by rw [hs]; exact apart)
        rw [fl3.2.1] at this; cases this
    have n0 : X.s_0.heap.get? a = none := by
      cases q : X.s_0.heap.get? a with
      | none => rfl
      | some o =>
        obtain ⟨o', q'⟩ := J.base.there a o q (by rw [hex]; simp)
        rw [nI] at q'; cases q'
    have nq : ∀ p ∈ X.pn ++ pins, p.1 ≠ a := fun p hp z => by
      have := (J.pin p hp).1
      rw [z, nI] at this; cases this
    have K3 := J3.suite e3 d3 na nL nF
    have ty : PySem.W.Looks (model X.prog X.w) h3 (typeOf (.ref a)) cls := fun A Q E t keep q => wpAny_typeOf_ref (keep _ _ e3) (by rw [z3.1]; exact q)
    have asks := PySem.W.exm_one (M := model X.prog X.w) J3.kIn ty hb1
    refine wpAny_handleBy_cons (codeAny_handlers_test ?_) (fun q => by cases q)
    have named : ∀ {R : Value → Shared → Prop} {T : Value → Shared → Prop}, R c { s1 with heap := h3 } → wpAny (model X.prog X.w) (X.A.mark (some (.ref a))) (eval (.Name x np) X.env) R T { s1 with heap := h3 } := fun {R T} r => by
      obtain ⟨g1, g2, g3 | ⟨g3, g4, g5⟩⟩ := hc
      · exact ld_glob (X := X.suite a ((a, o3) :: (X.pn ++ pins))) K3 g1 g3 r g2
      · exact ld_blt (X := X.suite a ((a, o3) :: (X.pn ++ pins))) K3 g1 g3 g4 r g5 g2
    refine named (asks.here ?_)
    cases b with
    | true =>
      obtain ⟨rfl, wish⟩ := hyes rfl
      refine codeAny_handlers_suite_as ?_
      refine HandSPX.lands_againZ fl3 fun h4 fl4 up4 => ?_
      have J4 : Inv X pins σ2 H2 { s1 with heap := h4 } := J.landed nb fl4.1 ((up.trans up3).trans up4) os ag
      obtain ⟨o4, f4, e4, z4, d4⟩ := fl4.there
      have K4 := J4.suite e4 d4 na nL nF
      refine store_ok (X := X.suite a ((a, o4) :: (X.pn ++ pins))) (v := .ref a) K4 hN hi hl0 rfl (fun s5 K5 => ?_) (.inr hln)
      refine wpAny_mono ((hsu a o4 cls (X.pn ++ pins)).run [] s5 _ H2 _ K5 (wish a na)) (fun f s6 hsp => ?_) (fun _ _ z => z.elim)
      cases f with
      | next =>
        obtain ⟨σ6, H6, K6, q6⟩ := hsp
        obtain ⟨k1, k2, _⟩ := K6.pin (a, o4) (List.mem_append_left _ List.mem_cons_self)
        have J6 := adopt (K6.unsuite ok) k2 k1 z4 d4 n0 nL nq
        exact gone_ok J6 hN hi hln fun s7 J7 => ⟨_, _, J7, q6⟩
      | brk =>
        obtain ⟨_, _, _, q6⟩ := hsp
        exact q6.elim
      | cont =>
        obtain ⟨_, _, _, q6⟩ := hsp
        exact q6.elim
      | ret u =>
        obtain ⟨_, _, _, _, _, q6⟩ := hsp
        exact q6.elim
    | false =>
      show wpAny _ X.A (handleBy (.ref a) X.env []) _ _ _
      refine wpAny_handleBy_nil ?_
      obtain ⟨g1, g2, g3, oe, vs, T, oT, ts', he, hz, hd, h1, hr⟩ := id fl3
      unfold PySem.passOn
      refine wpAny_bind (wpAny_field he hd h1 ?_)
      rw [if_neg (by simp)]
      have fin : wpAny (model X.prog X.w) X.A (setFlight (.ref a) X.env.frame) (fun _ t => wpAny (model X.prog X.w) X.A (throw (.ref a) : Sem Flow) (SP X pins D) X.xe t) X.xe { s1 with heap := h3 } := by
        rw [hf]
        refine HandSPX.setFlight_upZ fl3 fun h4 hh4 up4 => wpAny_throw (tk _ _ ?_)
        exact ⟨a, B, sI, pins, σ2, H2, cls, d, rfl, J, nb, (up.trans up3).trans up4, .inr (.inr (by rw [hs]; exact hh4)), na, os, ag, hno rfl⟩
      first
        | exact wpAny_bind (wpAny_pure (wpAny_bind fin))
        | exact wpAny_bind fin
  · cases f with
    | next =>
      obtain ⟨σ2, H2, J2, q⟩ := hsp
      exact wpAny_execs_nil ⟨σ2, H2, J2.ofTry ok, q⟩
    | brk =>
      obtain ⟨σ2, H2, J2, q⟩ := hsp
      exact ⟨σ2, H2, J2.ofTry ok, q⟩
    | cont =>
      obtain ⟨σ2, H2, J2, q⟩ := hsp
      exact ⟨σ2, H2, J2.ofTry ok, q⟩
    | ret u =>
      obtain ⟨v, σ2, H2, J2, r, q⟩ := hsp
      exact ⟨v, σ2, H2, J2.ofTry ok, r, q⟩
end
/-- isinstance(e, c), e an exception that is tracked -/
def rIsK (K : PySem.W.Frag) (D : Addr) : List V → Hp → VK → Prop := fun xs H Q => ∃ (a : Addr) (c : V) (cv : Value) (b : Bool), xs = [.ref a, c] ∧ H a = some (XO (.ref D) a) ∧ (∀ u, RelV c u → u = cv) ∧ PySem.W.kitOne K (.ref D) cv = some b ∧ Q (.bl b) H
theorem call_isK {X : Cx} {D : Addr} (C : ExcC X.K D) : CallR X (.builtin "isinstance") (rIsK X.K D) := by
  intro pins s σ H xs us Q I r h
  obtain ⟨a, c, cv, b, rfl, hX, hcv, e, q⟩ := h
  cases r with
  | cons rx rr =>
    cases rr with
    | cons rt rr =>
      cases rr
      cases rx
      obtain rfl := hcv _ rt
      obtain ⟨o, fs, g1, ⟨g2, g3⟩, g4⟩ := (show ObjOk X.prog X.w H s.heap a (XO (.ref D) a) from I.hok a _ hX).1
      have J : PySem.W.InstAt s.heap a o D none := by
        obtain ⟨oc, od, oda, osl⟩ := o
        dsimp only at g2 g3 g4
        subst g2 g3 g4
        exact ⟨g1, rfl, rfl, trivial⟩
      exact PySem.W.kia_one (PySem.W.handS_kitx_exc C.hg C.hk C.hs C.hd C.ha C.hn C.ht C.hm) I.kIn J e (fun z => nomatch z) fun tk => ⟨.bl b, H, I.kept (t' := tk) fun _ _ z => z, rfl, q⟩
end L2

set_option maxHeartbeats 4000000
namespace L2
open PySem PySem.Spec PyProof.Rows
open Fu (Sub lpins forget remember lost_of mixH loose_there mix_held mix_free)
section
variable {X : Cx} {k : Nat} {f : Addr} {fd : FuncData} {ps : List Str} {sp : Sp} {W : WX} {x : Str} {p pos : Pos} {e : Expr} {es : List Expr} {t : TA}
/-- a call that may raise, over a part of the heap -/
theorem run_fnFX {pins : List (Addr × Obj)} {σ : L2.St} {H G : Hp} {s : Shared} {Q : VK} {us : List Value} {vs : List V} (F : FnOk X.prog X.w X.K X.mg X.base (CX X.prog X.w) k f fd ps sp) (hr : Room k X.A) (hb : Binds X.K fd ps []) (tk : Takes X W)
    (I : Inv X pins σ H s) (r : Vals vs us) (S : Sub G H) (h : sp vs G (fun v G' => (∀ b xs, G b = some (.tup xs) → G' b = some (.tup xs)) ∧ ((∀ b o, H b = some o → G b = none → G' b = none) → Q v (mixH G H G')))
      (fun cls d G' => (∀ b xs, G b = some (.tup xs) → G' b = some (.tup xs)) ∧ ((∀ b o, H b = some o → G b = none → G' b = none) → W cls d σ (mixH G H G')))) :
    wpAny (model X.prog X.w) X.A (call (.ref f) us) (EP X pins σ Q) X.xe s := by
  have I0 := forget I S
  have I1 := I0.toTry X.xe
  have hl : us.length = ps.length := by rw [← r.length]; exact F.len _ _ _ _ h
  have b := hb s us I.kIn (by rw [List.append_nil]; exact hl)
  rw [List.append_nil] at b
  refine wpAny_call (codeAny_mono (F.run X.A X.stack s G ⟨us, []⟩ us vs _ _ hr I0.env0 b r h) fun res s' hq => ?_)
  cases res with
  | ok fl =>
    cases fl with
    | ret u =>
      obtain ⟨v, G', I', rv, ht, q⟩ := I0.after hq
      exact ⟨v, mixH G H G', remember I S I' ht, rv, q (lost_of I S I')⟩
    | next => exact hq.elim
    | brk => exact hq.elim
    | cont => exact hq.elim
  | error er =>
    obtain ⟨a0, B0, H0', cls0, d0, e0, fl0, hok0, ub0, na0, _⟩ := id hq
    obtain ⟨a, B, sI, pns, σ', G', cls, d, ea, J, nb, up, sky, na, os, ag, rfl, ht, q⟩ := XE.of_call (X := X.tr (X.pn ++ (pins ++ lpins H G s.heap)) X.xe) (W := fun cls d σ' G' => σ' = σ ∧ (∀ b xs, G b = some (.tup xs) → G' b = some (.tup xs)) ∧ ((∀ b o, H b = some o → G b = none → G' b = none) → W cls d σ (mixH G H G'))) I1 (fun cls d H' h => ⟨rfl, h⟩) hq
    have J' := J.ofTry I.ok
    have aa : a0 = a := by rw [e0] at ea; cases ea; rfl
    subst aa
    refine tk _ _ ⟨a0, B, sI, pins, σ', mixH G H G', cls, d, ea, remember I S J' ht, nb, up, sky, ?_, os, ag, q (lost_of I S J')⟩
    cases q1 : G a0 with
    | some u => rw [mix_held q1]; exact na
    | none =>
      cases q2 : H a0 with
      | none => rw [mix_free q2]; exact na
      | some u =>
        obtain ⟨ob, hob⟩ : ∃ ob, s.heap.get? a0 = some ob := loose_there (I.hok a0 u q2) (S.loose a0 u q2 q1)
        have nf : a0 ∉ frs X.stack := fun hm => by
          have := I.env0.frf a0 hm
          rw [q2] at this; cases this
        have := ub0.keep a0 ob hob q1 nf
        rw [fl0.2.1] at this; cases this
def tCallX (sp : Sp) (W : WX) (t : TA) : TE := fun σ H Q => t σ H fun vs H1 => ∃ G, Sub G H1 ∧ sp vs G (fun v G' => (∀ b xs, G b = some (.tup xs) → G' b = some (.tup xs)) ∧ ((∀ b o, H1 b = some o → G b = none → G' b = none) → Q v (mixH G H1 G')))
  (fun cls d G' => (∀ b xs, G b = some (.tup xs) → G' b = some (.tup xs)) ∧ ((∀ b o, H1 b = some o → G b = none → G' b = none) → W cls d σ (mixH G H1 G')))
theorem pe_callX (F : FnOk X.prog X.w X.K X.mg X.base (CX X.prog X.w) k f fd ps sp) (hr : Room k X.A) (hg : Gl X x) (hm : X.mg x = some (.ref f)) (hk : PySem.W.keepIn X.K (.ref f) = true) (hb : Binds X.K fd ps []) (tk : Takes X W)
    (ha : PA X (e :: es) t) (hdb : (x == ("__debug__" : Str)) = false := by decide) (he : starEach (e :: es) X.env = (false, eval e X.env) :: starEach es X.env := by rfl) (hpl : (backTo pos (starEach es X.env)).any (·.1) = false := by rfl) :
    PE X (.Call (.Name x p) (e :: es) [] pos) (tCallX sp W t) := by
  refine ⟨fun pins s σ H Q I h => ?_⟩
  refine wpAny_Call_Name_kw (ld_glob I hg hm ?_ hdb)
  refine PySem.W.callWith_K (h₀ := X.base) I.ok.mod.kin hk (thn (ha.run pos pins s σ H _ I h) fun us s1 ⟨vs, H1, I1, r, G, S, q⟩ => ⟨I1.kIn, ?_⟩) he hpl
  exact run_fnFX F hr hb tk I1 r S q
end
end L2

set_option maxHeartbeats 4000000
namespace Fu
open PySem PySem.Spec PyProof.Rows L2 RZ
/-! ### what may raise: mirrored with its refusals -/
def ClsD (K : PySem.W.Frag) (c : Str) (D : Addr) : Prop := PySem.W.nsIn K mainGlobals c = some (some (.ref D))
/-- a def that may raise: its value by data, or the name of the class it raises -/
def spZ (K : PySem.W.Frag) (n : Nat) (m : List D → Option (Except Str D)) : Sp := fun vs H Q E => ∃ ds r, ds.length = n ∧ Rps K H vs ds ∧ m ds = some r ∧ (∀ z, r = .ok z → ∀ H' v, Same H H' → Rp K H' v z → Q v H') ∧ (∀ c, r = .error c → ∀ H' D, Same H H' → ClsD K c D → E (.ref D) none H')
theorem spZ_len {K : PySem.W.Frag} {n : Nat} {m : List D → Option (Except Str D)} {ps : List Str} (h : ps.length = n) : ∀ vs H Q E, spZ K n m vs H Q E → vs.length = ps.length := by
  intro vs H Q E ⟨ds, z, e, r, _⟩
  rw [r.length, e, h]
def HasZ (P : Program) (w : World) (K : PySem.W.Frag) (mg : Str → Option Value) (base : Heap) (x : Str) (k : Nat) (ps : List Str) (sp : Sp) : Prop :=
  ∃ f fd, mg x = some (.ref f) ∧ PySem.W.keepIn K (.ref f) = true ∧ L2.Binds K fd ps [] ∧ FnOk P w K mg base (L2.CX P w) k f fd ps sp
abbrev Zr (α : Type) := Except (Str × Sx) α
def ZErr (K : PySem.W.Frag) (W : WX) (A : List Addr) (F : Hp) (e : Str × Sx) : Prop := ∀ A' F' H' σ' D, A <+: A' → Same F F' → Ok K A' F' H' e.2 σ' → ClsD K e.1 D → W (.ref D) none σ' H'
def RdEZ (K : PySem.W.Frag) (W : WX) (t : TE) (g : Sx → Option (Zr (D × Sx))) : Prop := ∀ A F H S σ r Q, Ok K A F H S σ → g S = some r →
  (∀ d S', r = .ok (d, S') → ∀ A' F' H' v, A <+: A' → Same F F' → Ok K A' F' H' S' σ → Rp K F' v d → Q v H') → (∀ e, r = .error e → ZErr K W A F e) → t σ H Q
structure GEZ (X : Cx) (W : WX) (e : Expr) (g : Sx → Option (Zr (D × Sx))) : Prop where
  ex : ∃ t, PE X e t ∧ RdEZ X.K W t g
theorem ZErr.mono {K : PySem.W.Frag} {W : WX} {A A1 : List Addr} {F F1 : Hp} {e : Str × Sx} (p : A <+: A1) (s : Same F F1) (h : ZErr K W A F e) : ZErr K W A1 F1 e := fun A' F' H' σ' D p' s' k c => h A' F' H' σ' D (p.trans p') (s.trans s') k c
def zCall (n : Nat) (m : List D → Option (Except Str D)) (g : M (List D)) : Sx → Option (Zr (D × Sx)) := fun S => (g S).bind fun p => if p.1.length = n then (m p.1).map fun r => match r with
  | .ok z => .ok (z, p.2)
  | .error c => .error (c, p.2) else none
section
variable {X : Cx} {W : WX} {pos p p2 : Pos} {x : Str} {e : Expr} {es : List Expr} {gs : M (List D)} {k n : Nat} {ps : List Str}
theorem ez_call {m : List D → Option (Except Str D)} (h : HasZ X.prog X.w X.K X.mg X.base x k ps (spZ X.K n m)) (hr : Room k X.A) (tk : Takes X W) (ha : GA X (e :: es) gs) (hg : Gl X x := by rfl) (hdb : (x == ("__debug__" : Str)) = false := by decide)
    (he : starEach (e :: es) X.env = (false, eval e X.env) :: starEach es X.env := by rfl) (hpl : (backTo pos (starEach es X.env)).any (·.1) = false := by rfl) : GEZ X W (.Call (.Name x p) (e :: es) [] pos) (zCall n m gs) := by
  obtain ⟨fa, fd, hm, kp, b, F⟩ := h
  obtain ⟨t, pa, ra⟩ := ha.ex
  refine ⟨_, pe_callX F hr hg hm kp b tk pa hdb he hpl, fun A F H S σ r Q k h post err => ?_⟩
  obtain ⟨⟨ds, S1⟩, h1, h⟩ := bind_inv h
  simp only at h
  split at h
  case isFalse => cases h
  rename_i hn
  obtain ⟨r0, h2, rfl⟩ := Option.map_eq_some_iff.mp h
  refine ra A F H S σ ds _ _ k h1 fun A1 F1 H1 vs p1 s1 k1 r1 => ⟨F1, k1.sub, ds, r0, hn, r1, h2, fun z ez G' v sm rv => ⟨fun b xs q => sm b _ q, fun lost => ?_⟩, fun c ec G' D sm cd => ⟨fun b xs q => sm b _ q, fun lost => ?_⟩⟩
  · subst ez
    exact post _ _ rfl A1 G' _ v p1 (s1.trans sm) (k1.mix sm lost) rv
  · subst ec
    exact err _ rfl A1 G' _ σ D p1 (s1.trans sm) (k1.mix sm lost) cd
end
/-! ### statements that may raise -/
def RdSZ (K : PySem.W.Frag) (P : Hp → Prop) (W : WX) (t : TS) (g : Sx → Option (Zr Out)) : Prop := ∀ B A0 A F H S σ r (E : Ends), P B → Same B F → A0 <+: A → Ok K A F H S σ → g S = some r → (∀ o, r = .ok o → OutP K B A0 o E) → (∀ e, r = .error e → ZErr K W A0 B e) → t E σ H
structure GZ (X : Cx) (P : Hp → Prop) (W : WX) (st : Stmt) (g : Sx → Option (Zr Out)) : Prop where
  ex : ∃ t, PS X st t ∧ RdSZ X.K P W t g
structure GZs (X : Cx) (P : Hp → Prop) (W : WX) (st : List Stmt) (g : Sx → Option (Zr Out)) : Prop where
  ex : ∃ t, PSs X st t ∧ RdSZ X.K P W t g
def zS (g : Sx → Option Out) : Sx → Option (Zr Out) := fun S => (g S).map .ok
def zSeq (g h : Sx → Option (Zr Out)) : Sx → Option (Zr Out) := fun S => (g S).bind fun r => match r with
  | .ok (.nx S1) => h S1
  | r => some r
def zIf (t : M Bool) (g h : Sx → Option (Zr Out)) : Sx → Option (Zr Out) := fun S => (t S).bind fun p => if p.1 = true then g p.2 else h p.2
def zRaise (c : Str) : Sx → Option (Zr Out) := fun S => some (.error (c, S))
def zBe (g : Sx → Option (Zr (D × Sx))) (f : D → Sx → Option Out) : Sx → Option (Zr Out) := fun S => (g S).bind fun r => match r with
  | .ok q => (f q.1 q.2).map .ok
  | .error e => some (.error e)
def zSet (i : Nat) (g : Sx → Option (Zr (D × Sx))) := zBe g fun d S => some (.nx ⟨S.sl.set i (some (.dat d)), S.os⟩)
/-- the facts of a class that is raised -/
def ExcT (K : PySem.W.Frag) (mg : Str → Option Value) (c : Str) : Prop := ∃ C, ClsD K c C ∧ mg c = some (.ref C) ∧ PySem.W.excIn K C [.type "ValueError", .type "Exception", .type "BaseException", .type "object"] "ValueError.__new__" = true ∧ PySem.W.keepIn K (.ref C) = true ∧ PySem.W.subIn K (.ref C) (.type "BaseException") = some true ∧ PySem.W.typeIn K (.ref C) = some (.type "type")
section
variable {X : Cx} {P : Hp → Prop} {W : WX} {st : Stmt} {sts : List Stmt} {g h : Sx → Option (Zr Out)} {e : Expr} {ge : Sx → Option (Zr (D × Sx))} {pos : Pos}
theorem zs_of {g : Sx → Option Out} (h : GSs X P sts g) : GZs X P W sts (zS g) := by
  obtain ⟨t, p, r⟩ := h.ex
  refine ⟨t, p, fun B A0 A F H S σ r0 E hP s p k e post err => ?_⟩
  obtain ⟨o, h1, rfl⟩ := Option.map_eq_some_iff.mp e
  exact r B A0 A F H S σ o E hP s p k h1 (post o rfl)
theorem zs_one (h1 : GZ X P W st g) : GZs X P W [st] g := let ⟨_, p1, r1⟩ := h1.ex; ⟨_, pss_one p1, r1⟩
theorem zs_cons (h1 : GZ X P W st g) (h2 : GZs X P W sts h) : GZs X P W (st :: sts) (zSeq g h) := by
  obtain ⟨t, p1, r1⟩ := h1.ex
  obtain ⟨u, p2, r2⟩ := h2.ex
  refine ⟨_, pss_cons p1 p2, fun B A0 A F H S σ r E hP s p k e post err => ?_⟩
  obtain ⟨r0, e1, e⟩ := bind_inv e
  refine r1 B A0 A F H S σ r0 _ hP s p k e1 (fun o e0 => ?_) (fun er e0 => ?_)
  · subst e0
    cases o with
    | nx S1 => exact fun A1 F1 H1 σ1 s1 p1 k1 => r2 B A0 A1 F1 H1 S1 σ1 r E hP s1 p1 k1 e post err
    | rt d S1 => cases e; exact post _ rfl
    | bk S1 => cases e; exact post _ rfl
    | ct S1 => cases e; exact post _ rfl
    | ro j S1 => cases e; exact post _ rfl
  · subst e0
    cases e
    exact err _ rfl
theorem z_if {c : Expr} {a b : List Stmt} {gt : M Bool} (hc : GT X c gt) (ha : GZs X P W a g) (hb : GZs X P W b h) : GZ X P W (.If c a b pos) (zIf gt g h) := by
  obtain ⟨t, pc, rc⟩ := hc.ex
  obtain ⟨_, pa, ra⟩ := ha.ex
  obtain ⟨_, pb, rb⟩ := hb.ex
  refine ⟨_, ps_if pc pa pb, fun B A0 A F H S σ r E hP s p k e post err => ?_⟩
  obtain ⟨⟨x, S1⟩, e1, e⟩ := bind_inv e
  refine rc A F H S σ x S1 _ k e1 fun A1 F1 H1 p1 s1 k1 => ?_
  cases x with
  | true => exact ra B A0 A1 F1 H1 S1 σ r E hP (s.trans s1) (p.trans p1) k1 e post err
  | false => exact rb B A0 A1 F1 H1 S1 σ r E hP (s.trans s1) (p.trans p1) k1 e post err
theorem z_set {x : Str} {pos' : Pos} (i : Nat) (hN : X.N.Nodup) (he : GEZ X W e ge) (hx : Loc X.env.scope x := by first | exact Or.inl rfl | exact Or.inr rfl) (hi : X.N[i]? = some x := by rfl) (hs : swapsWith e (some (.Name x pos')) pos.line X.env = pure false := by rfl)
    (hf : X.fn x = true ∨ X.env.scope.names.lookup x = some .local := by first | exact .inl rfl | exact .inr rfl | assumption) : GZ X P W (.Assign [.Name x pos'] e pos) (zSet i ge) := by
  obtain ⟨t, p1, r1⟩ := he.ex
  refine ⟨_, ps_set hN hi hx p1 hs hf, fun B A0 A F H S σ r E hP s p k e post err => ?_⟩
  obtain ⟨r0, e1, e⟩ := bind_inv e
  refine r1 A F H S σ r0 _ k e1 (fun d S1 e0 A1 F1 H1 v p1 s1 k1 rv => ?_) (fun er e0 => ?_)
  · subst e0; cases e
    exact post _ rfl A1 F1 H1 _ (s.trans s1) (p.trans p1) (k1.setDat rv)
  · subst e0; cases e
    exact fun A' F' H' σ' D p' s' k' c => err _ rfl A' F' H' σ' D (p.trans p') (s.trans s') k' c
theorem z_raise {c m : Str} {j} {p p2 p3 : Pos} (T : ExcT X.K X.mg c) (tk : Takes X W) (hc : X.calm = true := by rfl) (hg : Gl X c := by rfl) (hdb : (c == ("__debug__" : Str)) = false := by decide) :
    GZ X P W (.Raise (some (.Call (.Name c p) [.Constant (.str m) j p2] [] p3)) none pos) (zRaise c) := by
  obtain ⟨C, cd, hm, hx, hk, hb, ht⟩ := T
  refine ⟨_, ps_raise hc tk (pmk_own PySem.F.excBase_ValueError hx hm hk (raises_own hb ht) hg hdb), fun B A0 A F H S σ r E hP s p k e post err => ?_⟩
  cases e
  exact err _ rfl A F H σ C p s k cd
end
/-! ### a def that may raise -/
def mZ (n : Nat) (g : Sx → Option (Zr Out)) : List D → Option (Except Str D) := fun ds => (g ⟨initS n ds, []⟩).bind fun r => match r with
  | .error e => some (.error e.1)
  | .ok (.nx _) => some (.ok .none)
  | .ok (.rt d _) => some (.ok d)
  | _ => none
section
variable {P : Program} {w : World} {K : PySem.W.Frag} {mg : Str → Option Value} {base : Heap} {x qual : Str} {st : Stmt} {f : Addr} {fd : FuncData} {N ps : List Str} {k n : Nat} {g : Sx → Option (Zr Out)}
abbrev cxZ (P : Program) (w : World) (K : PySem.W.Frag) (mg : Str → Option Value) (base : Heap) (N : List Str) (qual : Str) (st : Stmt) (f : Addr) (cdv : Value) (A : Around) (outer : List Env) (s : Shared) (H : Hp) (E : XK) : Cx := cxOf (L2.CX P w) P w K mg base N qual (defScope st) f cdv A outer s H E
abbrev wZ (E : XK) : WX := fun cls d _ H => E cls d H
theorem fn_z (F : Fun K x qual st f fd) (S : FnScope N ps (defScope st)) (hn : ps.length = n) (hN : n ≤ N.length)
    (body : ∀ (cdv : Value) (A : Around) (outer : List Env) (s : Shared) (H : Hp) (E : XK), Room k (A.deeper (envOfC qual (defScope st) s.heap.objs.size f cdv)) → GZs (cxZ P w K mg base N qual st f cdv A outer s H E) AnyB (wZ E) (defBody st) g) :
    FnOk P w K mg base (L2.CX P w) (k + 1) f fd ps (spZ K n (mZ N.length g)) := by
  refine F.okX S (spZ_len hn) fun cdv A outer s H vs Q E hr h => ?_
  obtain ⟨ds, r0, hd, r, e, post, err⟩ := h
  obtain ⟨t, p, rd⟩ := (body cdv A outer s H E hr).ex
  refine ⟨t, p, ?_⟩
  obtain ⟨o, e1, e⟩ := bind_inv e
  have hl : vs.length ≤ N.length := by rw [r.length, hd]; exact hN
  refine rd H [] [] H H _ (L2.start N vs) o _ trivial (Same.refl H) (List.prefix_refl _) (start_dat r hl (Sub.refl H)) e1 (fun o0 e0 => ?_) (fun er e0 => ?_)
  · subst e0
    cases o0 with
    | nx S => cases e; exact fun A1 F1 H1 σ1 s1 p1 k1 => post _ rfl H1 .non (s1.trans k1.sub.same) .non
    | rt d S => cases e; exact fun A1 F1 H1 σ1 v s1 p1 k1 rv => post _ rfl H1 v (s1.trans k1.sub.same) (rv.mono k1.sub.same _ _)
    | bk S => cases e
    | ct S => cases e
    | ro j S => cases e
  · subst e0
    cases e
    exact fun A1 F1 H1 σ1 D p1 s1 k1 cd => err _ rfl H1 D (s1.trans k1.sub.same) cd
theorem has_z (D : DefAt K mg x st ps) (S : FnScope N ps (defScope st)) (hn : ps.length = n) (hN : n ≤ N.length)
    (body : ∀ (f : Addr) (cdv : Value) (A : Around) (outer : List Env) (s : Shared) (H : Hp) (E : XK), Room k (A.deeper (envOfC x (defScope st) s.heap.objs.size f cdv)) → Takes (cxZ P w K mg base N x st f cdv A outer s H E) (wZ E) → GZs (cxZ P w K mg base N x st f cdv A outer s H E) AnyB (wZ E) (defBody st) g) : HasZ P w K mg base x (k + 1) ps (spZ K n (mZ N.length g)) :=
  let ⟨f, fd, m, F, b⟩ := D; ⟨f, fd, m, F.kp, b, fn_z F S hn hN fun cdv A outer s H E hr => body f cdv A outer s H E hr (takes_of rfl rfl rfl rfl)⟩
end
end Fu

set_option maxHeartbeats 4000000
namespace L2
open PySem PySem.Spec PyProof.Rows
open Fu (XO)
/-- isinstance(e, c), e an exception that is tracked, of any class -/
def rIsKA (K : PySem.W.Frag) : List V → Hp → VK → Prop := fun xs H Q => ∃ D, ExcC K D ∧ rIsK K D xs H Q
theorem call_isKA {X : Cx} : CallR X (.builtin "isinstance") (rIsKA X.K) := fun pins s σ H xs us Q I r ⟨_, C, h⟩ => call_isK C pins s σ H xs us Q I r h
end L2
namespace Fu
open PySem PySem.Spec PyProof.Rows L2 RZ
/-! ### an exception in a slot -/
/-- what an exception of the class c is, seen by cv -/
def ExcIs (K : PySem.W.Frag) (c : Str) (cv : Value) (b : Bool) : Prop := ∀ D, ClsD K c D → ExcC K D ∧ PySem.W.kitOne K (.ref D) cv = some b
theorem Ok.eslot {K : PySem.W.Frag} {A : List Addr} {F H : Hp} {S : Sx} {σ : L2.St} (k : Ok K A F H S σ) {i : Nat} {c : Str} (h : S.sl[i]? = some (some (.exc c))) : ∃ a D, σ[i]? = some (some (.ref a)) ∧ ClsD K c D ∧ F a = some (XO (.ref D) a) := by
  obtain ⟨v, e, r⟩ := k.rslot i _ h
  cases r with
  | exc h1 h2 => exact ⟨_, _, e, h1, h2⟩
/-- x is None, x data or an exception -/
def gIsN (i : Nat) : M D := fun S => match S.sl[i]? with
  | some (some (.exc _)) => some (.bool false, S)
  | some (some (.dat .none)) => some (.bool true, S)
  | some (some (.dat _)) => some (.bool false, S)
  | _ => none
def gNotN (i : Nat) : M D := fun S => (gIsN i S).bind fun p => match p.1 with
  | .bool b => some (.bool (!b), p.2)
  | _ => none
section
variable {X : Cx} {pos p p2 p3 : Pos} {y x : Str} {k : Nat}
theorem isN_cases {i : Nat} {S S' : Sx} {d : D} (h : gIsN i S = some (d, S')) : S' = S ∧ ((∃ c, S.sl[i]? = some (some (.exc c)) ∧ d = .bool false) ∨ ∃ e, S.sl[i]? = some (some (.dat e)) ∧ ((e = .none ∧ d = .bool true) ∨ ((e = .none → False) ∧ d = .bool false))) := by
  unfold gIsN at h
  cases e : S.sl[i]? with
  | none => rw [e] at h; cases h
  | some r =>
    cases r with
    | none => rw [e] at h; cases h
    | some r =>
      rw [e] at h
      cases r with
      | exc c => cases h; exact ⟨rfl, .inl ⟨_, rfl, rfl⟩⟩
      | dat d =>
        cases d with
        | none => cases h; exact ⟨rfl, .inr ⟨_, rfl, .inl ⟨rfl, rfl⟩⟩⟩
        | _ => cases h; exact ⟨rfl, .inr ⟨_, rfl, .inr ⟨(fun z => nomatch z), rfl⟩⟩⟩
      | own _ => cases h
      | scr _ => cases h
      | tup _ => cases h
theorem rd_notN {K : PySem.W.Frag} (i : Nat) : RdE K (tOp (fun x y H Q => y = V.non ∧ Q (V.bl (!decide (x = V.non))) H) (tVar i) (tC .non)) (gNotN i) := by
  intro A F H S σ d S' Q k h post
  obtain ⟨⟨d0, S0⟩, h0, h⟩ := bind_inv h
  obtain ⟨rfl, ⟨c, e, rfl⟩ | ⟨e0, e, ⟨rfl, rfl⟩ | ⟨ne, rfl⟩⟩⟩ := isN_cases h0
  · cases h
    obtain ⟨a, D, e1, _, _⟩ := k.eslot e
    exact ⟨_, e1, rfl, post A F H _ (List.prefix_refl _) (Same.refl F) k (.bl _)⟩
  · cases h
    obtain ⟨v, e1, r⟩ := k.slot i _ e
    cases r
    exact ⟨_, e1, rfl, post A F H _ (List.prefix_refl _) (Same.refl F) k (.bl _)⟩
  · cases h
    obtain ⟨v, e1, r⟩ := k.slot i _ e
    refine ⟨_, e1, rfl, ?_⟩
    rw [rp_ne_non r ne]
    exact post A F H _ (List.prefix_refl _) (Same.refl F) k (.bl _)
theorem e_notN (i : Nat) {j} (hN : X.N[i]? = some y := by rfl) (hv : Vis X.env.scope y := by first | exact Or.inl rfl | exact Or.inr (Or.inl rfl) | exact Or.inr (Or.inr rfl)) (hdy : (y == ("__debug__" : Str)) = false := by decide) (hcd : (y == ("__classdict__" : Str)) = false := by decide) :
    GE X (.Compare (.Name y p) [.IsNot] [.Constant .none j p2] pos) (gNotN i) := ⟨_, pe_cmpR op_notN (pe_var hN hv hdy hcd) pe_non rfl, rd_notN i⟩
/-- isinstance(x, C) of an exception -/
def gIsE (i : Nat) (cs : List Str) (b : Str → Bool) : M D := fun S => match S.sl[i]? with
  | some (some (.exc c)) => if c ∈ cs then some (.bool (b c), S) else none
  | _ => none
theorem rd_isE {K : PySem.W.Frag} {i : Nat} {cs : List Str} {b : Str → Bool} {cw : V} {cv : Value} (hr : ∀ u, RelV cw u → u = cv) (hk : ∀ c ∈ cs, ExcIs K c cv (b c)) {t : TA} (ht : ∀ σ H Q v, σ[i]? = some (some v) → Q [v, cw] H → t σ H Q) : RdE K (tCB (rIsKA K) t) (gIsE i cs b) := by
  intro A F H S σ d S' Q k h post
  unfold gIsE at h
  split at h
  · rename_i c e
    split at h
    · rename_i hc
      cases h
      obtain ⟨a, D, e1, cd, hF⟩ := k.eslot e
      obtain ⟨C, ko⟩ := hk c hc D cd
      refine ht σ H _ (.ref a) e1 ⟨D, C, a, cw, cv, _, rfl, k.sub.same _ _ hF, hr, ko, post A F H _ (List.prefix_refl _) (Same.refl F) k (.bl _)⟩
    · cases h
  · cases h
theorem e_isE (i : Nat) (cs : List Str) (b : Str → Bool) {C : Addr} (hm : X.mg "isinstance" = none) (hC : X.mg x = some (.ref C)) (hk : ∀ c ∈ cs, ExcIs X.K c (.ref C) (b c))
    (hN : X.N[i]? = some y := by rfl) (hv : Vis X.env.scope y := by first | exact Or.inl rfl | exact Or.inr (Or.inl rfl) | exact Or.inr (Or.inr rfl)) (hdy : (y == ("__debug__" : Str)) = false := by decide) (hcd : (y == ("__classdict__" : Str)) = false := by decide)
    (hg : Gl X "isinstance" := by rfl) (hgx : Gl X x := by rfl) (hdx : (x == ("__debug__" : Str)) = false := by decide)
    (he : starEach [.Name y p3, .Name x p2] X.env = (false, eval (.Name y p3) X.env) :: starEach [.Name x p2] X.env := by rfl) (he2 : starEach [.Name x p2] X.env = (false, eval (.Name x p2) X.env) :: starEach [] X.env := by rfl)
    (hpl : (backTo pos (starEach [.Name x p2] X.env)).any (·.1) = false := by rfl) :
    GE X (.Call (.Name "isinstance" p) [.Name y p3, .Name x p2] [] pos) (gIsE i cs b) :=
  ⟨_, pe_callB call_isKA hg hm (by decide +kernel) (pa_cons (pe_var hN hv hdy hcd) (pa_cons (pe_glob (v := .ref C) hgx hC rfl hdx) pa_nil he2) he) (by decide) (by decide) he hpl, rd_isE (cw := .ref C) (fun u h => h) hk fun σ H Q v e q => ⟨v, e, q⟩⟩
theorem e_isEB (i : Nat) (cs : List Str) {T : String} (hm : X.mg "isinstance" = none) (hmx : X.mg x = none) (hb : bootBuiltins x = some (.type T)) (hk : ∀ c ∈ cs, ExcIs X.K c (.type T) true)
    (hN : X.N[i]? = some y := by rfl) (hv : Vis X.env.scope y := by first | exact Or.inl rfl | exact Or.inr (Or.inl rfl) | exact Or.inr (Or.inr rfl)) (hdy : (y == ("__debug__" : Str)) = false := by decide) (hcd : (y == ("__classdict__" : Str)) = false := by decide)
    (hg : Gl X "isinstance" := by rfl) (hgx : Gl X x := by rfl) (hnx : x ≠ "__name__" := by decide) (hdx : (x == ("__debug__" : Str)) = false := by decide)
    (he : starEach [.Name y p3, .Name x p2] X.env = (false, eval (.Name y p3) X.env) :: starEach [.Name x p2] X.env := by rfl) (he2 : starEach [.Name x p2] X.env = (false, eval (.Name x p2) X.env) :: starEach [] X.env := by rfl)
    (hpl : (backTo pos (starEach [.Name x p2] X.env)).any (·.1) = false := by rfl) :
    GE X (.Call (.Name "isinstance" p) [.Name y p3, .Name x p2] [] pos) (gIsE i cs fun _ => true) :=
  ⟨_, pe_callB call_isKA hg hm (by decide +kernel) (pa_cons (pe_var hN hv hdy hcd) (pa_cons (pe_bltn (v := .ty T) hgx hmx hb rfl hnx hdx) pa_nil he2) he) (by decide) (by decide) he hpl, rd_isE (cw := .ty T) (fun u h => h) hk fun σ H Q v e q => ⟨v, e, q⟩⟩
end
/-! ### a def of one exception -/
def spX (K : PySem.W.Frag) (m : Str → Option D) : Sp := fun vs H Q _ => ∃ a c D z, vs = [.ref a] ∧ ClsD K c D ∧ H a = some (XO (.ref D) a) ∧ m c = some z ∧ ∀ H' v, Same H H' → Rp K H' v z → Q v H'
theorem spX_len {K : PySem.W.Frag} {m : Str → Option D} {ps : List Str} (h : ps.length = 1) : ∀ vs H Q E, spX K m vs H Q E → vs.length = ps.length := by
  intro vs H Q E ⟨a, c, D, z, e, _⟩
  rw [e, h]; rfl
def initX (n : Nat) (c : Str) : Sx := ⟨some (.exc c) :: List.replicate (n - 1) none, []⟩
def mX (n : Nat) (g : Sx → Option Out) : Str → Option D := fun c => (g (initX n c)).bind fun o => match o with
  | .nx _ => some .none
  | .rt d _ => some d
  | _ => none
section
variable {P : Program} {w : World} {K : PySem.W.Frag} {mg : Str → Option Value} {base : Heap} {x qual : Str} {st : Stmt} {f : Addr} {fd : FuncData} {N ps : List Str} {k n : Nat} {g : Sx → Option Out}
theorem start_exc {H : Hp} {N : List Str} {a D : Addr} {c : Str} (cd : ClsD K c D) (h : H a = some (XO (.ref D) a)) (hl : 1 ≤ N.length) : Ok K [] H H (initX N.length c) (L2.start N [.ref a]) := by
  refine ⟨Sub.refl H, ?_, rfl, List.nodup_nil, fun i q e => ?_, fun j c h => by simp [initX] at h, fun a h => by simp at h⟩
  · simp [initX, L2.start]
  · cases i with
    | zero =>
      simp [initX] at e
      subst e
      exact ⟨.ref a, start_at rfl, .exc cd h⟩
    | succ i =>
      simp only [initX, List.getElem?_cons_succ] at e
      have := List.mem_of_getElem? e
      rw [List.mem_replicate] at this
      exact nomatch this.2
theorem fn_exc (F : Fun K x qual st f fd) (S : FnScope N ps (defScope st)) (hn : ps.length = 1) (hN : 1 ≤ N.length)
    (body : ∀ (cdv : Value) (A : Around) (outer : List Env) (s : Shared) (H : Hp) (E : XK), Room k (A.deeper (envOfC qual (defScope st) s.heap.objs.size f cdv)) → GSs (cxF P w K mg base N qual st f cdv A outer s H E) AnyB (defBody st) g) :
    FnOk P w K mg base CX0 (k + 1) f fd ps (spX K (mX N.length g)) := by
  refine F.ok S (spX_len hn) fun cdv A outer s H vs Q E hr h => ?_
  obtain ⟨a, c, D, z, rfl, cd, ha, e, post⟩ := h
  obtain ⟨t, p, rd⟩ := (body cdv A outer s H E hr).ex
  refine ⟨t, p, ?_⟩
  obtain ⟨o, e1, e⟩ := bind_inv e
  refine rd H [] [] H H _ (L2.start N [.ref a]) o _ trivial (Same.refl H) (List.prefix_refl _) (start_exc cd ha hN) e1 ?_
  cases o with
  | nx S => cases e; exact fun A1 F1 H1 σ1 s1 p1 k1 => post H1 .non (s1.trans k1.sub.same) .non
  | rt d S => cases e; exact fun A1 F1 H1 σ1 v s1 p1 k1 rv => post H1 v (s1.trans k1.sub.same) (rv.mono k1.sub.same _ _)
  | bk S => cases e
  | ct S => cases e
  | ro j S => cases e
theorem has_exc (D : DefAt K mg x st ps) (S : FnScope N ps (defScope st)) (hn : ps.length = 1) (hN : 1 ≤ N.length) (body : Body P w K mg base N x st k AnyB g) : Has P w K mg base x (k + 1) ps (spX K (mX N.length g)) :=
  let ⟨f, fd, m, F, b⟩ := D; ⟨f, fd, m, F.kp, b, fn_exc F S hn hN (body f)⟩
end
def gCallX (i : Nat) (m : Str → Option D) : M D := fun S => match S.sl[i]? with
  | some (some (.exc c)) => (m c).map fun z => (z, S)
  | _ => none
section
variable {X : Cx} {pos p py : Pos} {x y : Str} {k : Nat} {ps : List Str}
theorem e_callX {m : Str → Option D} (i : Nat) (h : Has X.prog X.w X.K X.mg X.base x k ps (spX X.K m)) (hr : Room k X.A) (hN : X.N[i]? = some y := by rfl) (hv : Vis X.env.scope y := by first | exact Or.inl rfl | exact Or.inr (Or.inl rfl) | exact Or.inr (Or.inr rfl)) (hdy : (y == ("__debug__" : Str)) = false := by decide) (hcd : (y == ("__classdict__" : Str)) = false := by decide)
    (hg : Gl X x := by rfl) (hdb : (x == ("__debug__" : Str)) = false := by decide) (he : starEach [.Name y py] X.env = (false, eval (.Name y py) X.env) :: starEach [] X.env := by rfl) (hpl : (backTo pos (starEach [] X.env)).any (·.1) = false := by rfl) :
    GE X (.Call (.Name x p) [.Name y py] [] pos) (gCallX i m) := by
  obtain ⟨fa, fd, hm, kp, b, F0⟩ := h
  refine ⟨_, pe_callF F0 hr hg hm kp b .nil pass0 (pa_cons (pe_var hN hv hdy hcd) pa_nil he) hdb he hpl, fun A F H S σ d S' Q k h post => ?_⟩
  unfold gCallX at h
  split at h
  · rename_i c e
    obtain ⟨z, h2, h⟩ := Option.map_eq_some_iff.mp h
    cases h
    obtain ⟨a, D, e1, cd, hF⟩ := k.eslot e
    exact ⟨_, e1, F, k.sub, a, c, D, _, rfl, cd, hF, h2, fun G' v sm rv => ⟨fun b xs q => sm b _ q, fun lost => post A G' _ v (List.prefix_refl _) sm (k.mix sm lost) rv⟩⟩
  · cases h
end
/-! ### try: .. except C as n: y = n -/
def tCan (K : PySem.W.Frag) (P : Hp → Prop) (W : WX) (g : Sx → Option (Zr Out)) : TS := fun E σ H => ∃ B A0 A F S r, P B ∧ Same B F ∧ A0 <+: A ∧ Ok K A F H S σ ∧ g S = some r ∧ (∀ o, r = .ok o → OutP K B A0 o E) ∧ (∀ e, r = .error e → ZErr K W A0 B e)
def qTry (cs : List Str) (i j : Nat) (g : Sx → Option (Zr Out)) : Sx → Option Out := fun S => (g S).bind fun r => match r with
  | .ok o => some o
  | .error e => if e.1 ∈ cs ∧ i < e.2.sl.length then some (.nx ⟨(e.2.sl.set j (some (.exc e.1))).set i none, e.2.os⟩) else none
section
variable {X : Cx} {P : Hp → Prop} {body : List Stmt} {g : Sx → Option (Zr Out)} {pos p p1 p2 p3 p4 p5 : Pos} {x n y : Str} {W : WX}
theorem pss_can (h : GZs X P W body g) : PSs X body (tCan X.K P W g) := by
  obtain ⟨t, p, r⟩ := h.ex
  exact ⟨fun pins s σ H E I ⟨B, A0, A, F, S, r0, hP, s1, p1, k, e, post, err⟩ => p.run pins s σ H E I (r B A0 A F H S σ r0 E hP s1 p1 k e post err)⟩
theorem Ok.clr {K : PySem.W.Frag} {A : List Addr} {F H : Hp} {S : Sx} {σ : L2.St} (k : Ok K A F H S σ) (i : Nat) : Ok K A F H ⟨S.sl.set i none, S.os⟩ (σ.set i none) := by
  refine ⟨k.sub, by rw [List.length_set, List.length_set]; exact k.len, k.alen, k.nd, fun j r e => ?_, k.cell, k.trk⟩
  by_cases h : i = j
  · subst h
    rw [List.getElem?_set] at e
    split at e
    · split at e <;> cases e
    · exact absurd rfl ‹¬ _›
  · rw [List.getElem?_set_ne h] at e
    rw [List.getElem?_set_ne h]
    exact k.rslot j r e
theorem s_try (cs : List Str) (i j : Nat) {D0 : Addr} (hN : X.N.Nodup) (hm : X.mg x = some (.ref D0)) (hx : ∀ c ∈ cs, ∀ D, ClsD X.K c D → PySem.W.exmOne X.K (.ref D) (.ref D0) = some true)
    (hb : ∀ (W : WX) (pn : List (Addr × Obj)) (xe : Value → Shared → Prop), Takes (X.tr pn xe) W → GZs (X.tr pn xe) P W body g)
    (hij : i ≠ j := by decide) (hi : X.N[i]? = some n := by rfl) (hj : X.N[j]? = some y := by rfl) (hex : X.ex = [] := by rfl) (hs : X.stack = X.env :: X.outer := by rfl) (hf : X.env.frame = some X.env.locals := by rfl)
    (hln : X.env.kindOf n = some .local := by rfl) (hgx : Gl X x := by rfl) (hdx : (x == ("__debug__" : Str)) = false := by decide)
    (hv : Vis X.env.scope n := by first | exact Or.inl rfl | exact Or.inr (Or.inl rfl) | exact Or.inr (Or.inr rfl)) (hdy : (n == ("__debug__" : Str)) = false := by decide) (hcd : (n == ("__classdict__" : Str)) = false := by decide)
    (hy : Loc X.env.scope y := by first | exact Or.inl rfl | exact Or.inr rfl) (hyl : X.env.scope.names.lookup y = some .local := by rfl) (hsw : swapsWith (.Name n p5) (some (.Name y p4)) p3.line X.env = pure false := by rfl) :
    GS X P (.Try body [.ExceptHandler (some (.Name x p)) (some n) [.Assign [.Name y p4] (.Name n p5) p3] p2] [] [] p1) (qTry cs i j g) := by
  refine ⟨_, ps_try_kept (i := i) (c := .ref D0) (Wout := fun _ _ _ _ => False) hex hs hf hN hi hln ⟨hgx, hdx, .inl hm⟩ takes0 (tb := fun W => tCan X.K P W g) (ts := fun _ _ => tAsg (tVar i) (gName j))
    (fun W pn xe tk _ => pss_can (hb W pn xe tk)) (fun a oe cls pn => pss_one (ps_set (X := X.suite a ((a, oe) :: pn)) hN hj hy (pe_var (X := X.suite a ((a, oe) :: pn)) hi hv hdy hcd) hsw (.inr hyl))), fun B A0 A F H S σ o E hP s p k e post => ?_⟩
  obtain ⟨r0, e1, e⟩ := bind_inv e
  refine ⟨B, A0, A, F, S, r0, hP, s, p, k, e1, fun o0 e0 => ?_, fun er e0 => ?_⟩
  · subst e0
    cases e
    exact post
  · subst e0
    simp only at e
    split at e
    case isFalse => cases e
    rename_i hc0
    obtain ⟨hc, hl0⟩ := hc0
    cases e
    intro A' F' H' σ' D p' s' k' cd
    refine ⟨true, hx _ hc D cd, fun _ => ⟨rfl, fun a ha => ?_⟩, (fun z => nomatch z)⟩
    have fa : F' a = none := k'.sub.none ha
    have k2 : Ok X.K A' (upd F' a (XO (.ref D) a)) (upd H' a (XO (.ref D) a)) er.2 σ' := k'.laid ha
    have rr : Rr X.K A' (upd F' a (XO (.ref D) a)) (.ref a) (.exc er.1) := .exc cd upd_same
    have hl : i < σ'.length := by rw [← k'.len]; exact hl0
    refine ⟨.ref a, ?_, ?_⟩
    · rw [List.getElem?_set_self hl]
    · refine post A' (upd F' a (XO (.ref D) a)) _ _ (s'.trans (same_upd fa)) p' ?_
      have k3 := (k2.setR (i := j) rr).clr i
      have es : ((σ'.set i (some (.ref a))).set j (some (.ref a))).set i none = (σ'.set j (some (.ref a))).set i none := by
        rw [List.set_comm _ _ hij, List.set_set]
      show Ok X.K A' (upd F' a (XO (.ref D) a)) (upd H' a (XO (.ref D) a)) _ (((σ'.set i (some (.ref a))).set j (some (.ref a))).set i none)
      rw [es]
      exact k3
end
end Fu

set_option maxHeartbeats 4000000
namespace Fu
open PySem PySem.Spec PyProof.Rows L2 RZ
/-! ### the facts of the classes -/
def TryT (K : PySem.W.Frag) (mg : Str → Option Value) (x : Str) (cs : List Str) : Prop := ∃ D0, mg x = some (.ref D0) ∧ ∀ c ∈ cs, ∀ D, ClsD K c D → PySem.W.exmOne K (.ref D) (.ref D0) = some true
def LookT (K : PySem.W.Frag) (mg : Str → Option Value) (x : Str) (cs : List Str) (b : Str → Bool) : Prop := ∃ D, mg x = some (.ref D) ∧ ∀ c ∈ cs, ExcIs K c (.ref D) (b c)
theorem cls_same {K : PySem.W.Frag} {c : Str} {f D : Addr} (a : PySem.W.nsIn K mainGlobals c = some (some (.ref f))) (d : ClsD K c D) : D = f := by
  unfold ClsD at d
  rw [a] at d
  cases d; rfl
theorem ExcIs.mk {K : PySem.W.Frag} {c : Str} {f : Addr} {cv : Value} {b b' : Bool} (a : PySem.W.nsIn K mainGlobals c = some (some (.ref f))) (e : ExcC K f) (k : PySem.W.kitOne K (.ref f) cv = some b') (h : b' = b) : ExcIs K c cv b := fun D d => by
  cases cls_same a d
  exact ⟨e, h ▸ k⟩
theorem cls_one {K : PySem.W.Frag} {c : Str} {f : Addr} {cv : Value} (a : PySem.W.nsIn K mainGlobals c = some (some (.ref f))) (k : PySem.W.exmOne K (.ref f) cv = some true) : ∀ D, ClsD K c D → PySem.W.exmOne K (.ref D) cv = some true := fun D d => by
  cases cls_same a d
  exact k
theorem alls_nil {α : Type} {P : α → Prop} : ∀ c ∈ ([] : List α), P c := fun _ h => nomatch h
theorem alls_cons {α : Type} {P : α → Prop} {a : α} {l : List α} (h : P a) (t : ∀ c ∈ l, P c) : ∀ c ∈ a :: l, P c := List.forall_mem_cons.mpr ⟨h, t⟩
theorem sub_self {K : PySem.W.Frag} {C : Addr} {bm : List Value} {n : String} (x : PySem.W.excIn K C bm n = true) : PySem.W.subIn K (.ref C) (.ref C) = some true := by
  unfold PySem.W.excIn at x
  split at x
  · rename_i dict cd sl e
    split at x
    · rename_i C' bm' h1 h2 h3 n' h4 em _
      simp only [Bool.and_eq_true, beq_iff_eq] at x
      obtain ⟨⟨⟨⟨⟨rfl, _⟩, _⟩, _⟩, _⟩, _⟩ := x
      simp only [PySem.W.subIn, PySem.W.mroIn, PySem.W.clsIn, e, Option.bind_some, em]
      simp
    · cases x
  · cases x
theorem kit_own {K : PySem.W.Frag} {D C : Addr} {b : Bool} {bm : List Value} {n : String} (x : PySem.W.excIn K D bm n = true) (iP : PySem.W.isClsIn K C = true) (tP : PySem.W.typeIn K (.ref C) = some (.type "type")) (sP : PySem.W.subIn K (.ref D) (.ref C) = some b) : PySem.W.kitOne K (.ref D) (.ref C) = some b := by
  unfold PySem.W.kitOne
  split
  · rename_i h
    have h := eq_of_beq h
    cases h
    rw [sub_self x] at sP
    exact sP
  · unfold PySem.W.kitCls
    have i2 : (PySem.W.clsIn K C).isSome = true := iP
    simp [i2, tP, sP]
theorem kit_bt {K : PySem.W.Frag} {D : Addr} {T : String} {b : Bool} (m : PySem.W.kitMeta T = true) (sP : PySem.W.subIn K (.ref D) (.type T) = some b) : PySem.W.kitOne K (.ref D) (.type T) = some b := by
  unfold PySem.W.kitOne
  rw [if_neg (by simp)]
  show (if PySem.W.kitMeta T = true then PySem.W.subIn K (.ref D) (.type T) else none) = some b
  rw [if_pos m]; exact sP
theorem exm_own {K : PySem.W.Frag} {D C : Addr} {b : Bool} (bP : PySem.W.subIn K (.ref C) (.type "BaseException") = some true) (iP : PySem.W.isClsIn K C = true) (tP : PySem.W.typeIn K (.ref C) = some (.type "type")) (sP : PySem.W.subIn K (.ref D) (.ref C) = some b) : PySem.W.exmOne K (.ref D) (.ref C) = some b := by
  unfold PySem.W.exmOne
  rw [if_pos (by rw [bP]; rfl)]
  unfold PySem.W.kitCls
  have i2 : (PySem.W.clsIn K C).isSome = true := iP
  simp [i2, tP, sP]
section
variable {X : Cx} {pos p p2 p3 p1 p4 p5 : Pos} {y x n : Str} {P : Hp → Prop} {body : List Stmt} {g : Sx → Option (Zr Out)}
theorem e_isET (i : Nat) {cs : List Str} {b : Str → Bool} (hm : X.mg "isinstance" = none) (T : LookT X.K X.mg x cs b)
    (hN : X.N[i]? = some y := by rfl) (hv : Vis X.env.scope y := by first | exact Or.inl rfl | exact Or.inr (Or.inl rfl) | exact Or.inr (Or.inr rfl)) (hdy : (y == ("__debug__" : Str)) = false := by decide) (hcd : (y == ("__classdict__" : Str)) = false := by decide)
    (hg : Gl X "isinstance" := by rfl) (hgx : Gl X x := by rfl) (hdx : (x == ("__debug__" : Str)) = false := by decide)
    (he : starEach [.Name y p3, .Name x p2] X.env = (false, eval (.Name y p3) X.env) :: starEach [.Name x p2] X.env := by rfl) (he2 : starEach [.Name x p2] X.env = (false, eval (.Name x p2) X.env) :: starEach [] X.env := by rfl)
    (hpl : (backTo pos (starEach [.Name x p2] X.env)).any (·.1) = false := by rfl) :
    GE X (.Call (.Name "isinstance" p) [.Name y p3, .Name x p2] [] pos) (gIsE i cs b) :=
  let ⟨_, hC, hk⟩ := T; e_isE i cs b hm hC hk hN hv hdy hcd hg hgx hdx he he2 hpl
theorem s_tryT (i j : Nat) {cs : List Str} (hN : X.N.Nodup) (T : TryT X.K X.mg x cs)
    (hb : ∀ (W : WX) (pn : List (Addr × Obj)) (xe : Value → Shared → Prop), Takes (X.tr pn xe) W → GZs (X.tr pn xe) P W body g)
    (hij : i ≠ j := by decide) (hi : X.N[i]? = some n := by rfl) (hj : X.N[j]? = some y := by rfl) (hex : X.ex = [] := by rfl) (hs : X.stack = X.env :: X.outer := by rfl) (hf : X.env.frame = some X.env.locals := by rfl)
    (hln : X.env.kindOf n = some .local := by rfl) (hgx : Gl X x := by rfl) (hdx : (x == ("__debug__" : Str)) = false := by decide)
    (hv : Vis X.env.scope n := by first | exact Or.inl rfl | exact Or.inr (Or.inl rfl) | exact Or.inr (Or.inr rfl)) (hdy : (n == ("__debug__" : Str)) = false := by decide) (hcd : (n == ("__classdict__" : Str)) = false := by decide)
    (hy : Loc X.env.scope y := by first | exact Or.inl rfl | exact Or.inr rfl) (hyl : X.env.scope.names.lookup y = some .local := by rfl) (hsw : swapsWith (.Name n p5) (some (.Name y p4)) p3.line X.env = pure false := by rfl) :
    GS X P (.Try body [.ExceptHandler (some (.Name x p)) (some n) [.Assign [.Name y p4] (.Name n p5) p3] p2] [] [] p1) (qTry cs i j g) :=
  let ⟨_, hm, hx⟩ := T; s_try cs i j hN hm hx hb hij hi hj hex hs hf hln hgx hdx hv hdy hcd hy hyl hsw
theorem t_notN (i : Nat) {j} (hN : X.N[i]? = some y := by rfl) (hv : Vis X.env.scope y := by first | exact Or.inl rfl | exact Or.inr (Or.inl rfl) | exact Or.inr (Or.inr rfl)) (hdy : (y == ("__debug__" : Str)) = false := by decide) (hcd : (y == ("__classdict__" : Str)) = false := by decide) :
    GT X (.Compare (.Name y p) [.IsNot] [.Constant .none j p2] pos) (gB (gNotN i)) := ⟨_, pt_cmpR op_notN (pe_var hN hv hdy hcd) pe_non rfl, rd_test (rd_notN i)⟩
end
end Fu

set_option maxHeartbeats 4000000
namespace L2
open PySem PySem.Spec PyProof.Rows
open Fu (XO)
/-- isinstance(e, (C, ..)), e an exception that is tracked -/
def rIsKT (K : PySem.W.Frag) : List V → Hp → VK → Prop := fun xs H Q => ∃ (D a tp : Addr) (Cs : List Addr) (b : Bool), ExcC K D ∧ xs = [.ref a, .ref tp] ∧ H a = some (XO (.ref D) a) ∧ H tp = some (.tup (Cs.map V.ref)) ∧ PySem.W.kitAny K (.ref D) (Cs.map Value.ref) = some b ∧ Q (.bl b) H
theorem vals_refsC : ∀ {Cs : List Addr} {us : List Value}, Vals (Cs.map V.ref) us → us = Cs.map Value.ref
  | [], _, h => by cases h; rfl
  | C :: Cs, _, h => by
    cases h with
    | cons h1 h2 => rw [vals_refsC h2]; cases (show _ = Value.ref C from h1); rfl
theorem call_isKT {X : Cx} : CallR X (.builtin "isinstance") (rIsKT X.K) := by
  intro pins s σ H xs us Q I r ⟨D, a, tp, Cs, b, C, e, hX, hT, ek, q⟩
  subst e
  cases r with
  | cons rx rr =>
    cases rr with
    | cons rt rr =>
      cases rr
      cases rx
      cases rt
      obtain ⟨o, fs, g1, ⟨g2, g3⟩, g4⟩ := (show ObjOk X.prog X.w H s.heap a (XO (.ref D) a) from I.hok a _ hX).1
      have J : PySem.W.InstAt s.heap a o D none := by
        obtain ⟨oc, od, oda, osl⟩ := o
        dsimp only at g2 g3 g4
        subst g2 g3 g4
        exact ⟨g1, rfl, rfl, trivial⟩
      obtain ⟨_, its, rv, ot, t1, t2, n, t3⟩ := (show ObjOk X.prog X.w H s.heap tp (.tup (Cs.map V.ref)) from I.hok tp _ hT)
      have hi := vals_refsC rv
      subst hi
      obtain ⟨oc, od, oda, osl⟩ := ot
      dsimp only at t2 t3
      subst t2 t3
      exact PySem.W.kia_tup (PySem.W.handS_kitx_exc C.hg C.hk C.hs C.hd C.ha C.hn C.ht C.hm) I.kIn J t1 ek (fun z => nomatch z) fun tk => ⟨.bl b, H, I.kept (t' := tk) fun _ _ z => z, rfl, q⟩
end L2
namespace Fu
open PySem PySem.Spec PyProof.Rows L2 RZ
/-! ### looks by many classes at once -/
structure AnyT (X : Cx) (es : List Expr) (cs : List Str) (b : Str → Bool) : Prop where
  ex : ∃ (Cs : List Addr) (t : TA), PA X es t ∧ (∀ σ H Q, Q (Cs.map V.ref) H → t σ H Q) ∧ (∀ c ∈ cs, ∀ D, ClsD X.K c D → PySem.W.kitAny X.K (.ref D) (Cs.map Value.ref) = some (b c)) ∧ Cs.length = es.length
section
variable {X : Cx} {pos p p2 p3 p4 : Pos} {y x : Str} {es : List Expr} {cs : List Str} {b b2 : Str → Bool}
theorem any_nil : AnyT X [] cs (fun _ => false) := ⟨[], _, pa_nil, fun σ H Q q => q, (fun c _ D _ => kitAny_nil), rfl⟩
theorem any_cons (T : LookT X.K X.mg x cs b) (h : AnyT X es cs b2) (hgx : Gl X x := by rfl) (hdx : (x == ("__debug__" : Str)) = false := by decide) (he : starEach (.Name x p :: es) X.env = (false, eval (.Name x p) X.env) :: starEach es X.env := by rfl) :
    AnyT X (.Name x p :: es) cs (fun c => b c || b2 c) := by
  obtain ⟨C, hC, hk⟩ := T
  obtain ⟨Cs, t, pa, ht, ha, hn⟩ := h.ex
  refine ⟨C :: Cs, _, pa_cons (pe_glob (v := .ref C) hgx hC rfl hdx) pa he, fun σ H Q q => ht σ H _ q, fun c hc D cd => ?_, by rw [List.length_cons, List.length_cons, hn]⟩
  have k1 := (hk c hc D cd).2
  have k2 := ha c hc D cd
  refine kitAny_cons k1 (fun e1 => ?_) (fun e1 => by rw [e1]; rfl)
  rw [e1]; exact k2
theorem e_isAny (i : Nat) (hm : X.mg "isinstance" = none) (T : AnyT X es cs b) (ex : ∀ c ∈ cs, ∀ D, ClsD X.K c D → ExcC X.K D) {kx}
    (hl : es.length ≤ 100 := by decide)
    (hN : X.N[i]? = some y := by rfl) (hv : Vis X.env.scope y := by first | exact Or.inl rfl | exact Or.inr (Or.inl rfl) | exact Or.inr (Or.inr rfl)) (hdy : (y == ("__debug__" : Str)) = false := by decide) (hcd : (y == ("__classdict__" : Str)) = false := by decide)
    (hg : Gl X "isinstance" := by rfl)
    (he : starEach [.Name y p3, .Tuple es kx p4] X.env = (false, eval (.Name y p3) X.env) :: starEach [.Tuple es kx p4] X.env := by rfl) (he2 : starEach [.Tuple es kx p4] X.env = (false, eval (.Tuple es kx p4) X.env) :: starEach [] X.env := by rfl)
    (hpl : (backTo pos (starEach [.Tuple es kx p4] X.env)).any (·.1) = false := by rfl) :
    GE X (.Call (.Name "isinstance" p) [.Name y p3, .Tuple es kx p4] [] pos) (gIsE i cs b) := by
  obtain ⟨Cs, t, pa, ht, ha, hn⟩ := T.ex
  refine ⟨_, pe_callB call_isKT hg hm (by decide +kernel) (pa_cons (pe_var hN hv hdy hcd) (pa_cons (pe_tup pa) pa_nil he2) he) (by decide) (by decide) he hpl, fun A F H S σ d S' Q k h post => ?_⟩
  unfold gIsE at h
  split at h
  · rename_i c e
    split at h
    · rename_i hc
      cases h
      obtain ⟨a, D, e1, cd, hF⟩ := k.eslot e
      refine ⟨.ref a, e1, ht σ H _ ⟨?_, fun q hq => ?_⟩⟩
      · rw [List.length_map, hn]
        exact Nat.le_trans hl (by decide)
      · have k2 := k.laid (o := .tup (Cs.map V.ref)) hq
        have s2 : Same F (upd F q (.tup (Cs.map V.ref))) := same_upd (k.sub.none hq)
        exact ⟨D, a, q, Cs, _, ex c hc D cd, rfl, k2.sub.same _ _ (s2 _ _ hF), upd_same, ha c hc D cd, post A _ _ _ (List.prefix_refl _) s2 k2 (.bl _)⟩
    · cases h
  · cases h
end
/-! ### two new lists at once -/
section
variable {X : Cx} {P : Hp → Prop} {pos py : Pos} {x y : Str} {a b : Expr} {ga gb ge : M D}
end
/-! ### more of what may raise -/
section
variable {X : Cx} {W : WX} {pos p : Pos} {x : Str} {e : Expr} {es : List Expr} {id : String} {k : Nat}
end
end Fu

set_option maxHeartbeats 4000000
namespace L2
open PySem PySem.Spec PyProof.Rows
open Fu (dictO)
/-! ### {t: v}, t a tuple of ints and texts: a dict, what it holds is not told -/
end L2
namespace Fu
open PySem PySem.Spec PyProof.Rows L2 RZ
section
variable {X : Cx} {pos : Pos} {e v : Expr} {ge gv : M D} {k : Nat}
end
end Fu

set_option maxHeartbeats 4000000
namespace Fu
open PySem PySem.Spec PyProof.Rows L2
section
variable {X : Cx} {pos apos p p2 sp c0 c1 : Pos} {a e o : Expr} {ga ge go : M D} {k : Nat} {y z : Str} {i : Int} {j j0 j1 : Nat}
/-! ### line[2].replace("b", "a"): the index gives out a token -/
/-! ### letters.index(sign) of a text -/
end
end Fu

set_option maxHeartbeats 4000000
namespace PySem
open Sem (wp)
set_option maxHeartbeats 4000000 in
theorem meets_enumerate_newB0 {v : Value} {o : Obj} {H : Heap → Prop} (B : Begins v o H) :
    Meets (Builtin.«enumerate.__new__» ⟨[.type "enumerate", v], []⟩) (fun _ R s => H s.heap ∧
      R (.ok (.ret (.ref (s.heap.push o).objs.size))) { s with heap := (s.heap.push o).push { cls := .type "enumerate", data := .fields #[.none, .bool false, .ref s.heap.objs.size, rawInt 0, .none, .none] } }) :=
  .of_wp fun prog w A R s h => by
    obtain ⟨hp, g, d, tk, os⟩ := s; obtain ⟨h1, h⟩ := h
    have hsub := sub_enumerate
    have q1 : ∀ {A' : Around} {E : Value → Shared → Prop} {Q : Value → Shared → Prop}, Q (.ref hp.objs.size) ⟨hp.push o, g, d, tk, os⟩ → wpAny (model prog w) A' (pyIter v) Q E ⟨hp, g, d, tk, os⟩ :=
      fun q => B.iter prog w _ _ ⟨hp, g, d, tk, os⟩ _ h1 q
    wp_walk using q1
    refine wpAny_stack_any fun st => wpAny_pure ?_
    split
    · rename_i c _ _ _ _ _
      cases (c == Value.type "enumerate")
      · wp_walk using q1
        exact ⟨_, rfl, h⟩
      · wp_walk using q1
        exact ⟨_, rfl, h⟩
    · wp_walk using q1
      exact ⟨_, rfl, h⟩
section
variable {prog : Program} {w : World} {A : Around} {E : Value → Shared → Prop} {s : Shared}
theorem enum_begins0 {v : Value} {o : Obj} {H : Heap → Prop} {Q : Value → Shared → Prop} (B : Begins v o H) (h1 : H s.heap)
    (h : ∀ h', IsEnum h' (s.heap.objs.size + 1) s.heap.objs.size 0 .none → h'.get? s.heap.objs.size = some o → h'.objs.size = s.heap.objs.size + 2 →
      (∀ b o, s.heap.get? b = some o → h'.get? b = some o) → Q (.ref (s.heap.objs.size + 1)) { s with heap := h' }) :
    wpAny (model prog w) A (call (.type "enumerate") [v]) Q E s := by
  refine callType_new F.called_enumerate (by decide) (F.typeCall_enumerate_1 _) (F.newCall_enumerate_1 _) (fun obj => F.args_object_init_2 obj _) F.entry_enumerate_new
    (meets_enumerate_newB0 B) ⟨h1, ?_⟩
  have hz : (s.heap.push o).objs.size = s.heap.objs.size + 1 := Heap.size_push ..
  show _ ∧ _
  rw [hz]
  have he : IsEnum ((s.heap.push o).push { cls := .type "enumerate", data := .fields #[.none, .bool false, .ref s.heap.objs.size, rawInt 0, .none, .none] }) (s.heap.objs.size + 1) s.heap.objs.size 0 .none := by
    have := Heap.get?_push_size (s.heap.push o) (o := { cls := .type "enumerate", data := .fields #[.none, .bool false, .ref s.heap.objs.size, rawInt 0, .none, .none] }) rfl
    rw [hz] at this; exact this
  refine ⟨⟨_, he, rfl⟩, h _ he (Heap.get?_push_of_some _ (Heap.get?_push_size _ B.free)) (by rw [Heap.size_push, hz]) fun b o x => Heap.get?_push_of_some _ (Heap.get?_push_of_some _ x)⟩
theorem wpAny_pyNext_enumT_end {e it l : Addr} {i : Nat} {items : Array Value} {old : Value} {Q : Option Value → Shared → Prop} (hh : A.handled = none)
    (he : IsEnum s.heap e it i old) (hit : s.heap.IsTupleIter it l i) (hl : s.heap.IsTuple l items) (hx : items[i]? = none)
    (hQ : ∀ h', Heap.ExtBut it s.heap h' → Q none { s with heap := h' }) : wpAny (model prog w) A (pyNext (.ref e)) Q E s := by
  have hT : s.TypeIs (.ref e) "enumerate" := ⟨_, he, rfl⟩
  unfold pyNext
  refine wpAny_bind (wpAny_attempt (wpAny_callSpecial?_slot (name := Str.ofString "__next__") hT F.slot_enumerate_next
    (wpAny_call_entry F.slot_enumerate_next hT F.entry_enumerate_next ?_ (F.args_enumerate_next_1 _))))
  show wpAny _ _ (field (.ref e) 2 >>= _) _ _ _
  refine wpAny_bind (wpAny_field he rfl (x := .ref it) rfl ?_)
  refine wpAny_bind (wpAny_nextOf_tuple_end hh hit hl hx fun h' x he' hx' => ?_)
  obtain ⟨o, ho, hc⟩ := hx'
  refine wpAny_bind (wpAny_isInstance (T := "StopIteration") (b := true) ⟨o, ho, hc⟩ isSubtype_stop ?_)
  exact wpAny_pure (hQ _ he')
end
end PySem
namespace L2
open PySem PySem.Spec PyProof.Rows
/-- the tuple at a, each item in a new pair -/
def IteT (K : PySem.W.Frag) (a : Addr) : It :=
  ⟨fun i H => ∃ (xs : List V) (x : V), SqT K H a xs ∧ xs[i]? = some x, fun i H v H' => ∃ T x, v = .ref T ∧ H T = none ∧ H' = upd H T (.tup [.int (i : Nat), x]) ∧ ∀ xs, SqT K H a xs → xs[i]? = some x, fun i H => ∃ xs : List V, SqT K H a xs ∧ xs.length ≤ i⟩
theorem turn_enumT {P : Program} {w : World} {K : PySem.W.Frag} {elts : List Expr} {kk : Nat} {tpos : Pos} (a e it : Addr) :
    Turn P w K (.Tuple elts kk tpos) (IteT K a) [e, it] e (fun i h => (∃ old, IsEnum h e it ((i : Nat) : Int) old) ∧ h.IsTupleIter it a i ∧ e ≠ it ∧ e ≠ a ∧ a ≠ it) where
  mem := by simp
  obj := fun i h st b hb => by
    obtain ⟨⟨old, he⟩, ⟨o, ho, hc, hd⟩, _⟩ := st
    have e' : b = e ∨ b = it := by simpa using hb
    rcases e' with z | z
    · rw [z]; exact ⟨_, he, fun v q => nomatch q⟩
    · rw [z]; exact ⟨o, ho, fun v q => by rw [hd] at q; cases q⟩
  keep := fun i h h' st k => let ⟨⟨old, he⟩, hi, hne⟩ := st; ⟨⟨old, k e (by simp) _ he⟩, hi.at fun o q => k it (by simp) o q, hne⟩
  item := by
    intro X hP hw hK hc i pins s σ H E I hf st hg
    subst hP hw hK
    obtain ⟨⟨old, he⟩, hit, hne, hea, hai⟩ := st
    obtain ⟨xs, x, hq, hx⟩ := hg
    obtain ⟨its, rv, p, hz⟩ := I.tuple hq
    obtain ⟨u, hu, ru⟩ := rv.get hx
    have hel : e < s.heap.objs.size := Heap.lt_size he
    have hil : it < s.heap.objs.size := by obtain ⟨_, q, _⟩ := hit; exact Heap.lt_size q
    have hlt : i < its.toArray.size := by
      have := (List.getElem?_eq_some_iff.mp hu).1
      simpa using this
    refine PySem.wpAny_with_toks (n := s.toks) (Nat.le_refl _) ?_
    refine wpAny_pyNext_enum_itemD (Draws.tuple (prog := X.prog) (w := X.w) (A := X.A.in1) (show X.A.in1.handled = none from I.ok.hd hc) it a hai its.toArray) he ⟨hit, p⟩ hlt hne (by simp [hne, hea]) fun x' h' tk hP ho hst hT hsz hk htk => ?_
    have ex : x' = u := by
      have hu' : its.toArray[i]? = some u := by simpa using hu
      rw [hu'] at hP; exact (Option.some.inj hP).symm
    subst ex
    obtain ⟨hit', _⟩ := hst
    refine ⟨_, rfl, wpAny_letOwnedTupleGo_enum (s := { s with heap := h', toks := tk + 1 }) ho fun h'' he' sb => ?_⟩
    have hT2 : h''.get? s.heap.objs.size = some { cls := .type "tuple", data := .seq #[.int i tk, x'] } := (sb.2 _ (Nat.ne_of_gt hel)).trans hT
    have new : ObjOk X.prog X.w (upd H s.heap.objs.size (.tup [.int (i : Nat), x])) h'' s.heap.objs.size (.tup [.int (i : Nat), x]) :=
      ⟨by show 2 ≤ sizeLine; decide, [.int i tk, x'], .cons ⟨_, rfl⟩ (.cons ru .nil), ⟨_, hT2, rfl, _, rfl⟩⟩
    have I1 : Inv X pins σ (upd H s.heap.objs.size (.tup [.int (i : Nat), x])) { s with heap := h'', toks := tk + 1 } :=
      I.turnedNew (ch := [e, it]) (fun b ob hb q => (sb.2 b (fun z => hb (by simp [z]))).trans (hk b ob (fun z => hb (by simp [z])) (fun z => hb (by simp [z])) q)) hf (Nat.le_refl _) new
    refine ⟨.ref s.heap.objs.size, _, I1, rfl, ⟨_, x, rfl, I.hok.fresh (Nat.le_refl _), rfl, fun ys hy => by rw [I.tuple_inj hy hq]; exact hx⟩, ⟨⟨x', ?_⟩, hit'.at fun o q => (sb.2 it (Ne.symm hne)).trans q, hne, hea, hai⟩, fun b hb => ?_⟩
    · have e1 : ((i + 1 : Nat) : Int) = (i : Int) + 1 := by omega
      rw [e1]; exact he'
    · have hb' : b < s.heap.objs.size := by
        have e' : b = e ∨ b = it := by simpa using hb
        rcases e' with z | z
        · rw [z]; exact hel
        · rw [z]; exact hil
      rw [upd_ne (Nat.ne_of_lt hb')]
      exact (hf b hb).1
  done := by
    intro X hP hw hK hc i pins s σ H E I hf st hg
    subst hP hw hK
    obtain ⟨⟨old, he⟩, hit, hne⟩ := st
    obtain ⟨xs, hq, hx⟩ := hg
    obtain ⟨its, rv, p, hz⟩ := I.tuple hq
    obtain ⟨f0, f1, f2, f3, f4, f5⟩ := hf it (by simp)
    have hl := rv.length
    exact wpAny_pyNext_enumT_end (I.ok.hd hc) he hit p (by simp; omega) fun h' eb => ⟨rfl, I.turned (t' := s.toks) (fun b o hb q => eb b o hb q) f0 f1 f3 f4 f5⟩
  self := fun A i s Q E st h => let ⟨⟨_, he⟩, _⟩ := st; wpAny_pyIter_enum he h
def iEnumA (K : PySem.W.Frag) (ta : TA) : TI := fun σ H R => ta σ H fun vs H1 => ∃ a xs, vs = [.ref a] ∧ ((SqL K H1 a xs ∧ R (Ite K a) H1) ∨ (SqT K H1 a xs ∧ R (IteT K a) H1))
theorem pi_enumA {X : Cx} {e : Expr} {ta : TA} {p pos tpos : Pos} {elts : List Expr} {kk : Nat} (hg : Gl X "enumerate") (hm : X.mg "enumerate" = none) (ha : PA X [e] ta) (hs : starEach [e] X.env = [(false, eval e X.env)] := by rfl) :
    PI X (.Tuple elts kk tpos) (.Call (.Name "enumerate" p) [e] [] pos) (iEnumA X.K ta) := by
  refine ⟨fun pins s σ H R I h => ?_⟩
  refine Call_ (ld_blt I hg hm boot_enumerate (PyProof.Rows.callWith_type1 (thn (ha.run pos pins s σ H _ I h) fun us s1 ⟨vs, H1, I1, r1, q1⟩ => ?_) hs rfl))
  obtain ⟨a, xs, ex, q1⟩ := q1
  subst ex
  cases r1 with
  | cons r rr =>
    cases rr
    cases r
    have hlt : ∀ b, b = s1.heap.objs.size + 1 ∨ b = s1.heap.objs.size → s1.heap.objs.size ≤ b := fun b e' => by
      rcases e' with z | z
      · rw [z]; exact Nat.le_add_right _ _
      · rw [z]; exact Nat.le_refl _
    rcases q1 with ⟨hq, q⟩ | ⟨hq, q⟩
    · obtain ⟨its, rv, p', hz⟩ := I1.list hq
      refine call_enumerate_list p'.isList fun h' he hit hsz hk => wpAny_pyIter_enum he ?_
      have I2 : Inv X pins σ H1 { s1 with heap := h' } := I1.kept (t' := s1.toks) hk
      refine ⟨s1.heap.objs.size + 1, [s1.heap.objs.size + 1, s1.heap.objs.size], _, _, H1, rfl, I2, turn_enum a (s1.heap.objs.size + 1) s1.heap.objs.size, ⟨⟨.none, he⟩, hit, Nat.succ_ne_self _⟩, fun b hb => ?_, q⟩
      have hle := hlt b (by simpa using hb)
      exact I1.fpOk hle (I1.hok.fresh hle)
    · obtain ⟨its, rv, p', hz⟩ := I1.tuple hq
      have hal : a < s1.heap.objs.size := by obtain ⟨_, q, _⟩ := p'; exact Heap.lt_size q
      refine enum_begins0 (begins_tuple a its.toArray) p' fun h' he hit hsz hk => wpAny_pyIter_enum he ?_
      have I2 : Inv X pins σ H1 { s1 with heap := h' } := I1.kept (t' := s1.toks) hk
      refine ⟨s1.heap.objs.size + 1, [s1.heap.objs.size + 1, s1.heap.objs.size], _, _, H1, rfl, I2, turn_enumT a (s1.heap.objs.size + 1) s1.heap.objs.size, ⟨⟨.none, he⟩, ⟨_, hit, rfl, rfl⟩, Nat.succ_ne_self _, Nat.ne_of_gt (Nat.lt_succ_of_lt hal), Nat.ne_of_lt hal⟩, fun b hb => ?_, q⟩
      have hle := hlt b (by simpa using hb)
      exact I1.fpOk hle (I1.hok.fresh hle)
end L2
namespace Fu
open PySem PySem.Spec PyProof.Rows L2
theorem walk_enumT {K : PySem.W.Frag} {F : Hp} {a : Addr} {vs : List V} {xs : List D} (h : SqT K F a vs) (r : Rps K F vs xs) : Walk K F (IteT K a) (enumD 0 xs) where
  stop := fun i H s hi => ⟨vs, sqT_same s h, by rw [enumD_len] at hi; rw [r.length]; exact hi⟩
  go := fun i H s hi => by
    rw [enumD_len] at hi
    obtain ⟨v, e, _⟩ := r.get (List.getElem?_eq_getElem hi)
    exact ⟨vs, v, sqT_same s h, e⟩
  yld := fun i d H x H' s hd y => by
    obtain ⟨T, v, rfl, hT, rfl, e1⟩ := y
    rw [enumD_at] at hd
    obtain ⟨d1, hd1, rfl⟩ := Option.map_eq_some_iff.mp hd
    obtain ⟨v', g1, r1⟩ := r.get hd1
    have f1 := e1 vs (sqT_same s h)
    rw [g1] at f1; cases f1
    refine .inr ⟨T, _, _, rfl, hT, rfl, rfl, .cons ?_ (.cons r1 .nil), by show 2 ≤ sizeLine; decide⟩
    rw [Nat.zero_add]
    exact .int _
def gEnumA (g : M (List D)) : M (List D) := fun S => (g S).bind fun p => match p.1 with
  | [.list xs] => some (enumD 0 xs, p.2)
  | [.tuple xs] => some (enumD 0 xs, p.2)
  | _ => none
section
variable {X : Cx} {p pos : Pos} {e : Expr} {gs : M (List D)}
theorem i_enumA {elts : List Expr} {kk : Nat} {tpos : Pos} (hm : X.mg "enumerate" = none) (ha : GA X [e] gs) (hg : Gl X "enumerate" := by rfl) (hs : starEach [e] X.env = [(false, eval e X.env)] := by rfl) : GI X (.Tuple elts kk tpos) (.Call (.Name "enumerate" p) [e] [] pos) (gEnumA gs) := by
  obtain ⟨t, pa, ra⟩ := ha.ex
  refine ⟨_, pi_enumA hg hm pa hs, fun A F H S σ ds S' R k e post => ?_⟩
  obtain ⟨⟨xs, S1⟩, h1, e⟩ := bind_inv e
  simp only at e
  split at e
  · cases e
    refine ra A F H S σ _ _ _ k h1 fun A1 F1 H1 vs p1 s1 k1 r1 => ?_
    obtain ⟨v, rfl, q1⟩ := rps1 r1
    obtain ⟨a, ws, rfl, g1, g2, g3⟩ := rp_list_inv q1
    exact ⟨a, ws, rfl, .inl ⟨SqL.of (k1.sub.same _ _ g1), post A1 F1 H1 _ p1 s1 k1 (walk_enum g1 g2) (by rw [enumD_len]; exact g3)⟩⟩
  · cases e
    refine ra A F H S σ _ _ _ k h1 fun A1 F1 H1 vs p1 s1 k1 r1 => ?_
    obtain ⟨v, rfl, q1⟩ := rps1 r1
    obtain ⟨a, ws, rfl, g1, g2, g3⟩ := rp_tup_inv q1
    exact ⟨a, ws, rfl, .inr ⟨sqT_same k1.sub.same g1, post A1 F1 H1 _ p1 s1 k1 (walk_enumT g1 g2) (by rw [enumD_len]; exact g3)⟩⟩
  · cases e
end
end Fu

set_option maxHeartbeats 4000000
namespace Fu
open PySem PySem.Spec PyProof.Rows L2
/-! ### set & set -/
section
variable {P : Program} {w : World} {A : Around} {E : Value → Shared → Prop} {s : Shared}
/-- the entries of a set of whole numbers -/
theorem set_parts {h : Heap} {a : Addr} {S : Int → Bool} {n : Nat} (x : h.SetOf (intKind P w) a S n) : ∃ o es ep t, h.get? a = some o ∧ o.ExactSet ∧ o.data = .set es ep t ∧ ElemsOf (intKind P w) es.toList ∧ (∀ k, S k = true ↔ ∃ e ∈ es.toList, (intKind P w).is k e.2 = true) ∧ es.size < scanBound ∧ t.fits es.size = true ∧ es.size = n := x
theorem elem_int {e : Int × Value} {l : List (Int × Value)} (h : ElemsOf (intKind P w) l) (he : e ∈ l) : ∃ k tk, e.2 = .int k tk ∧ e.1 = (intKind P w).hash k := by
  obtain ⟨⟨k, h1, h2⟩, _⟩ := h e he
  obtain ⟨h, v⟩ := e
  cases v with
  | int i tk =>
    have : i = k := by
      have : ((i == k) = true) := h1
      exact eq_of_beq this
    subst this
    exact ⟨i, tk, rfl, h2⟩
  | _ => exact absurd h1 Bool.false_ne_true
theorem setEntries_ok {a : Addr} {o : Obj} {es : Array (Int × Value)} {ep : Nat} {t : SetTable} {Q : Array (Int × Value) → Shared → Prop} (ho : s.heap.get? a = some o) (hd : o.data = .set es ep t) (hf : t.fits es.size = true) (q : Q es s) : wpAny (model P w) A (setEntries a) Q E s := by
  unfold setEntries
  exact wpAny_bind (wpAny_setState_of ho hd hf (wpAny_pure q))
theorem setEpoch_ok {a : Addr} {o : Obj} {es : Array (Int × Value)} {ep : Nat} {t : SetTable} {Q : Nat → Shared → Prop} (ho : s.heap.get? a = some o) (hd : o.data = .set es ep t) (hf : t.fits es.size = true) (q : Q ep s) : wpAny (model P w) A (setEpoch a) Q E s := by
  unfold setEpoch
  exact wpAny_bind (wpAny_setState_of ho hd hf (wpAny_pure q))
theorem setsQuiet_ok {Q : Bool → Shared → Prop} : ∀ {as : List Addr}, (∀ a ∈ as, ∃ S n, s.heap.SetOf (intKind P w) a S n) → Q true s → wpAny (model P w) A (setsQuiet as) Q E s := by
  intro as h q
  unfold setsQuiet
  refine wpAny_bind (wpAny_forIn_list _ (fun rest b s' => b.1 = none ∧ s' = s ∧ ∀ a ∈ rest, ∃ S n, s.heap.SetOf (intKind P w) a S n) _ ?_ ?_ as _ ⟨rfl, rfl, h⟩)
  · rintro a rest b s' ⟨hb, rfl, hm⟩
    obtain ⟨S, n, x⟩ := hm a List.mem_cons_self
    obtain ⟨o, es, ep, t, ho, _, hd, hel, _, _, hf, _⟩ := set_parts x
    refine wpAny_bind (setEntries_ok ho hd hf ?_)
    refine wpAny_bind (MeetsSeq2.wpAny_forIn_array _ (fun rest b s2 => b.1 = none ∧ s2 = s' ∧ ∀ e ∈ rest, ∃ k tk, e.2 = Value.int k tk) _ ?_ ?_ es _ ⟨rfl, rfl, fun e he => let ⟨k, tk, z, _⟩ := elem_int hel he; ⟨k, tk, z⟩⟩)
    · rintro ⟨hh, v⟩ rest2 b2 s2 ⟨hb2, rfl, hm2⟩
      obtain ⟨k, tk, e⟩ := hm2 _ List.mem_cons_self
      simp only at e
      subst e
      exact wpAny_pure ⟨rfl, rfl, fun e he => hm2 e (List.mem_cons_of_mem _ he)⟩
    · rintro ⟨b1, b2⟩ s2 ⟨hb2, rfl, _⟩
      simp only at hb2
      subst hb2
      exact wpAny_pure ⟨rfl, rfl, fun e he => hm e (List.mem_cons_of_mem _ he)⟩
  · rintro ⟨b1, b2⟩ s2 ⟨hb2, rfl, _⟩
    simp only at hb2
    subst hb2
    exact wpAny_pure q
/-- a set that nobody sees is walked in some order -/
theorem setWalk_ok {a : Addr} {o : Obj} {es : Array (Int × Value)} {ep : Nat} {t : SetTable} {Q : Array (Int × Value) → Shared → Prop} (ho : s.heap.get? a = some o) (hd : o.data = .set es ep t) (hf : t.fits es.size = true)
    (hw : w.params.followText "set-order" = true ∨ (t.led = true ∧ t.plain = true) ∨ es.size ≤ 1) (q : ∀ es', es'.toList.Perm es.toList → Q es' s) : wpAny (model P w) A (setWalk a) Q E s := by
  unfold setWalk
  refine wpAny_bind (wpAny_setState_of ho hd hf ?_)
  dsimp only
  refine wpAny_bind (wpAny_byText ?_)
  by_cases hb : w.params.followText "set-order" = true
  · refine wp_if_pos hb ?_
    exact wpAny_bind (wpAny_askSetting (wpAny_pure (q _ (pick_perm _ _))))
  · refine wp_if_neg hb ?_
    have hw2 : (t.led = true ∧ t.plain = true) ∨ es.size ≤ 1 := hw.resolve_left hb
    refine wp_if_neg ?_ ?_
    · show ¬ ((!t.plain && decide (es.size > 1)) = true)
      rcases hw2 with ⟨_, hp⟩ | hp
      · rw [hp]; exact Bool.false_ne_true
      · intro z
        have := of_decide_eq_true (Bool.and_eq_true_iff.mp z).2
        omega
    refine wpAny_bind (wpAny_of_eq (a := ()) ?_ ?_)
    · show (if (!t.led && decide (es.size > 1)) = true then unsupported "set:maker-not-led" else pure ()) = pure ()
      rw [if_neg]
      rcases hw2 with ⟨hp, _⟩ | hp
      · rw [hp]; exact Bool.false_ne_true
      · intro z
        have := of_decide_eq_true (Bool.and_eq_true_iff.mp z).2
        omega
    · exact wpAny_pure (q es (List.Perm.refl _))
theorem same_setOf {h h' : Heap} {a r : Addr} {S : Int → Bool} {n : Nat} (x : h.SetOf (intKind P w) a S n) (hne : a ≠ r) (sb : Heap.SameBut r h h') : h'.SetOf (intKind P w) a S n := by
  obtain ⟨o, es, ep, t, ho, q⟩ := x
  exact ⟨o, es, ep, t, (sb.2 a hne).trans ho, q⟩
theorem setWalkUnseen_ok {a b r : Addr} {o : Obj} {es : Array (Int × Value)} {ep : Nat} {t : SetTable} {S T : Int → Bool} {n m : Nat} {Q : Array (Int × Value) → Shared → Prop} (ho : s.heap.get? a = some o) (hd : o.data = .set es ep t)
    (ha : s.heap.SetOf (intKind P w) a S n) (hb : s.heap.SetOf (intKind P w) b T m) (hr : s.heap.SetOf (intKind P w) r (fun _ => false) 0)
    (q : ∀ es' h', es'.toList.Perm es.toList → Heap.SameBut r s.heap h' → h'.SetOf (intKind P w) r (fun _ => false) 0 → Q es' { s with heap := h' }) : wpAny (model P w) A (setWalkUnseen a [b, r] (some r)) Q E s := by
  have ha' := ha
  obtain ⟨o', es', ep', t', ho', _, hd', hel, hm, hbd, hf, hn⟩ := set_parts ha
  rw [ho] at ho'; cases ho'
  rw [hd] at hd'; cases hd'
  unfold setWalkUnseen
  refine wpAny_bind (wpAny_setState_of ho hd hf ?_)
  dsimp only
  refine wpAny_bind (wpAny_byText ?_)
  by_cases hc : (w.params.followText "set-order" || t.led && t.plain || decide (es.size ≤ 1)) = true
  · refine wp_if_pos hc ?_
    refine setWalk_ok ho hd hf ?_ fun es' hp => q es' s.heap hp (Heap.SameBut.refl _ _) hr
    simp only [Bool.or_eq_true, Bool.and_eq_true, decide_eq_true_eq] at hc
    rcases hc with (hc | hc) | hc
    · exact .inl hc
    · exact .inr (.inl hc)
    · exact .inr (.inr hc)
  · refine wp_if_neg hc ?_
    refine wpAny_bind (setsQuiet_ok (P := P) (w := w) (fun x hx => ?_) ?_)
    · simp only [List.mem_cons, List.not_mem_nil, or_false] at hx
      rcases hx with rfl | rfl | rfl
      · exact ⟨_, _, ha'⟩
      · exact ⟨_, _, hb⟩
      · exact ⟨_, _, hr⟩
    refine wp_if_neg (by simp) ?_
    refine wpAny_bind (wpAny_rule ?_)
    obtain ⟨or, er, pr, tr, hor, hexr, hdr, helr, hmr, hbr, hfr, hnr⟩ := set_parts hr
    refine wpAny_bind (wpAny_setState_of hor hdr hfr ?_)
    dsimp only
    by_cases hc2 : (tr.led && !t.led || tr.plain && !t.plain) = true
    · refine wp_if_pos hc2 ?_
      refine wpAny_bind (wpAny_storeSet_of hor hdr ?_ (fits_of_scanBound hbr))
      have h2 := SetOf_store (knd := intKind P w) (es' := er) (t' := { mask := tr.mask, place := tr.place, dummies := tr.dummies, finger := tr.finger, led := tr.led && t.led, moves := tr.moves, plain := tr.plain && t.plain }) (S' := fun _ => false) hor hexr hdr helr hmr hbr (by cases tr; exact hfr)
      have h3 := h2.2
      rw [hnr] at h3
      exact wpAny_pure (q es _ (List.Perm.refl _) (Heap.SameBut.update s.heap r _) h3)
    · refine wp_if_neg hc2 ?_
      exact wpAny_pure (q es s.heap (List.Perm.refl _) (Heap.SameBut.refl _ _) hr)
theorem isSet_ok {a : Addr} {S : Int → Bool} {n : Nat} {Q : Bool → Shared → Prop} (x : s.heap.SetOf (intKind P w) a S n) (q : Q true s) : wpAny (model P w) A (Builtin.Frozenset.isAnySet (.ref a)) Q E s := by
  unfold Builtin.Frozenset.isAnySet orM
  refine wpAny_bind (wpAny_isInstance (T := "set") (b := true) x.typeIs (by rw [isSubtype_type]; kernel_rfl) ?_)
  exact wpAny_pure q
theorem unchanged_ok {id : String} {a : Addr} {o : Obj} {es : Array (Int × Value)} {ep : Nat} {t : SetTable} {Q : Unit → Shared → Prop} (ho : s.heap.get? a = some o) (hd : o.data = .set es ep t) (hf : t.fits es.size = true) (q : Q () s) : wpAny (model P w) A (Builtin.Frozenset.unchanged id a ep) Q E s := by
  unfold Builtin.Frozenset.unchanged
  refine wpAny_bind (setEpoch_ok ho hd hf ?_)
  refine wp_if_neg (by simp) ?_
  exact wpAny_pure q
theorem interLoop_ok {id : String} {x y r : Addr} {X Y : Int → Bool} {n m : Nat} {Q : Unit → Shared → Prop} (hx : s.heap.SetOf (intKind P w) x X n) (hy : s.heap.SetOf (intKind P w) y Y m) (hr : s.heap.SetOf (intKind P w) r (fun _ => false) 0) (hxr : x ≠ r) (hyr : y ≠ r)
    (q : ∀ h' k, Heap.SameBut r s.heap h' → h'.SetOf (intKind P w) r (fun i => X i && Y i) k → Q () { s with heap := h' }) :
    wpAny (model P w) A (do
      let was ← setEpoch x
      let es ← setWalkUnseen x [y, r] (some r)
      forIn es PUnit.unit fun e __s => do
        holding [e.snd] do
          let __do_lift ← setFind y e.snd e.fst
          if __do_lift.isSome = true then do
              let _ ← setAddHashed r e.snd e.fst
              pure ()
            else pure ()
        Builtin.Frozenset.unchanged id x was
        pure (ForInStep.yield PUnit.unit)
      pure ()) Q E s := by
  obtain ⟨o, es, ep, t, ho, _, hd, hel, hm, hbd, hf, hn⟩ := set_parts hx
  refine wpAny_bind (setEpoch_ok ho hd hf ?_)
  refine wpAny_bind (setWalkUnseen_ok ho hd hx hy hr fun es' h1 hp sb1 hr1 => ?_)
  have hsz : es'.size = es.size := by rw [← Array.length_toList, hp.length_eq, Array.length_toList]
  refine wpAny_bind (MeetsSeq2.wpAny_forIn_array _ (fun rest _ s' => ∃ h' R k, s' = { s with heap := h' } ∧ Heap.SameBut r s.heap h' ∧ h'.SetOf (intKind P w) r R k ∧ k + rest.length ≤ es.size ∧ (∀ i, (R i || (rest.any (fun e => decide (keyOf e = i)) && Y i)) = (X i && Y i)) ∧ ∀ e ∈ rest, ∃ k tk, e.2 = Value.int k tk ∧ e.1 = (intKind P w).hash k) _ ?_ ?_ es' _ ?_)
  · rintro ⟨hh, v⟩ rest ⟨⟩ s' ⟨h', R, k, rfl, sb, hR, hk, hRe, hi⟩
    obtain ⟨c, tk, e1, e2⟩ := hi _ List.mem_cons_self
    simp only at e1 e2
    subst e1 e2
    rw [List.length_cons] at hk
    have ho' : h'.get? x = some o := (sb.2 x hxr).trans ho
    have hkey : (intKind P w).is c (.int c tk) = true := intKind_is P w c tk
    refine wpAny_bind (wpAny_holding (wpAny_bind (wpAny_setFind_of (knd := intKind P w) (k := c) hkey rfl (same_setOf hy hyr sb) fun f hf2 => ?_)))
    have next : ∀ (h2 : Heap) (R2 : Int → Bool) (k2 : Nat), Heap.SameBut r s.heap h2 → h2.SetOf (intKind P w) r R2 k2 → k2 + rest.length ≤ es.size → (∀ i, (R2 i || (rest.any (fun e => decide (keyOf e = i)) && Y i)) = (X i && Y i)) →
        wpAny (model P w) A (do
          Builtin.Frozenset.unchanged id x ep
          pure (ForInStep.yield PUnit.unit)) (fun r' s' => match r' with
            | .yield b' => ∃ h' R k, s' = { s with heap := h' } ∧ Heap.SameBut r s.heap h' ∧ h'.SetOf (intKind P w) r R k ∧ k + rest.length ≤ es.size ∧ (∀ i, (R i || (rest.any (fun e => decide (keyOf e = i)) && Y i)) = (X i && Y i)) ∧ ∀ e ∈ rest, ∃ k tk, e.2 = Value.int k tk ∧ e.1 = (intKind P w).hash k
            | .done b' => wpAny (model P w) A (pure ()) Q E s') E { s with heap := h2 } := fun h2 R2 k2 sb2 hR2 hk2 hRe2 => by
      refine wpAny_bind (unchanged_ok (s := { s with heap := h2 }) ((sb2.2 x hxr).trans ho) hd hf ?_)
      exact wpAny_pure ⟨h2, R2, k2, rfl, sb2, hR2, hk2, hRe2, fun e he => hi e (List.mem_cons_of_mem _ he)⟩
    by_cases hY : Y c = true
    · refine wp_if_pos (by rw [hf2]; exact hY) ?_
      refine wpAny_bind (wpAny_setAddHashed_of (knd := intKind P w) (k := c) hkey rfl hR (by omega) fun h2 sb2 hR2 => ?_)
      refine wpAny_pure (wpAny_mono (next h2 _ _ (sb.trans sb2) hR2 (by split <;> omega) fun i => ?_) (fun r' s' h => by cases r' <;> exact h) fun _ _ h => h)
      rw [← hRe i, List.any_cons]
      show (R i || decide (i = c) || (rest.any _ && Y i)) = (R i || ((decide (c = i) || rest.any _) && Y i))
      by_cases hic : i = c
      · subst hic; simp [hY]
      · have : ¬ c = i := fun z => hic z.symm
        simp [hic, this]
    · refine wp_if_neg (by rw [hf2]; exact hY) ?_
      refine wpAny_pure (wpAny_mono (next h' _ _ sb hR (by omega) fun i => ?_) (fun r' s' h => by cases r' <;> exact h) fun _ _ h => h)
      rw [← hRe i, List.any_cons]
      show (R i || (rest.any _ && Y i)) = (R i || ((decide (c = i) || rest.any _) && Y i))
      by_cases hic : c = i
      · subst hic; simp [hY]
      · simp [hic]
  · rintro ⟨⟩ s' ⟨h', R, k, rfl, sb, hR, hk, hRe, hi⟩
    have : R = fun i => X i && Y i := funext fun i => by rw [← hRe i]; simp
    subst this
    exact wpAny_pure (q h' k sb hR)
  · refine ⟨h1, _, _, rfl, sb1, hr1, by rw [Array.length_toList, hsz]; omega, fun i => ?_, fun e he => elem_int hel (hp.mem_iff.mp he)⟩
    have e1 : es'.toList.any (fun e => decide (keyOf e = i)) = X i := by
      rw [Bool.eq_iff_iff, hm i, List.any_eq_true]
      constructor
      · rintro ⟨e, he, z⟩
        have he' := hp.mem_iff.mp he
        obtain ⟨k, tk, z1, _⟩ := elem_int hel he'
        refine ⟨e, he', ?_⟩
        have z := of_decide_eq_true z
        unfold keyOf at z
        rw [z1] at z ⊢
        simp only at z
        subst z
        exact intKind_is P w k tk
      · rintro ⟨e, he, z⟩
        obtain ⟨k, tk, z1, _⟩ := elem_int hel he
        refine ⟨e, hp.mem_iff.mpr he, ?_⟩
        rw [z1] at z
        have : k = i := eq_of_beq (show (k == i) = true from z)
        unfold keyOf
        rw [z1]
        simp [this]
    show (false || (es'.toList.any _ && Y i)) = _
    rw [e1]; simp
/-- the members that two sets have -/
theorem inter_ok {id : String} {a b : Addr} {S T : Int → Bool} {n m : Nat} {Q : Value → Shared → Prop} (hne : a ≠ b) (ha : s.heap.SetOf (intKind P w) a S n) (hb : s.heap.SetOf (intKind P w) b T m)
    (q : ∀ h' k, (∀ c o, c < s.heap.objs.size → s.heap.get? c = some o → h'.get? c = some o) → s.heap.objs.size < h'.objs.size → h'.SetOf (intKind P w) s.heap.objs.size (fun i => S i && T i) k → Q (.ref s.heap.objs.size) { s with heap := h' }) :
    wpAny (model P w) A (Builtin.Frozenset.intersection id a (.ref b)) Q E s := by
  unfold Builtin.Frozenset.intersection
  refine wp_if_neg (by simp; exact fun z => hne z.symm) ?_
  refine wpAny_bind (m := Builtin.Frozenset.baseOf a) ?_
  unfold Builtin.Frozenset.baseOf
  refine wpAny_bind (wpAny_isInstance (T := "set") (b := true) ha.typeIs (by rw [isSubtype_type]; kernel_rfl) ?_)
  refine wpAny_pure ?_
  simp only [if_true]
  refine wpAny_bind (PpSet.newSet_ok ?_)
  have hal : a < s.heap.objs.size := by obtain ⟨o, _, _, _, ho, _⟩ := ha; exact Heap.lt_size ho
  have hbl : b < s.heap.objs.size := by obtain ⟨o, _, _, _, ho, _⟩ := hb; exact Heap.lt_size ho
  have hr : (s.heap.push { cls := .type "set", dict := none, data := .set #[] 0 (.fresh 0 0 (!w.params.followText "set-order")) }).SetOf (intKind P w) s.heap.objs.size (fun _ => false) 0 := (setR_fresh w).setOf
  have keep : ∀ c o, s.heap.get? c = some o → (s.heap.push { cls := .type "set", dict := none, data := .set #[] 0 (.fresh 0 0 (!w.params.followText "set-order")) }).get? c = some o := fun c o e => Heap.get?_push_of_some _ e
  have hsz : (s.heap.push { cls := .type "set", dict := none, data := .set #[] 0 (.fresh 0 0 (!w.params.followText "set-order")) }).objs.size = s.heap.objs.size + 1 := Heap.size_push ..
  generalize s.heap.push { cls := .type "set", dict := none, data := .set #[] 0 (.fresh 0 0 (!w.params.followText "set-order")) } = h1 at hr keep hsz ⊢
  have ha1 : h1.SetOf (intKind P w) a S n := by obtain ⟨o, es, ep, t, ho, z⟩ := ha; exact ⟨o, es, ep, t, keep _ _ ho, z⟩
  have hb1 : h1.SetOf (intKind P w) b T m := by obtain ⟨o, es, ep, t, ho, z⟩ := hb; exact ⟨o, es, ep, t, keep _ _ ho, z⟩
  unfold Builtin.Frozenset.addrOf
  refine wpAny_bind (wpAny_pure ?_)
  refine wpAny_bind (wpAny_holding ?_)
  refine wpAny_bind (isSet_ok (s := { s with heap := h1 }) hb1 ?_)
  refine wp_if_pos rfl ?_
  refine wpAny_bind (wpAny_pure ?_)
  obtain ⟨oa, ea, pa, ta, hoa, _, hda, _, _, _, hfa, _⟩ := set_parts ha1
  obtain ⟨ob, eb, pb, tb, hob, _, hdb, _, _, _, hfb, _⟩ := set_parts hb1
  unfold Builtin.Frozenset.sizeOf
  refine wpAny_bind (wpAny_bind (setEntries_ok (s := { s with heap := h1 }) hob hdb hfb (wpAny_pure ?_)))
  refine wpAny_bind (wpAny_bind (setEntries_ok (s := { s with heap := h1 }) hoa hda hfa (wpAny_pure ?_)))
  have fin : ∀ (S' : Int → Bool), (∀ i, S' i = (S i && T i)) → ∀ h' k, Heap.SameBut s.heap.objs.size h1 h' → h'.SetOf (intKind P w) s.heap.objs.size S' k →
      wpAny (model P w) A (pure (Value.ref s.heap.objs.size)) Q E { s with heap := h' } := fun S' eS h' k sb hS => by
    have : S' = fun i => S i && T i := funext eS
    subst this
    exact wpAny_pure (q h' k (fun c o hc e => (sb.2 c (Nat.ne_of_lt hc)).trans (keep c o e)) (by rw [sb.1, hsz]; exact Nat.lt_succ_self _) hS)
  by_cases hgt : eb.size > ea.size
  · simp only [if_pos hgt]
    exact interLoop_ok (s := { s with heap := h1 }) ha1 hb1 hr (Nat.ne_of_lt hal) (Nat.ne_of_lt hbl) fun h' k sb hS => fin _ (fun i => rfl) h' k sb hS
  · simp only [if_neg hgt]
    exact interLoop_ok (s := { s with heap := h1 }) hb1 ha1 hr (Nat.ne_of_lt hbl) (Nat.ne_of_lt hal) fun h' k sb hS => fin _ (fun i => Bool.and_comm _ _) h' k sb hS
theorem entry_set_and : entryFor table "set.__and__" = some Builtin.«frozenset.__and__» :=
  entryFor_alias (id' := "frozenset.__and__") (by kernel_rfl) rfl (by decide +kernel) (by kernel_rfl)
theorem entry_set_ne : entryFor table "set.__ne__" = some Builtin.«frozenset.__ne__» :=
  entryFor_alias (id' := "frozenset.__ne__") (by kernel_rfl) rfl (by decide +kernel) (by kernel_rfl)
theorem and_ok {a b : Addr} {S T : Int → Bool} {n m : Nat} {Q : Value → Shared → Prop} (hne : a ≠ b) (ha : s.heap.SetOf (intKind P w) a S n) (hb : s.heap.SetOf (intKind P w) b T m)
    (q : ∀ h' k, (∀ c o, c < s.heap.objs.size → s.heap.get? c = some o → h'.get? c = some o) → s.heap.objs.size < h'.objs.size → h'.SetOf (intKind P w) s.heap.objs.size (fun i => S i && T i) k → Q (.ref s.heap.objs.size) { s with heap := h' }) :
    wpAny (model P w) A (binaryOp .BitAnd (.ref a) (.ref b)) Q E s := by
  refine wpAny_binaryOp_same (T := "set") (id := "set.__and__") ha.typeIs hb.typeIs F.fills_set_and F.slot_set_and ?_
  refine wpAny_call_entry F.slot_set_and ha.typeIs entry_set_and ?_ (F.args_set_and_2 _ _)
  show wpAny _ _ (Builtin.Frozenset.slot1 "__and__" ⟨[.ref a, .ref b], []⟩ >>= _) _ _ s
  have e1 : Builtin.Frozenset.slot1 "__and__" ⟨[.ref a, .ref b], []⟩ = pure (.ref a, .ref b) := by rfl
  rw [e1, pure_bind]
  dsimp only
  simp only [Bool.false_eq_true, if_false]
  refine wpAny_bind (m := (Builtin.Frozenset.isAnySet (Value.ref a) <&&> Builtin.Frozenset.isAnySet (Value.ref b))) ?_
  unfold andM
  refine wpAny_bind (isSet_ok ha ?_)
  refine isSet_ok hb ?_
  refine wp_if_neg (by simp) ?_
  unfold Builtin.Frozenset.addrOf
  refine wpAny_bind (wpAny_pure ?_)
  refine wpAny_bind (inter_ok hne ha hb fun h' k hk hz hS => ?_)
  exact wpAny_pure ⟨_, rfl, (fun z => nomatch z), q h' k hk hz hS⟩
end
end Fu

set_option maxHeartbeats 4000000
namespace Fu
open PySem PySem.Spec PyProof.Rows L2
section
variable {P : Program} {w : World} {A : Around} {E : Value → Shared → Prop} {s : Shared}
theorem ne_ok {a b : Addr} {S T : Int → Bool} {n : Nat} {Q : Value → Shared → Prop} (hu : A.units < cLine) (ha : s.heap.SetOf (intKind P w) a S n) (hb : s.heap.SetOf (intKind P w) b T 0) (q : Q (.bool (!decide (n = 0))) s) :
    wpAny (model P w) A (compareOp .NotEq (.ref a) (.ref b)) Q E s := by
  show wpAny (model P w) A (richCompare .NotEq (.ref a) (.ref b)) Q E s
  refine wpAny_richCompare_same_room (T := "set") (id := "set.__ne__") ha.typeIs hb.typeIs F.slot_set_ne ?_ hu
  refine wpAny_call_entry F.slot_set_ne ha.typeIs entry_set_ne ?_ (F.args_set_ne_2 _ _)
  show wpAny _ _ (Builtin.Frozenset.slot1 "__ne__" ⟨[.ref a, .ref b], []⟩ >>= _) _ _ s
  have e1 : Builtin.Frozenset.slot1 "__ne__" ⟨[.ref a, .ref b], []⟩ = pure (.ref a, .ref b) := by rfl
  rw [e1, pure_bind]
  dsimp only
  obtain ⟨oa, ea, pa, ta, hoa, _, hda, _, _, _, hfa, hna⟩ := set_parts ha
  obtain ⟨ob, eb, pb, tb, hob, _, hdb, _, _, _, hfb, hnb⟩ := set_parts hb
  refine wpAny_bind (isSet_ok hb ?_)
  refine wp_if_neg (by simp) ?_
  unfold Builtin.Frozenset.addrOf
  refine wpAny_bind (wpAny_pure ?_)
  refine wpAny_bind (wpAny_pure ?_)
  unfold Builtin.Frozenset.sizeOf
  refine wpAny_bind (wpAny_bind (setEntries_ok hoa hda hfa (wpAny_pure ?_)))
  refine wpAny_bind (wpAny_bind (setEntries_ok hob hdb hfb (wpAny_pure ?_)))
  by_cases hn : n = 0
  · subst hn
    have z : ea.size = eb.size := by rw [hna, hnb]
    have e0 : ea = #[] := Array.eq_empty_of_size_eq_zero hna
    have e2 : eb = #[] := Array.eq_empty_of_size_eq_zero hnb
    refine wpAny_bind (wp_if_neg (by rw [z]; simp) ?_)
    refine wpAny_bind (m := (isInstance (Value.ref a) (Value.type "frozenset") <&&> isInstance (Value.ref b) (Value.type "frozenset"))) ?_
    unfold andM
    refine wpAny_bind (wpAny_isInstance (T := "set") (b := false) ha.typeIs (by rw [isSubtype_type]; kernel_rfl) ?_)
    refine wpAny_pure ?_
    refine wp_if_neg (by simp) ?_
    unfold Builtin.Frozenset.subsetOf
    refine wpAny_bind ?_
    unfold Builtin.Frozenset.sizeOf
    refine wpAny_bind (setEntries_ok hoa hda hfa (wpAny_pure ?_))
    refine wpAny_bind (wpAny_bind (setEntries_ok hob hdb hfb (wpAny_pure ?_)))
    refine wp_if_neg (by rw [z]; simp) ?_
    refine wpAny_bind (setEpoch_ok hoa hda hfa ?_)
    refine wpAny_bind ?_
    unfold Builtin.Frozenset.walkUnseen
    refine wpAny_bind (setEntries_ok hoa hda hfa ?_)
    refine wpAny_bind (setEntries_ok hob hdb hfb ?_)
    subst e0 e2
    rw [show ((#[] : Array (Int × Value)).toList ++ (#[] : Array (Int × Value)).toList) = [] from rfl, List.forIn_nil]
    refine wpAny_bind (wpAny_pure ?_)
    refine wpAny_pure ?_
    rw [show (#[] : Array (Int × Value)).toList = [] from rfl, List.forIn_nil]
    refine wpAny_bind (wpAny_pure ?_)
    refine wpAny_pure ?_
    exact wpAny_pure ⟨_, rfl, (fun z => nomatch z), by simpa using q⟩
  · have z : (ea.size != eb.size) = true := by rw [hna, hnb]; simpa using hn
    refine wpAny_bind (wp_if_pos z (wpAny_pure ?_))
    exact wpAny_pure ⟨_, rfl, (fun z => nomatch z), by simpa [hn] using q⟩
end
/-! ### tracked sets of whole numbers -/
section
variable {X : Cx} {pos p p1 p2 p3 p4 p5 p6 p7 : Pos} {e e2 : Expr} {ge ge2 : M D}
def rSetI (K : PySem.W.Frag) : List V → Hp → VK → Prop := fun xs H Q => ∃ (l : Addr) (ns : List Int), xs = [.ref l] ∧ SqL K H l (ns.map V.int) ∧ ns.length ≤ 4000 ∧ ∀ (p : Addr) (S : Int → Bool) (n : Nat), H p = none → (∀ k, S k = true ↔ k ∈ ns) → Q (.ref p) (upd H p (.set S n))
theorem firstMet_mem (ns : List Int) : ∀ i, i ≤ ns.length → ∀ k : Int, k ∈ firstMet (fun i => ns.getD i 0) i ↔ k ∈ ns.take i := by
  intro i
  induction i with
  | zero => intro _ k; simp [firstMet]
  | succ i ih =>
    intro hi k
    have hlt : i < ns.length := by omega
    have e1 : ns.take (i + 1) = ns.take i ++ [ns.getD i 0] := by
      rw [List.take_succ, List.getElem?_eq_getElem hlt, List.getD_eq_getElem?_getD, List.getElem?_eq_getElem hlt]; rfl
    rw [e1, List.mem_append, ← ih (by omega) k, firstMet_succ]
    unfold step_dedup
    split
    · rename_i h
      have h : ns.getD i 0 ∈ firstMet (fun i => ns.getD i 0) i := by simpa using h
      constructor
      · exact .inl
      · rintro (z | z)
        · exact z
        · rw [List.mem_singleton.mp z]; exact h
    · rw [List.mem_append]
theorem call_setI (hc : X.calm = true) : CallR X (.type "set") (rSetI X.K) := by
  intro pins s σ H xs us Q I r h
  obtain ⟨l, ns, e, hl, hz, q⟩ := h
  subst e
  cases r with
  | cons rx rr =>
    cases rr
    cases rx
    obtain ⟨its, ri, pl, _⟩ := I.list hl
    have hn : its.toArray.size = ns.length := by rw [List.size_toArray, ← ri.length, List.length_map]
    have hb : its.toArray.size + 1 < scanBound := by rw [hn]; unfold scanBound; omega
    refine call_set_list (I.ok.hd hc) pl.isList (by simpa using RZ.intsAre_vals ri) hb fun h' tk st keep => ?_
    refine ⟨.ref _, _, I.laid (t' := tk) (o := .set _ _) (fun b u e => keep b u (Heap.lt_size e) e) (Nat.le_refl _) st, rfl, q _ _ _ (I.hok.fresh (Nat.le_refl _)) fun k => ?_⟩
    rw [hn, List.any_eq_true]
    have := firstMet_mem ns ns.length (Nat.le_refl _) k
    rw [List.take_length] at this
    rw [← this]
    constructor
    · rintro ⟨x, hx, e⟩; rw [← eq_of_beq e]; exact hx
    · intro hx; exact ⟨k, hx, by simp⟩
def rSet0I : List V → Hp → VK → Prop := fun xs H Q => xs = [] ∧ ∀ p, H p = none → Q (.ref p) (upd H p (.set (fun _ => false) 0))
theorem call_set0I : CallR X (.type "set") rSet0I := by
  intro pins s σ H xs us Q I r h
  obtain ⟨rfl, q⟩ := h
  cases r
  refine setR_new fun new => ?_
  exact ⟨.ref _, _, I.laid (t' := s.toks) (o := .set _ _) (fun b u e => Heap.get?_push_of_some _ e) (Nat.le_refl _) new.setOf, rfl, q _ (I.hok.fresh (Nat.le_refl _))⟩
def rAndS : R2 := fun x y H Q => ∃ (a b : Addr) (S T : Int → Bool) (n m : Nat), x = .ref a ∧ y = .ref b ∧ a ≠ b ∧ H a = some (.set S n) ∧ H b = some (.set T m) ∧ ∀ p k, H p = none → (k = 0 ↔ ∀ i, (S i && T i) = false) → Q (.ref p) (upd H p (.set (fun i => S i && T i) k))
theorem size_none {P : Program} {w : World} {h : Heap} {a : Addr} {S : Int → Bool} {n : Nat} (x : h.SetOf (intKind P w) a S n) : n = 0 ↔ ∀ i, S i = false := by
  obtain ⟨o, es, ep, t, _, _, _, hel, hm, _, _, hn⟩ := set_parts x
  constructor
  · intro z i
    have e0 : es = #[] := Array.eq_empty_of_size_eq_zero (by rw [hn, z])
    cases hS : S i with
    | false => rfl
    | true =>
      obtain ⟨e, he, _⟩ := (hm i).mp hS
      rw [e0] at he
      exact absurd he (by simp)
  · intro z
    rcases Nat.eq_zero_or_pos n with h0 | h0
    · exact h0
    · have hl : 0 < es.toList.length := by rw [Array.length_toList, hn]; exact h0
      have he := List.getElem_mem hl
      obtain ⟨k, tk, e1, _⟩ := elem_int hel he
      have := (hm k).mpr ⟨_, he, by rw [e1]; exact intKind_is P w k tk⟩
      rw [z k] at this
      cases this
theorem op_andS : OpR X (binaryOp .BitAnd) rAndS := by
  intro pins s σ H x y v u Q I rx ry h
  obtain ⟨a, b, S, T, n, m, rfl, rfl, hne, ha, hb, q⟩ := h
  cases rx
  cases ry
  refine and_ok hne (I.hok a _ ha) (I.hok b _ hb) fun h' k hk hz hS => ?_
  exact ⟨.ref _, _, I.laid (t' := s.toks) (o := .set _ _) (fun b u e => hk b u (Heap.lt_size e) e) (Nat.le_refl _) hS, rfl, q _ k (I.hok.fresh (Nat.le_refl _)) (size_none hS)⟩
def rNeS : R2 := fun x y H Q => ∃ (a b : Addr) (S T : Int → Bool) (n : Nat), x = .ref a ∧ y = .ref b ∧ H a = some (.set S n) ∧ H b = some (.set T 0) ∧ Q (.bl (!decide (n = 0))) H
theorem op_neS (hu : X.A.units < cLine) : OpR X (compareOp .NotEq) rNeS := by
  intro pins s σ H x y v u Q I rx ry h
  obtain ⟨a, b, S, T, n, rfl, rfl, ha, hb, q⟩ := h
  cases rx
  cases ry
  exact ne_ok hu (I.hok a _ ha) (I.hok b _ hb) ⟨.bl _, H, I, rfl, q⟩
def dMeet : D → D → Option D
  | .list ds, .list es => (allInts ds).bind fun ns => (allInts es).bind fun ms => if ns.length ≤ 4000 ∧ ms.length ≤ 4000 then some (.bool (ns.any fun n => decide (n ∈ ms))) else none
  | _, _ => none
theorem rd_meet {K : PySem.W.Frag} {ta tb : TE} (ra : RdE K ta ge) (rb : RdE K tb ge2) : RdE K (tOp rNeS (tOp rAndS (tCB (rSetI K) (tCons ta tNil)) (tCB (rSetI K) (tCons tb tNil))) (tCB rSet0I tNil)) (gBin dMeet ge ge2) := by
  intro A F H S σ d S' Q k h post
  obtain ⟨⟨x, S1⟩, h1, h⟩ := bind_inv h
  obtain ⟨⟨y, S2⟩, h2, h⟩ := bind_inv h
  obtain ⟨w, h3, h⟩ := bind_inv h
  cases h
  cases x <;> simp only [dMeet] at h3 <;> try cases h3
  rename_i ds
  cases y <;> simp only at h3 <;> try cases h3
  rename_i es
  obtain ⟨ns, e1, h3⟩ := bind_inv h3
  obtain ⟨ms, e2, h3⟩ := bind_inv h3
  split at h3
  · rename_i hz
    cases h3
    have e1 := allInts_map e1
    have e2 := allInts_map e2
    subst e1 e2
    show ta σ H (fun v H1 => rSetI K [v] H1 (fun a H2 => tb σ H2 (fun u H3 => rSetI K [u] H3 (fun b H4 => rAndS a b H4 (fun c H5 => rSet0I [] H5 (fun d H6 => rNeS c d H6 Q))))))
    refine ra A F H S σ _ _ _ k h1 fun A1 F1 H1 v p1 s1 k1 r1 => ?_
    obtain ⟨l, vs, rfl, g1, g2, g3⟩ := rp_list_inv r1
    cases rps_ints g2
    refine ⟨l, ns, rfl, SqL.of (k1.sub.same _ _ g1), hz.1, fun p U n hp hU => ?_⟩
    have f1 : Same F1 (upd F1 p (.set U n)) := fun b o q => by rw [upd_ne (ne_of_none (k1.sub.same _ _ q) hp)]; exact q
    refine rb A1 _ _ _ σ _ _ _ (k1.laid hp) h2 fun A2 F2 H2 u p2 s2 k2 r2 => ?_
    obtain ⟨m, us, rfl, g1', g2', g3'⟩ := rp_list_inv r2
    cases rps_ints g2'
    refine ⟨m, ms, rfl, SqL.of (k2.sub.same _ _ g1'), hz.2, fun q T mm hq hT => ?_⟩
    have fp : F2 p = some (.set U n) := s2 _ _ upd_same
    have hp2 := k2.sub.same _ _ fp
    have hpq : p ≠ q := ne_of_none hp2 hq
    have f2 : Same F2 (upd F2 q (.set T mm)) := fun b o e => by rw [upd_ne (ne_of_none (k2.sub.same _ _ e) hq)]; exact e
    have k3 := k2.laid (o := .set T mm) hq
    refine ⟨p, q, U, T, n, mm, rfl, rfl, hpq, by rw [upd_ne hpq]; exact hp2, upd_same, fun c kk hc0 hkk => ?_⟩
    have f3 : Same (upd F2 q (.set T mm)) (upd (upd F2 q (.set T mm)) c (.set (fun i => U i && T i) kk)) := fun b o e => by rw [upd_ne (ne_of_none (k3.sub.same _ _ e) hc0)]; exact e
    have k4 := k3.laid (o := .set (fun i => U i && T i) kk) hc0
    refine ⟨rfl, fun d hd => ?_⟩
    have f4 : Same (upd (upd F2 q (.set T mm)) c (.set (fun i => U i && T i) kk)) (upd (upd (upd F2 q (.set T mm)) c (.set (fun i => U i && T i) kk)) d (.set (fun _ => false) 0)) := fun b o e => by rw [upd_ne (ne_of_none (k4.sub.same _ _ e) hd)]; exact e
    have k5 := k4.laid (o := .set (fun _ => false) 0) hd
    have hcd : c ≠ d := ne_of_none upd_same hd
    refine ⟨c, d, _, _, kk, rfl, rfl, by rw [upd_ne hcd]; exact upd_same, upd_same, ?_⟩
    refine post A2 _ _ _ (p1.trans p2) (s1.trans (f1.trans (s2.trans (f2.trans (f3.trans f4))))) k5 ?_
    have e3 : (!decide (kk = 0)) = ns.any fun n => decide (n ∈ ms) := by
      rw [Bool.eq_iff_iff, Bool.not_eq_true', decide_eq_false_iff_not, hkk, List.any_eq_true]
      constructor
      · intro z
        exact Classical.byContradiction fun z2 => z fun i => by
          cases e4 : (U i && T i) with
          | false => rfl
          | true =>
            obtain ⟨a1, a2⟩ := Bool.and_eq_true_iff.mp e4
            exact absurd ⟨i, (hU i).mp a1, decide_eq_true ((hT i).mp a2)⟩ z2
      · rintro ⟨i, h1, h2⟩ z
        have := z i
        rw [(hU i).mpr h1, (hT i).mpr (of_decide_eq_true h2)] at this
        cases this
    rw [e3]
    exact .bl _
  · cases h3
section
variable {k : Nat} (hr : Room k X.A) (m1 : X.mg "set" = none) (ha : GE X e ge) (hb : GE X e2 ge2)
theorem pe_meet0 {ta tb : TE} (hc : X.calm = true) (g1 : Gl X "set") (m1 : X.mg "set" = none) (pa : PE X e ta) (pb : PE X e2 tb) (na : starEach [e] X.env = (false, eval e X.env) :: starEach [] X.env) (nb : starEach [e2] X.env = (false, eval e2 X.env) :: starEach [] X.env) :
    PE X (.BinOp (.Call (.Name "set" p) [e] [] p1) .BitAnd (.Call (.Name "set" p2) [e2] [] p3) p4) (tOp rAndS (tCB (rSetI X.K) (tCons ta tNil)) (tCB (rSetI X.K) (tCons tb tNil))) :=
  pe_op op_andS (pe_callTy (call_setI hc) g1 m1 PyProof.Rows.boot_set (pa_cons pa pa_nil na) (he := na)) (pe_callTy (call_setI hc) g1 m1 PyProof.Rows.boot_set (pa_cons pb pa_nil nb) (he := nb))
include hr m1 ha hb in
include hr m1 ha hb in
theorem t_meet (hc : X.calm = true := by rfl) (g1 : Gl X "set" := by rfl) (na : starEach [e] X.env = (false, eval e X.env) :: starEach [] X.env := by rfl) (nb : starEach [e2] X.env = (false, eval e2 X.env) :: starEach [] X.env := by rfl)
    (hm : behindInMarks .NotEq (.Call (.Name "set" p6) [] [] p7) = false := by first | exact nobehind _ (by decide) (by decide) | rfl) :
    GT X (.Compare (.BinOp (.Call (.Name "set" p) [e] [] p1) .BitAnd (.Call (.Name "set" p2) [e2] [] p3) p4) [.NotEq] [.Call (.Name "set" p6) [] [] p7] pos) (gB (gBin dMeet ge ge2)) := by
  obtain ⟨ta, pa, ra⟩ := ha.ex
  obtain ⟨tb, pb, rb⟩ := hb.ex
  exact ⟨_, pt_cmpR (op_neS (by have := hr.un; omega)) (pe_meet0 hc g1 m1 pa pb na nb) (pe_callTy0 call_set0I g1 m1 PyProof.Rows.boot_set) hm, rd_test (rd_meet ra rb)⟩
end
end
end Fu

set_option maxHeartbeats 4000000
namespace Fu
open PySem PySem.Spec PyProof.Rows L2
section
variable {X : Cx} {pos apos p p2 : Pos} {a e o : Expr} {es : List Expr} {ga ge go : M D} {gs : M (List D)}
/-! ### str(n), int(text) -/
/-! ### split, partition, join -/
end

/-! ### head, *rest = a list -/
section
variable {prog : Program} {w : World} {A : Around} {E : Value → Shared → Prop} {s : Shared}
end
section
variable {X : Cx} {pos p : Pos} {e : Expr} {es : List Expr} {tg ts : List Nat} {g : D → Sx → Option Sx} {gs : List D → Sx → Option Sx}
end
end Fu

set_option maxHeartbeats 4000000
namespace Fu
open PySem

/-! ### data: shaped, equal -/
theorem shaped_iff {d : D} : SeqAt.shaped d = true ↔ d.canLay0 = true ∧ d.depth ≤ 64 := by
  unfold SeqAt.shaped
  rw [Bool.and_eq_true, decide_eq_true_eq]
@[simp] theorem shaped_int (i : Int) : SeqAt.shaped (.int i) = true := by simp [shaped_iff, PyData.canLay0, PyData.depth]
@[simp] theorem shaped_bool (b : Bool) : SeqAt.shaped (.bool b) = true := by simp [shaped_iff, PyData.canLay0, PyData.depth]
@[simp] theorem shaped_none : SeqAt.shaped .none = true := by simp [shaped_iff, PyData.canLay0, PyData.depth]
@[simp] theorem dEq_int (a b : Int) : dEq (.int a) (.int b) = some (.bool (decide (a = b))) := by
  simp [dEq, PyData.eqv, Bool.beq_eq_decide_eq]
@[simp] theorem dNe_int (a b : Int) : dNe (.int a) (.int b) = some (.bool (!decide (a = b))) := by
  simp [dNe, PyData.eqv, Bool.beq_eq_decide_eq]
theorem dEq_self {d : D} (h : SeqAt.shaped d = true) : dEq d d = some (.bool true) := by
  unfold dEq
  rw [if_pos ⟨h, h⟩, SeqAt.eqv_refl _ (shaped_iff.mp h).1]
/-- lists (tuples) of things of one shape, their depth at most n -/
def Fine (n : Nat) (d : D) : Prop := d.canLay0 = true ∧ d.depth ≤ n
theorem Fine.mono {m n : Nat} {d : D} (h : Fine m d) (l : m ≤ n) : Fine n d := ⟨h.1, Nat.le_trans h.2 l⟩
theorem Fine.shaped {n : Nat} {d : D} (h : Fine n d) (l : n ≤ 64 := by decide) : SeqAt.shaped d = true := shaped_iff.mpr ⟨h.1, Nat.le_trans h.2 l⟩
theorem fine_all {n : Nat} : ∀ {ds : List D}, (∀ d ∈ ds, Fine n d) → PyData.canLayAll0 ds = true ∧ PyData.depthAll ds ≤ n
  | [], _ => ⟨rfl, Nat.zero_le _⟩
  | d :: ds, h => by
    obtain ⟨a, b⟩ := fine_all fun e he => h e (List.mem_cons_of_mem _ he)
    have c := h d List.mem_cons_self
    exact ⟨by simp [PyData.canLayAll0, a, c.1], by simp only [PyData.depthAll]; exact Nat.max_le.mpr ⟨c.2, b⟩⟩
theorem fine_list {n : Nat} {ds : List D} (h : ∀ d ∈ ds, Fine n d) : Fine (n + 1) (.list ds) := by
  obtain ⟨a, b⟩ := fine_all h
  exact ⟨by simpa [PyData.canLay0] using a, by simp only [PyData.depth]; omega⟩
theorem fine_tup {n : Nat} {ds : List D} (h : ∀ d ∈ ds, Fine n d) : Fine (n + 1) (.tuple ds) := by
  obtain ⟨a, b⟩ := fine_all h
  exact ⟨by simpa [PyData.canLay0] using a, by simp only [PyData.depth]; omega⟩
theorem fine_int (i : Int) : Fine 0 (.int i) := ⟨by simp [PyData.canLay0], by simp [PyData.depth]⟩
theorem fine_str {x : Str} (h : PyData.strOk x = true) : Fine 0 (.str x) := ⟨by simpa [PyData.canLay0] using h, by simp [PyData.depth]⟩
/-- one sign -/
def ch (c : Nat) : D := .str ⟨#[c]⟩
theorem fine_ch {c : Nat} (h : c < 0x110000) : Fine 0 (ch c) := fine_str (by simp [PyData.strOk, h])
theorem ch_inj {a b : Nat} (h : ch a = ch b) : a = b := by
  unfold ch at h
  injection h with h
  injection h with h
  have := congrArg (fun z : Array Nat => z.toList) h
  simpa using this
theorem dEq_ch {a b : Nat} (ha : a < 0x110000) (hb : b < 0x110000) : dEq (ch a) (ch b) = some (.bool (decide (a = b))) := by
  unfold dEq
  rw [if_pos ⟨(fine_ch ha).shaped, (fine_ch hb).shaped⟩]
  congr 2
  unfold ch
  simp only [PyData.eqv]
  by_cases h : a = b
  · subst h; simp
  · rw [decide_eq_false h, beq_eq_false_iff_ne]
    intro e
    exact h (ch_inj (congrArg PyData.str e))
theorem dNe_ch {a b : Nat} (ha : a < 0x110000) (hb : b < 0x110000) : dNe (ch a) (ch b) = some (.bool (!decide (a = b))) := by
  have h := dEq_ch ha hb
  unfold dEq at h
  unfold dNe
  rw [if_pos ⟨(fine_ch ha).shaped, (fine_ch hb).shaped⟩] at h ⊢
  injection h with h
  injection h with h
  rw [h]

/-! ### comprehensions that change nothing else -/
theorem backS_same {old new : List (Option R)} {vs : List Nat} (h : wipeS new vs = wipeS old vs) : backS old new vs = old := by
  have hl : old.length = new.length := by
    have := congrArg List.length h
    rw [wipeS_len, wipeS_len] at this
    exact this.symm
  apply List.ext_getElem?
  intro n
  rw [backS_in hl]
  by_cases hn : n ∈ vs
  · rw [if_pos hn]
  · rw [if_neg hn]
    have := congrArg (fun l => l[n]?) h
    have h2 : (wipeS new vs)[n]? = (wipeS old vs)[n]? := this
    rwa [wipeS_out hn, wipeS_out hn] at h2
/-- the turns of a comprehension whose parts change nothing but its own names -/
theorem turns_pure {gg : D → Sx → Option Sx} {gt : M Bool} {ge : M D} {vs : List Nat} {b : D → Bool} {f : D → D} {w : List (Option R)} {os : List (Option Cell)} :
    ∀ (ds : List D) (sl : List (Option R)), wipeS sl vs = w → (∀ d ∈ ds, ∃ sl1, gg d ⟨w, os⟩ = some ⟨sl1, os⟩ ∧ wipeS sl1 vs = w ∧ gt ⟨sl1, os⟩ = some (b d, ⟨sl1, os⟩) ∧ (b d = true → ge ⟨sl1, os⟩ = some (f d, ⟨sl1, os⟩))) →
      ∃ sl', wipeS sl' vs = w ∧ gTurns gg gt ge vs ds ⟨sl, os⟩ = some ((ds.filter b).map f, ⟨sl', os⟩)
  | [], sl, e, _ => ⟨sl, e, rfl⟩
  | d :: ds, sl, e, h => by
    obtain ⟨sl1, h1, h2, h3, h4⟩ := h d List.mem_cons_self
    obtain ⟨sl', e', ih⟩ := turns_pure ds sl1 h2 fun x hx => h x (List.mem_cons_of_mem _ hx)
    refine ⟨sl', e', ?_⟩
    rw [gTurns]
    simp only [e, h1, h3, Option.bind_some]
    cases hb : b d with
    | true => simp [h4 hb, ih, hb]
    | false => simp [ih, hb]
/-! ### loops -/
theorem loop_inv {gg : D → Sx → Option Sx} {body : Sx → Option Out} (I : Nat → Sx → Prop) : ∀ (ds : List D) (n : Nat) (S : Sx), I n S → (∀ i d S, ds[i]? = some d → I (n + i) S → ∃ S1 S2, gg d S = some S1 ∧ body S1 = some (.nx S2) ∧ I (n + i + 1) S2) →
    ∃ S', gLoop gg body ds S = some (.nx S') ∧ I (n + ds.length) S'
  | [], n, S, h0, _ => ⟨S, rfl, h0⟩
  | d :: ds, n, S, h0, hs => by
    obtain ⟨S1, S2, h1, h2, h3⟩ := hs 0 d S rfl h0
    obtain ⟨S', h4, h5⟩ := loop_inv I ds (n + 1) S2 h3 fun i e T he hI => by
      have := hs (i + 1) e T (by simpa using he) (by rwa [show n + (i + 1) = n + 1 + i by omega])
      rwa [show n + (i + 1) + 1 = n + 1 + i + 1 by omega] at this
    refine ⟨S', ?_, by rwa [show n + (d :: ds).length = n + 1 + ds.length by simp; omega]⟩
    rw [gLoop]
    simp only [h1, h2, Option.bind_some]
    exact h4
theorem rng_mem {lo : Int} {n : Nat} {d : D} (h : d ∈ rng lo n) : ∃ i : Nat, i < n ∧ d = .int (lo + i) := by
  unfold rng at h
  obtain ⟨i, hi, rfl⟩ := List.mem_map.mp h
  exact ⟨i, List.mem_range.mp hi, rfl⟩
theorem rng_at {lo : Int} {n i : Nat} {d : D} (h : (rng lo n)[i]? = some d) : i < n ∧ d = .int (lo + i) := by
  unfold rng at h
  rw [List.getElem?_map] at h
  obtain ⟨j, hj, rfl⟩ := Option.map_eq_some_iff.mp h
  obtain ⟨h1, h2⟩ := List.getElem?_eq_some_iff.mp hj
  simp at h1 h2
  subst h2
  exact ⟨h1, rfl⟩
theorem atI_ok {α : Type} {xs : List α} {i : Int} (h0 : 0 ≤ i) (h1 : i < xs.length) : L2.atI xs i = xs[i.toNat]? := by
  unfold L2.atI L2.ixN
  rw [if_pos h0, if_pos h1]; rfl
theorem line_eq : sizeLine = 16777216 := sizeLine_eq
end Fu

set_option maxHeartbeats 4000000
namespace Fu
open PySem

/-! ### plain data: no truth value inside; there python's equality is equality -/
mutual
def plain : D → Bool
  | .none | .int _ | .str _ => true
  | .bool _ | .dict _ => false
  | .list xs | .tuple xs => plains xs
def plains : List D → Bool
  | [] => true
  | x :: xs => plain x && plains xs
end
theorem plains_all {xs : List D} : plains xs = true ↔ ∀ d ∈ xs, plain d = true := by
  induction xs with
  | nil => simp [plains]
  | cons x xs ih => simp [plains, ih]
/-- good data: plain, of shape, not deep -/
structure Good (n : Nat) (d : D) : Prop where
  fine : Fine n d
  plain : plain d = true
theorem Good.shaped {n : Nat} {d : D} (h : Good n d) (l : n ≤ 64 := by decide) : SeqAt.shaped d = true := h.fine.shaped l
theorem Good.mono {m n : Nat} {d : D} (h : Good m d) (l : m ≤ n) : Good n d := ⟨h.fine.mono l, h.plain⟩
theorem good_int (i : Int) : Good 0 (.int i) := ⟨fine_int i, rfl⟩
theorem good_list {n : Nat} {ds : List D} (h : ∀ d ∈ ds, Good n d) : Good (n + 1) (.list ds) := ⟨fine_list fun d hd => (h d hd).fine, plains_all.mpr fun d hd => (h d hd).plain⟩
open Classical in
open Classical in
/-! ### what a run answers, forwards -/
def Ev {α : Type} (x : Option (α × Sx)) (Q : α → Sx → Prop) : Prop := ∃ a S, x = some (a, S) ∧ Q a S
def Es (x : Option Sx) (Q : Sx → Prop) : Prop := ∃ S, x = some S ∧ Q S
def Eo (x : Option Out) (Q : Out → Prop) : Prop := ∃ o, x = some o ∧ Q o
def Ed {α : Type} (x : Option α) (Q : α → Prop) : Prop := ∃ d, x = some d ∧ Q d
theorem Ev.mono {α : Type} {x : Option (α × Sx)} {P Q : α → Sx → Prop} (h : Ev x P) (f : ∀ a S, P a S → Q a S) : Ev x Q := let ⟨a, S, e, p⟩ := h; ⟨a, S, e, f a S p⟩
theorem Eo.mono {x : Option Out} {P Q : Out → Prop} (h : Eo x P) (f : ∀ a, P a → Q a) : Eo x Q := let ⟨a, e, p⟩ := h; ⟨a, e, f a p⟩
theorem Ed.of {α : Type} {x : Option α} {d : α} {Q : α → Prop} (e : x = some d) (h : Q d) : Ed x Q := ⟨d, e, h⟩
theorem Ev.of {α : Type} {x : Option (α × Sx)} {d : α} {S : Sx} {Q : α → Sx → Prop} (e : x = some (d, S)) (h : Q d S) : Ev x Q := ⟨d, S, e, h⟩
theorem Ev.eq {α : Type} {x : Option (α × Sx)} {d : α} {S : Sx} (h : Ev x fun a T => a = d ∧ T = S) : x = some (d, S) := by
  obtain ⟨a, T, e, rfl, rfl⟩ := h; exact e
theorem Es.eq {x : Option Sx} {S : Sx} (h : Es x fun T => T = S) : x = some S := by
  obtain ⟨T, e, rfl⟩ := h; exact e
section
variable {α : Type} {S : Sx} {Q : D → Sx → Prop} {P : Bool → Sx → Prop} {L : List D → Sx → Prop} {O : Option Int → Sx → Prop} {Z : Out → Prop} {W : Sx → Prop}
theorem ev_c {d : D} (h : Q d S) : Ev (gC d S) Q := ⟨d, S, rfl, h⟩
theorem ev_var {sl : List (Option R)} {os : List (Option Cell)} {i : Nat} (h : ∃ d, sl[i]? = some (some (.dat d)) ∧ Q d ⟨sl, os⟩) : Ev (gVar i ⟨sl, os⟩) Q := by
  obtain ⟨d, e, h⟩ := h
  exact ⟨d, _, by unfold gVar; simp only [e], h⟩
theorem ev_bin {f : D → D → Option D} {ga gb : M D} (h : Ev (ga S) fun d S1 => Ev (gb S1) fun e S2 => Ed (f d e) fun z => Q z S2) : Ev (gBin f ga gb S) Q := by
  obtain ⟨d, S1, e1, e, S2, e2, z, e3, q⟩ := h
  exact ⟨z, S2, by simp only [gBin, e1, e2, e3, Option.bind_some], q⟩
theorem ev_un {f : D → Option D} {ga : M D} (h : Ev (ga S) fun d S1 => Ed (f d) fun z => Q z S1) : Ev (gUn f ga S) Q := by
  obtain ⟨d, S1, e1, z, e3, q⟩ := h
  exact ⟨z, S1, by simp only [gUn, e1, e3, Option.bind_some], q⟩
theorem ev_nil (h : L [] S) : Ev (gNil S) L := ⟨_, _, rfl, h⟩
theorem ev_cons {g : M D} {gs : M (List D)} (h : Ev (g S) fun d S1 => Ev (gs S1) fun ds S2 => L (d :: ds) S2) : Ev (gCons g gs S) L := by
  obtain ⟨d, S1, e1, e, S2, e2, q⟩ := h
  exact ⟨_, S2, by simp only [gCons, e1, e2, Option.bind_some], q⟩
theorem ev_tup {g : M (List D)} (h : Ev (g S) fun ds S1 => ds.length ≤ 16777216 ∧ Q (.tuple ds) S1) : Ev (gTup g S) Q := by
  obtain ⟨d, S1, e1, l, q⟩ := h
  exact ⟨_, S1, by simp only [gTup, e1, Option.bind_some, line_eq, if_pos l], q⟩
theorem ev_lst {g : M (List D)} (h : Ev (g S) fun ds S1 => ds.length ≤ 16777216 ∧ Q (.list ds) S1) : Ev (gLst g S) Q := by
  obtain ⟨d, S1, e1, l, q⟩ := h
  exact ⟨_, S1, by simp only [gLst, e1, Option.bind_some, line_eq, if_pos l], q⟩
theorem ev_call {f : List D → Option D} {g : M (List D)} (h : Ev (g S) fun ds S1 => Ed (f ds) fun z => Q z S1) : Ev (gCall f g S) Q := by
  obtain ⟨d, S1, e1, z, e3, q⟩ := h
  exact ⟨z, S1, by simp only [gCall, e1, e3, Option.bind_some], q⟩
theorem ev_callF {n : Nat} {f : List D → Option D} {g : M (List D)} (h : Ev (g S) fun ds S1 => ds.length = n ∧ Ed (f ds) fun z => Q z S1) : Ev (gCallF n f g S) Q := by
  obtain ⟨d, S1, e1, l, z, e3, q⟩ := h
  exact ⟨z, S1, by simp only [gCallF, e1, e3, Option.bind_some, if_pos l], q⟩
theorem ev_isi {T : String} {g : M D} (h : Ev (g S) fun d S1 => Q (.bool (isT T d)) S1) : Ev (gIsi T g S) Q := by
  obtain ⟨d, S1, e1, q⟩ := h
  exact ⟨_, S1, by simp only [gIsi, e1, Option.bind_some], q⟩
theorem ev_isi2 {T U : String} {g : M D} (h : Ev (g S) fun d S1 => Q (.bool (isT T d || isT U d)) S1) : Ev (gIsi2 T U g S) Q := by
  obtain ⟨d, S1, e1, q⟩ := h
  exact ⟨_, S1, by simp only [gIsi2, e1, Option.bind_some], q⟩
theorem ev_andV {g k : M D} (h : Ev (g S) fun d S1 => ∃ b, d = .bool b ∧ (b = true → Ev (k S1) fun e S2 => ∃ c, e = .bool c ∧ Q (.bool c) S2) ∧ (b = false → Q (.bool false) S1)) : Ev (gAndV g k S) Q := by
  obtain ⟨d, S1, e1, b, rfl, h1, h2⟩ := h
  cases b with
  | true => 
    obtain ⟨e, S2, e2, c, rfl, q⟩ := h1 rfl
    exact ⟨_, S2, by simp [gAndV, e1, e2], q⟩
  | false => exact ⟨_, S1, by simp [gAndV, e1], h2 rfl⟩
theorem ev_orV {g k : M D} (h : Ev (g S) fun d S1 => ∃ b, d = .bool b ∧ (b = false → Ev (k S1) fun e S2 => ∃ c, e = .bool c ∧ Q (.bool c) S2) ∧ (b = true → Q (.bool true) S1)) : Ev (gOrV g k S) Q := by
  obtain ⟨d, S1, e1, b, rfl, h1, h2⟩ := h
  cases b with
  | false => 
    obtain ⟨e, S2, e2, c, rfl, q⟩ := h1 rfl
    exact ⟨_, S2, by simp [gOrV, e1, e2], q⟩
  | true => exact ⟨_, S1, by simp [gOrV, e1], h2 rfl⟩
theorem ev_notV {g : M D} (h : Ev (g S) fun d S1 => ∃ b, d = .bool b ∧ Q (.bool !b) S1) : Ev (gNotV g S) Q := by
  obtain ⟨d, S1, e1, b, rfl, q⟩ := h
  exact ⟨_, S1, by simp [gNotV, e1], q⟩
theorem ev_B {g : M D} (h : Ev (g S) fun d S1 => ∃ b, d = .bool b ∧ P b S1) : Ev (gB g S) P := by
  obtain ⟨d, S1, e1, b, rfl, q⟩ := h
  exact ⟨b, S1, by simp only [gB, e1, Option.bind_some], q⟩
theorem ev_and {g k : M Bool} (h : Ev (g S) fun b S1 => (b = true → Ev (k S1) P) ∧ (b = false → P false S1)) : Ev (gAnd g k S) P := by
  obtain ⟨b, S1, e1, h1, h2⟩ := h
  cases b with
  | true => 
    obtain ⟨c, S2, e2, q⟩ := h1 rfl
    exact ⟨_, S2, by simp [gAnd, e1, e2], q⟩
  | false => exact ⟨_, S1, by simp [gAnd, e1], h2 rfl⟩
theorem ev_or {g k : M Bool} (h : Ev (g S) fun b S1 => (b = false → Ev (k S1) P) ∧ (b = true → P true S1)) : Ev (gOr g k S) P := by
  obtain ⟨b, S1, e1, h1, h2⟩ := h
  cases b with
  | false => 
    obtain ⟨c, S2, e2, q⟩ := h1 rfl
    exact ⟨_, S2, by simp [gOr, e1, e2], q⟩
  | true => exact ⟨_, S1, by simp [gOr, e1], h2 rfl⟩
theorem ev_not {g : M Bool} (h : Ev (g S) fun b S1 => P (!b) S1) : Ev (gNot g S) P := by
  obtain ⟨b, S1, e1, q⟩ := h
  exact ⟨_, S1, by simp [gNot, e1], q⟩
theorem ev_yes (h : P true S) : Ev (gYes S) P := ⟨_, _, rfl, h⟩
theorem ev_if {t : M Bool} {g k : M D} (h : Ev (t S) fun b S1 => (b = true → Ev (g S1) Q) ∧ (b = false → Ev (k S1) Q)) : Ev (gIf t g k S) Q := by
  obtain ⟨b, S1, e1, h1, h2⟩ := h
  cases b with
  | true => 
    obtain ⟨c, S2, e2, q⟩ := h1 rfl
    exact ⟨_, S2, by simp [gIf, e1, e2], q⟩
  | false =>
    obtain ⟨c, S2, e2, q⟩ := h2 rfl
    exact ⟨_, S2, by simp [gIf, e1, e2], q⟩
theorem ev_no (h : O none S) : Ev (gNo S) O := ⟨_, _, rfl, h⟩
theorem ev_so {g : M D} (h : Ev (g S) fun d S1 => ∃ i, d = .int i ∧ O (some i) S1) : Ev (gSo g S) O := by
  obtain ⟨d, S1, e1, i, rfl, q⟩ := h
  exact ⟨_, S1, by simp only [gSo, e1, Option.bind_some], q⟩
theorem ev_sl {g : M D} {gl gh : M (Option Int)} (h : Ev (g S) fun d S1 => Ev (gl S1) fun lo S2 => Ev (gh S2) fun hi S3 => Ed (dSl d lo hi) fun z => Q z S3) : Ev (gSl g gl gh S) Q := by
  obtain ⟨d, S1, e1, lo, S2, e2, hi, S3, e3, z, e4, q⟩ := h
  exact ⟨z, S3, by simp only [gSl, e1, e2, e3, e4, Option.bind_some], q⟩
theorem ev_items {g : M D} (h : Ev (g S) fun d S1 => Ed (itemsOf d) fun xs => L xs S1) : Ev (gItems g S) L := by
  obtain ⟨d, S1, e1, xs, e2, q⟩ := h
  exact ⟨xs, S1, by simp only [gItems, e1, e2, Option.bind_some], q⟩
theorem ev_rng1 {g : M (List D)} (h : Ev (g S) fun ds S1 => ∃ n : Int, ds = [.int n] ∧ -4611686018427387904 ≤ n ∧ n ≤ 16777216 ∧ L (rng 0 n.toNat) S1) : Ev (gRng1 g S) L := by
  obtain ⟨ds, S1, e1, n, rfl, l1, l2, q⟩ := h
  exact ⟨_, S1, by simp only [gRng1, e1, Option.bind_some, line_eq]; rw [if_pos ⟨by omega, by omega⟩], q⟩
theorem ev_rng2 {g : M (List D)} (h : Ev (g S) fun ds S1 => ∃ i j : Int, ds = [.int i, .int j] ∧ -4294967296 ≤ i ∧ i ≤ 4294967296 ∧ -4294967296 ≤ j ∧ j ≤ 4294967296 ∧ j - i ≤ 16777216 ∧ L (rng i (j - i).toNat) S1) : Ev (gRng2 g S) L := by
  obtain ⟨ds, S1, e1, i, j, rfl, l1, l2, l3, l4, l5, q⟩ := h
  exact ⟨_, S1, by simp only [gRng2, e1, Option.bind_some, line_eq]; rw [if_pos ⟨by omega, by omega, by omega, by omega, by omega⟩], q⟩
/-- a comprehension that changes nothing else -/
theorem ev_lc {gi : M (List D)} {gg : D → Sx → Option Sx} {gt : M Bool} {ge : M D} {vs : List Nat} (b : D → Bool) (f : D → D)
    (h : Ev (gi S) fun ds S1 => (∀ d ∈ ds, Es (gg d ⟨wipeS S1.sl vs, S1.os⟩) fun S2 => wipeS S2.sl vs = wipeS S1.sl vs ∧ S2.os = S1.os ∧ Ev (gt S2) fun c S3 => S3 = S2 ∧ c = b d ∧ (b d = true → Ev (ge S2) fun e S4 => e = f d ∧ S4 = S2)) ∧ Q (.list ((ds.filter b).map f)) S1) : Ev (gLc gi gg gt ge vs S) Q := by
  obtain ⟨ds, ⟨sl1, os1⟩, e1, h1, q⟩ := h
  obtain ⟨sl', e', ht⟩ := turns_pure (gg := gg) (gt := gt) (ge := ge) (b := b) (f := f) ds sl1 rfl fun d hd => by
    obtain ⟨⟨sl2, os2⟩, e2, e3, e4, c, S3, e5, e6, e7, e8⟩ := h1 d hd
    cases e4
    subst e7 e6
    exact ⟨sl2, e2, e3, e5, fun hb => (e8 hb).eq⟩
  refine ⟨_, _, ?_, q⟩
  unfold gLc
  rw [e1]
  simp only [Option.bind_some, ht, backS_same e']
theorem ev_map {gi : M (List D)} {gg : D → Sx → Option Sx} {ge : M D} {vs : List Nat} (f : D → D)
    (h : Ev (gi S) fun ds S1 => (∀ d ∈ ds, Es (gg d ⟨wipeS S1.sl vs, S1.os⟩) fun S2 => wipeS S2.sl vs = wipeS S1.sl vs ∧ S2.os = S1.os ∧ Ev (ge S2) fun e S4 => e = f d ∧ S4 = S2) ∧ Q (.list (ds.map f)) S1) : Ev (gLc gi gg gYes ge vs S) Q := by
  refine ev_lc (fun _ => true) f ?_
  refine h.mono fun ds S1 h => ⟨fun d hd => ?_, by rw [List.filter_eq_self.mpr fun _ _ => rfl]; exact h.2⟩
  obtain ⟨S2, e2, e3, e4, e5⟩ := h.1 d hd
  exact ⟨S2, e2, e3, e4, ev_yes ⟨rfl, rfl, fun _ => e5⟩⟩
theorem es_name {i : Nat} {d : D} (h : W ⟨S.sl.set i (some (.dat d)), S.os⟩) : Es (sName i d S) W := ⟨_, rfl, h⟩
theorem es_tup2 {i j : Nat} {d e : D} (h : W ⟨(S.sl.set i (some (.dat d))).set j (some (.dat e)), S.os⟩) : Es (sTup 2 (sCons (sName i) (sCons (sName j) sNil)) (.tuple [d, e]) S) W := ⟨_, rfl, h⟩
theorem es_tup3 {i j k : Nat} {d e f : D} (h : W ⟨((S.sl.set i (some (.dat d))).set j (some (.dat e))).set k (some (.dat f)), S.os⟩) : Es (sTup 3 (sCons (sName i) (sCons (sName j) (sCons (sName k) sNil))) (.tuple [d, e, f]) S) W := ⟨_, rfl, h⟩
/-- what goes on after a statement -/
def Then (h : Sx → Option Out) (Z : Out → Prop) : Out → Prop
  | .nx S => Eo (h S) Z
  | .rt d S => Z (.rt d S)
  | .bk S => Z (.bk S)
  | .ct S => Z (.ct S)
  | .ro j S => Z (.ro j S)
theorem eo_seq {g h : Sx → Option Out} (e : Eo (g S) (Then h Z)) : Eo (qSeq g h S) Z := by
  obtain ⟨o, e1, q⟩ := e
  cases o with
  | nx S1 =>
    obtain ⟨o2, e2, q⟩ := q
    exact ⟨o2, by simp only [qSeq, e1, Option.bind_some, e2], q⟩
  | _ => exact ⟨_, by simp only [qSeq, e1, Option.bind_some], q⟩
theorem then_nx' {h : Sx → Option Out} {S1 : Sx} (e : ∃ S2, S1 = S2 ∧ Eo (h S2) Z) : Then h Z (.nx S1) := by obtain ⟨_, rfl, e⟩ := e; exact e
theorem eo_nx (h : Z (.nx S)) : Eo (qNx S) Z := ⟨_, rfl, h⟩
theorem eo_drop {g : M D} (h : Ev (g S) fun _ S1 => Z (.nx S1)) : Eo (qDrop g S) Z := by
  obtain ⟨d, S1, e1, q⟩ := h
  exact ⟨_, by simp only [qDrop, e1, Option.bind_some], q⟩
theorem eo_ret {g : M D} (h : Ev (g S) fun d S1 => Z (.rt d S1)) : Eo (qRet g S) Z := by
  obtain ⟨d, S1, e1, q⟩ := h
  exact ⟨_, by simp only [qRet, e1, Option.bind_some], q⟩
theorem eo_retN (h : Z (.rt .none S)) : Eo (qRetN S) Z := ⟨_, rfl, h⟩
theorem eo_if {t : M Bool} {g k : Sx → Option Out} (h : Ev (t S) fun b S1 => (b = true → Eo (g S1) Z) ∧ (b = false → Eo (k S1) Z)) : Eo (qIf t g k S) Z := by
  obtain ⟨b, S1, e1, h1, h2⟩ := h
  cases b with
  | true =>
    obtain ⟨c, e2, q⟩ := h1 rfl
    exact ⟨_, by simp [qIf, e1, e2], q⟩
  | false =>
    obtain ⟨c, e2, q⟩ := h2 rfl
    exact ⟨_, by simp [qIf, e1, e2], q⟩
theorem eo_set {i : Nat} {g : M D} (h : Ev (g S) fun d S1 => Z (.nx ⟨S1.sl.set i (some (.dat d)), S1.os⟩)) : Eo (qSet i g S) Z := by
  obtain ⟨d, S1, e1, q⟩ := h
  exact ⟨_, by simp only [qSet, e1, Option.bind_some], q⟩
theorem eo_asg {gg : D → Sx → Option Sx} {g : M D} (h : Ev (g S) fun d S1 => Es (gg d S1) fun S2 => Z (.nx S2)) : Eo (qAsg gg g S) Z := by
  obtain ⟨d, S1, e1, S2, e2, q⟩ := h
  exact ⟨_, by simp only [qAsg, e1, e2, Option.bind_some], q⟩
theorem eo_par {i j : Nat} {g : M (List D)} (h : Ev (g S) fun ds S1 => ∃ d e, ds = [d, e] ∧ Z (.nx ⟨(S1.sl.set i (some (.dat d))).set j (some (.dat e)), S1.os⟩)) : Eo (qPar i j g S) Z := by
  obtain ⟨ds, S1, e1, d, e, rfl, q⟩ := h
  exact ⟨_, by simp only [qPar, e1, Option.bind_some], q⟩
theorem eo_own {i : Nat} {g : M D} (h : Ev (g S) fun d S1 => ∃ ds, d = .list ds ∧ Z (.nx ⟨S1.sl.set i (some (.own S1.os.length)), S1.os ++ [some (.lst ds)]⟩)) : Eo (qOwn i g S) Z := by
  obtain ⟨d, S1, e1, ds, rfl, q⟩ := h
  exact ⟨_, by simp only [qOwn, e1, Option.bind_some], q⟩
theorem eo_retO {g : M D} (h : Ev (g S) fun d S1 => ∃ ds, d = .list ds ∧ Z (.ro S1.os.length ⟨S1.sl, S1.os ++ [some (.lst ds)]⟩)) : Eo (qRetO g S) Z := by
  obtain ⟨d, S1, e1, ds, rfl, q⟩ := h
  exact ⟨_, by simp only [qRetO, e1, Option.bind_some], q⟩
theorem eo_for {gi : M (List D)} {gg : D → Sx → Option Sx} {body : Sx → Option Out} (h : Ev (gi S) fun ds S1 => Eo (gLoop gg body ds S1) Z) : Eo (qFor gi gg body S) Z := by
  obtain ⟨ds, S1, e1, o, e2, q⟩ := h
  exact ⟨_, by simp only [qFor, e1, Option.bind_some, e2], q⟩
theorem eo_loop {gg : D → Sx → Option Sx} {body : Sx → Option Out} {ds : List D} (I : Nat → Sx → Prop) (h0 : I 0 S) (hs : ∀ i d S, ds[i]? = some d → I i S → Es (gg d S) fun S1 => Eo (body S1) fun o => ∃ S2, o = .nx S2 ∧ I (i + 1) S2) (hz : ∀ S', I ds.length S' → Z (.nx S')) : Eo (gLoop gg body ds S) Z := by
  obtain ⟨S', e, q⟩ := loop_inv (gg := gg) (body := body) I ds 0 S h0 fun i d S h1 h2 => by
    rw [Nat.zero_add] at h2 ⊢
    obtain ⟨S1, e1, o, e2, S2, rfl, q⟩ := hs i d S h1 h2
    exact ⟨S1, S2, e1, e2, q⟩
  rw [Nat.zero_add] at q
  exact ⟨_, e, hz S' q⟩
end

theorem then_rt {h : Sx → Option Out} {Z : Out → Prop} {d : D} {S : Sx} (q : Z (.rt d S)) : Then h Z (.rt d S) := q
theorem split_t {A B : Prop} {b : Bool} (e : b = true) (h : A) : (b = true → A) ∧ (b = false → B) := ⟨fun _ => h, fun k => by rw [e] at k; cases k⟩
theorem split_f {A B : Prop} {b : Bool} (e : b = false) (h : B) : (b = true → A) ∧ (b = false → B) := ⟨fun k => (by rw [e] at k; cases k), fun _ => h⟩
theorem split_t' {A B : Prop} {b : Bool} (e : b = true) (h : A) : (b = false → B) ∧ (b = true → A) := ⟨fun k => (by rw [e] at k; cases k), fun _ => h⟩
theorem split_f' {A B : Prop} {b : Bool} (e : b = false) (h : B) : (b = false → B) ∧ (b = true → A) := ⟨fun _ => h, fun k => by rw [e] at k; cases k⟩
/-! ### whole defs -/
def Gives (z : D) : Out → Prop
  | .rt d _ => d = z
  | .nx _ => z = .none
  | _ => False
theorem mF_of {n : Nat} {g : Sx → Option Out} {ds : List D} {z : D} (h : Eo (g ⟨initS n ds, []⟩) (Gives z)) : mF n g ds = some z := by
  obtain ⟨o, e, q⟩ := h
  unfold mF
  rw [e]
  cases o with
  | nx S => cases q; rfl
  | rt d S => cases q; rfl
  | _ => exact q.elim
theorem gives_rt {z d : D} {S : Sx} (h : d = z) : Gives z (.rt d S) := h
@[simp] theorem gives_rtI {z d : D} {S : Sx} : Gives z (.rt d S) ↔ d = z := Iff.rfl
theorem gives_nx {S : Sx} : Gives .none (.nx S) := rfl
def GivesO (Q : D → List D → Prop) : Out → Prop
  | .rt d S => ∃ cs, cellOf S 0 = some cs ∧ Q d cs
  | .nx S => ∃ cs, cellOf S 0 = some cs ∧ Q .none cs
  | _ => False
theorem mIO_of {n : Nat} {g : Sx → Option Out} {cs ds : List D} {Q : D → List D → Prop} (h : Eo (g ⟨some (.own 0) :: initS (n - 1) ds, [some (.lst cs)]⟩) (GivesO Q)) : ∃ d cs', mIO n g cs ds = some (d, cs') ∧ Q d cs' := by
  obtain ⟨o, e, q⟩ := h
  unfold mIO
  rw [e]
  cases o with
  | nx S => obtain ⟨cs', e, q⟩ := q; exact ⟨_, cs', by simp [e], q⟩
  | rt d S => obtain ⟨cs', e, q⟩ := q; exact ⟨_, cs', by simp [e], q⟩
  | _ => exact q.elim
theorem ev_IO {sl : List (Option R)} {os : List (Option Cell)} {i n : Nat} {f : List D → List D → Option (D × List D)} {g : M (List D)} {Q : D → Sx → Prop}
    (h : ∃ j, sl[i]? = some (some (.own j)) ∧ Ev (g ⟨sl, os⟩) fun ds S1 => ∃ cs, S1.os[j]? = some (some (.lst cs)) ∧ ds.length = n ∧ ∃ d cs', f cs ds = some (d, cs') ∧ Q d ⟨S1.sl, S1.os.set j (some (.lst cs'))⟩) : Ev (gIO i n f g ⟨sl, os⟩) Q := by
  obtain ⟨j, hi, ds, S1, e1, cs, e2, l, d, cs', e3, q⟩ := h
  exact ⟨d, _, by simp only [gIO, hi, e1, e2, e3, Option.bind_some, if_pos l], q⟩
theorem ev_ixO {sl : List (Option R)} {os : List (Option Cell)} {i : Nat} {gb : M D} {Q : D → Sx → Prop}
    (h : ∃ j cs, sl[i]? = some (some (.own j)) ∧ os[j]? = some (some (.lst cs)) ∧ Ev (gb ⟨sl, os⟩) fun d S1 => ∃ n, d = .int n ∧ S1 = ⟨sl, os⟩ ∧ Ed (L2.atI cs n) fun e => Q e ⟨sl, os⟩) : Ev (gIxO i gb ⟨sl, os⟩) Q := by
  obtain ⟨j, cs, hi, hc, d, S1, e1, n, rfl, rfl, e, e2, q⟩ := h
  exact ⟨e, _, by simp only [gIxO, ownOf, cellOf, hi, hc, e1, e2, Option.bind_some], q⟩
theorem eo_setO {S : Sx} {i : Nat} {gb ge : M D} {Z : Out → Prop} (h : Ev (ge S) fun d S1 => ∃ j cs, S1.sl[i]? = some (some (.own j)) ∧ S1.os[j]? = some (some (.lst cs)) ∧ Ev (gb S1) fun n S2 => S2 = S1 ∧ ∃ k : Nat, n = .int k ∧ k < cs.length ∧ Z (.nx ⟨S1.sl, S1.os.set j (some (.lst (cs.set k d)))⟩)) : Eo (qSetO i gb ge S) Z := by
  obtain ⟨d, S1, e1, j, cs, hi, hc, n, S2, e2, rfl, k, rfl, l, q⟩ := h
  refine ⟨_, ?_, q⟩
  have : L2.ixN cs.length (k : Int) = some k := by
    unfold L2.ixN
    rw [if_pos (by omega), if_pos (by omega)]; simp
  simp only [qSetO, e1, Option.bind_some, ownOf, cellOf, hi, hc, e2, this, setCell]
theorem ev_app {S : Sx} {i : Nat} {ge : M D} {Q : D → Sx → Prop} (hi : ∃ j cs, S.sl[i]? = some (some (.own j)) ∧ S.os[j]? = some (some (.lst cs)) ∧ Ev (ge S) fun d S1 => ∃ cs, S1.os[j]? = some (some (.lst cs)) ∧ cs.length < 16777216 ∧ Q .none ⟨S1.sl, S1.os.set j (some (.lst (cs ++ [d])))⟩) : Ev (gApp i ge S) Q := by
  obtain ⟨j, cs, h1, h2, d, S1, e1, cs1, h3, l, q⟩ := hi
  refine ⟨_, _, ?_, q⟩
  simp only [gApp, ownOf, h1, h2, cellOf, Option.bind_some, e1, h3, line_eq, if_pos l, setCell]
theorem ev_ext {S : Sx} {i : Nat} {ge : M D} {Q : D → Sx → Prop} (hi : ∃ j cs, S.sl[i]? = some (some (.own j)) ∧ S.os[j]? = some (some (.lst cs)) ∧ Ev (ge S) fun d S1 => ∃ xs, d = .list xs ∧ ∃ cs, S1.os[j]? = some (some (.lst cs)) ∧ cs.length + xs.length ≤ 16777216 ∧ Q .none ⟨S1.sl, S1.os.set j (some (.lst (cs ++ xs)))⟩) : Ev (gExt i ge S) Q := by
  obtain ⟨j, cs, h1, h2, d, S1, e1, xs, rfl, cs1, h3, l, q⟩ := hi
  refine ⟨_, _, ?_, q⟩
  simp only [gExt, ownOf, h1, h2, cellOf, Option.bind_some, e1, h3, line_eq, if_pos l, setCell]
theorem ev_lenO {sl : List (Option R)} {os : List (Option Cell)} {i : Nat} {Q : D → Sx → Prop} (h : ∃ j cs, sl[i]? = some (some (.own j)) ∧ os[j]? = some (some (.lst cs)) ∧ Q (.int cs.length) ⟨sl, os⟩) : Ev (gLenO i ⟨sl, os⟩) Q := by
  obtain ⟨j, cs, hi, hc, h⟩ := h
  exact ⟨_, _, by simp only [gLenO, ownOf, cellOf, hi, hc, Option.bind_some], h⟩
theorem ev_scrSl {sl : List (Option R)} {os : List (Option Cell)} {i : Nat} {gl gh : M (Option Int)} {Q : D → Sx → Prop} (h : ∃ ns, sl[i]? = some (some (.scr ns)) ∧ Ev (gl ⟨sl, os⟩) fun lo S1 => Ev (gh S1) fun hi S2 => Q (.list ((cutL ns lo hi).map .int)) S2) : Ev (gScrSl i gl gh ⟨sl, os⟩) Q := by
  obtain ⟨ns, hi, lo, S1, e1, hi2, S2, e2, h⟩ := h
  exact ⟨_, _, by simp only [gScrSl, scrOf, hi, Option.bind_some, e1, e2], h⟩
theorem ev_scrLen {sl : List (Option R)} {os : List (Option Cell)} {i : Nat} {Q : D → Sx → Prop} (h : ∃ ns : List Int, sl[i]? = some (some (.scr ns)) ∧ Q (.int ns.length) ⟨sl, os⟩) : Ev (gScrLen i ⟨sl, os⟩) Q := by
  obtain ⟨ns, hi, h⟩ := h
  exact ⟨_, _, by simp only [gScrLen, scrOf, hi, Option.bind_some], h⟩
theorem ev_callScr {sl : List (Option R)} {os : List (Option Cell)} {i : Nat} {f : List Int → Option (List D)} {Q : D → Sx → Prop} (h : ∃ ns : List Int, sl[i]? = some (some (.scr ns)) ∧ Ed (f ns) fun z => Q (.list z) ⟨sl, os⟩) : Ev (gCallScr i f ⟨sl, os⟩) Q := by
  obtain ⟨ns, hi, z, e, h⟩ := h
  exact ⟨_, _, by simp only [gCallScr, scrOf, hi, Option.bind_some, e], h⟩
theorem mScrN_of {n : Nat} {g : Sx → Option Out} {ns : List Int} {Q : List D → Prop} (h : Eo (g ⟨some (.scr ns) :: List.replicate (n - 1) none, []⟩) fun o => ∃ j S cs, o = .ro j S ∧ cellOf S j = some cs ∧ Q cs) : ∃ cs, mScrN n g ns = some cs ∧ Q cs := by
  obtain ⟨_, e, j, S, cs, rfl, h, q⟩ := h
  exact ⟨cs, by unfold mScrN; simp only [e, Option.bind_some, h], q⟩
theorem mScr_of {n : Nat} {g : Sx → Option Out} {ns : List Int} {z : D} (h : Eo (g ⟨some (.scr ns) :: List.replicate (n - 1) none, []⟩) fun o => ∃ S, o = .rt z S) : mScr n g ns = some z := by
  obtain ⟨_, e, S, rfl⟩ := h
  unfold mScr; simp only [e, Option.bind_some]

/-! ### operations on data -/
section
variable {Q : D → Prop} {i j : Int} {xs ys : List D}
theorem ed_addI (h : Q (.int (i + j))) : Ed (dAdd (.int i) (.int j)) Q := ⟨_, rfl, h⟩
theorem ed_subI (h : Q (.int (i - j))) : Ed (dSub (.int i) (.int j)) Q := ⟨_, rfl, h⟩
theorem ed_addL (l : xs.length + ys.length ≤ 16777216) (h : Q (.list (xs ++ ys))) : Ed (dAdd (.list xs) (.list ys)) Q := ⟨_, by simp only [dAdd, line_eq, if_pos l], h⟩
theorem ed_mulI (l : L2.CMulW i j) (h : Q (.int (i * j))) : Ed (dMul (.int i) (.int j)) Q := ⟨_, by simp only [dMul, if_pos l], h⟩
theorem ed_divI (l : L2.CDivW i j) (h : Q (.int (i / j))) : Ed (dDiv (.int i) (.int j)) Q := ⟨_, by simp only [dDiv, if_pos l], h⟩
theorem ed_modI (l : 0 < j) (h : Q (.int (i % j))) : Ed (dMod (.int i) (.int j)) Q := ⟨_, by simp only [dMod, if_pos l], h⟩
theorem ed_cmp {p : Int → Int → Bool} (h : Q (.bool (p i j))) : Ed (dCmp p (.int i) (.int j)) Q := ⟨_, rfl, h⟩
theorem ed_eqI (h : Q (.bool (decide (i = j)))) : Ed (dEq (.int i) (.int j)) Q := ⟨_, dEq_int i j, h⟩
theorem ed_neI (h : Q (.bool (!decide (i = j)))) : Ed (dNe (.int i) (.int j)) Q := ⟨_, dNe_int i j, h⟩
theorem ed_ixT {d : D} (h0 : 0 ≤ i) (e : xs[i.toNat]? = some d) (h : Q d) : Ed (dIx (.tuple xs) (.int i)) Q := ⟨d, by
  have hl := (List.getElem?_eq_some_iff.mp e).1
  show L2.atI xs i = _
  rw [atI_ok h0 (by omega), e], h⟩
theorem ed_ixL {d : D} (h0 : 0 ≤ i) (e : xs[i.toNat]? = some d) (h : Q d) : Ed (dIx (.list xs) (.int i)) Q := ⟨d, by
  have hl := (List.getElem?_eq_some_iff.mp e).1
  show L2.atI xs i = _
  rw [atI_ok h0 (by omega), e], h⟩
theorem ed_at {d : D} {Q : D → Prop} (h0 : 0 ≤ i) (e : xs[i.toNat]? = some d) (h : Q d) : Ed (L2.atI xs i) Q := ed_ixT h0 e h
theorem ed_slT {lo hi : Option Int} (h : Q (.tuple (cutL xs lo hi))) : Ed (dSl (.tuple xs) lo hi) Q := ⟨_, rfl, h⟩
theorem ed_slL {lo hi : Option Int} (h : Q (.list (cutL xs lo hi))) : Ed (dSl (.list xs) lo hi) Q := ⟨_, rfl, h⟩
theorem ed_lenT (h : Q (.int xs.length)) : Ed (dLen [.tuple xs]) Q := ⟨_, rfl, h⟩
theorem ed_lenL (h : Q (.int xs.length)) : Ed (dLen [.list xs]) Q := ⟨_, rfl, h⟩
theorem ed_lenS {x : Str} (h : Q (.int x.length)) : Ed (dLen [.str x]) Q := ⟨_, rfl, h⟩
theorem ed_inS {c : Nat} {y : Str} (h : Q (.bool (decide (c ∈ y.cps.toList)))) : Ed (dIn (.str ⟨#[c]⟩) (.str y)) Q := ⟨_, by simp only [dIn]; rw [PySem.StrLaws.found_one], h⟩
theorem ed_powI (l : L2.CPow i j) (h : Q (.int (i ^ j.toNat))) : Ed (dPow (.int i) (.int j)) Q := ⟨_, by simp only [dPow, if_pos l], h⟩
theorem ed_neg (h : Q (.int (-i))) : Ed (dNeg (.int i)) Q := ⟨_, rfl, h⟩
theorem ed_max (h : Q (.int (max i j))) : Ed (dMax2 [.int i, .int j]) Q := ⟨_, rfl, by
  have : (if j > i then j else i) = max i j := by split <;> omega
  rw [this]; exact h⟩
theorem ed_min (h : Q (.int (min i j))) : Ed (dMin2 [.int i, .int j]) Q := ⟨_, rfl, by
  have : (if j < i then j else i) = min i j := by split <;> omega
  rw [this]; exact h⟩
theorem ed_intB {b : Bool} (h : Q (.int (if b then 1 else 0))) : Ed (dInt [.bool b]) Q := ⟨_, rfl, h⟩
theorem ed_ixS {x : Str} {c : Nat} (h0 : 0 ≤ i) (e : x.cps.toList[i.toNat]? = some c) (h : Q (ch c)) : Ed (dIx (.str x) (.int i)) Q := ⟨_, by
  have hl := (List.getElem?_eq_some_iff.mp e).1
  show (L2.atI x.cps.toList i).bind _ = _
  rw [atI_ok h0 (by omega), e]; rfl, h⟩
theorem ed_itT {Q : List D → Prop} (h : Q xs) : Ed (itemsOf (.tuple xs)) Q := ⟨_, rfl, h⟩
theorem ed_itL {Q : List D → Prop} (h : Q xs) : Ed (itemsOf (.list xs)) Q := ⟨_, rfl, h⟩
theorem ed_tupL (h : Q (.tuple xs)) : Ed (dTuple [.list xs]) Q := ⟨_, rfl, h⟩
theorem ed_tupT (h : Q (.tuple xs)) : Ed (dTuple [.tuple xs]) Q := ⟨_, rfl, h⟩
theorem ed_listL (h : Q (.list xs)) : Ed (dList [.list xs]) Q := ⟨_, rfl, h⟩
theorem ed_listT (h : Q (.list xs)) : Ed (dList [.tuple xs]) Q := ⟨_, rfl, h⟩
end
theorem allBools_fn {α : Type} (f : α → Bool) : ∀ xs : List α, allBools (xs.map fun a => .bool (f a)) = some (xs.map f)
  | [] => rfl
  | a :: xs => by simp [allBools, allBools_fn f xs]
theorem all_map {α : Type} (f : α → Bool) (xs : List α) : dAll [.list (xs.map fun a => .bool (f a))] = some (.bool (xs.all f)) := by
  simp only [dAll, allBools_fn, Option.bind_some]; rw [List.all_map]; rfl
theorem cut_to {α : Type} {xs : List α} {i : Int} (h : 0 ≤ i) : cutL xs none (some i) = xs.take i.toNat := by
  unfold cutL HT.sIx
  simp only [if_neg (show ¬ i < 0 by omega), List.drop_zero, Nat.sub_zero]
  rw [← List.take_take]
  simp [Nat.min_def]
theorem cut_from {α : Type} {xs : List α} {i : Int} (h : 0 ≤ i) : cutL xs (some i) none = xs.drop i.toNat := by
  unfold cutL HT.sIx
  simp only [if_neg (show ¬ i < 0 by omega)]
  by_cases l : i.toNat ≤ xs.length
  · rw [Nat.min_eq_left l, List.take_of_length_le (by simp)]
  · rw [Nat.min_eq_right (by omega), List.drop_of_length_le (Nat.le_refl _), List.drop_of_length_le (by omega), List.take_nil]
/-! ### comprehensions of two clauses -/
theorem ev_varO {sl : List (Option R)} {os : List (Option Cell)} {i : Nat} {Q : D → Sx → Prop} (h : ∃ j cs, sl[i]? = some (some (.own j)) ∧ os[j]? = some (some (.lst cs)) ∧ Q (.list cs) ⟨sl.set i (some (.dat (.list cs))), os.set j none⟩) : Ev (gVar i ⟨sl, os⟩) Q := by
  obtain ⟨j, cs, e1, e2, h⟩ := h
  exact ⟨_, _, by unfold gVar; simp only [e1, e2], h⟩
theorem ed_pick {Q P : D → Prop} {xs : List D} {i : Int} (h0 : 0 ≤ i) (h1 : i < xs.length) (hp : ∀ x ∈ xs, P x) (h : ∀ x, P x → Q x) : Ed (dIx (.list xs) (.int i)) Q := by
  have hl : i.toNat < xs.length := by omega
  exact ed_ixL h0 (List.getElem?_eq_getElem hl) (h _ (hp _ (List.getElem_mem hl)))
theorem ed_eq_self {Q : D → Prop} {d e : D} {n : Nat} (x : d = e) (g : Good n d) (q : Q (.bool true)) (l : n ≤ 64 := by decide) : Ed (dEq d e) Q := by
  subst x
  exact Ed.of (dEq_self (g.shaped l)) q
open Classical in
open Classical in
/-! ### comprehensions whose item changes the lists -/
theorem ev_zip {S : Sx} {L : List D → Sx → Prop} {g : M (List D)} (h : Ev (g S) fun ds S1 => (∃ xs ys, ds = [.list xs, .list ys] ∧ L (zipD xs ys) S1) ∨ (∃ xs ys, ds = [.tuple xs, .tuple ys] ∧ L (zipD xs ys) S1)) : Ev (gZip g S) L := by
  obtain ⟨ds, S1, e1, h⟩ := h
  rcases h with ⟨xs, ys, rfl, h⟩ | ⟨xs, ys, rfl, h⟩
  · exact ⟨_, _, by simp only [gZip, e1, Option.bind_some], h⟩
  · exact ⟨_, _, by simp only [gZip, e1, Option.bind_some], h⟩
theorem zipD_map {α β : Type} (f : α → D) (g : β → D) : ∀ (xs : List α) (ys : List β), zipD (xs.map f) (ys.map g) = (xs.zip ys).map fun p => .tuple [f p.1, g p.2]
  | [], _ => rfl
  | _ :: _, [] => rfl
  | x :: xs, y :: ys => by
    rw [List.map_cons, List.map_cons, zipD, zipD_map f g xs ys]; rfl
/-! ### how many unlike ones -/
theorem dedup_len : ∀ (l acc : List Int), acc.Nodup → (l.foldl PyProof.Rows.step_dedup acc).length ≤ acc.length + l.length ∧ ((l.foldl PyProof.Rows.step_dedup acc).length = acc.length + l.length ↔ (acc ++ l).Nodup)
  | [], acc, h => by simp [h]
  | x :: l, acc, h => by
    simp only [List.foldl_cons, PyProof.Rows.step_dedup]
    by_cases hx : acc.any (· == x) = true
    · rw [if_pos hx]
      obtain ⟨h1, h2⟩ := dedup_len l acc h
      refine ⟨by simp only [List.length_cons]; omega, ⟨fun e => ?_, fun e => ?_⟩⟩
      · simp only [List.length_cons] at e; omega
      · exfalso
        obtain ⟨y, hy, e2⟩ := List.any_eq_true.mp hx
        have e2 : y = x := by simpa using e2
        subst e2
        exact (List.nodup_append.mp e).2.2 y hy y List.mem_cons_self rfl
    · rw [if_neg hx]
      have hm : x ∉ acc := fun z => hx (List.any_eq_true.mpr ⟨x, z, by simp⟩)
      have hn : (acc ++ [x]).Nodup := by
        rw [List.nodup_append]
        exact ⟨h, by simp, fun a ha b hb => by rw [List.mem_singleton.mp hb]; exact fun e => hm (e ▸ ha)⟩
      obtain ⟨h1, h2⟩ := dedup_len l (acc ++ [x]) hn
      simp only [List.length_append, List.length_cons, List.length_nil, List.append_assoc, List.cons_append, List.nil_append] at h1 h2 ⊢
      refine ⟨by omega, ?_⟩
      rw [← h2]
      constructor <;> intro e <;> omega
theorem unlike_iff {ns : List Int} : unlike ns = ns.length ↔ ns.Nodup := by
  have e : (List.range ns.length).map (fun i => ns.getD i 0) = ns := by
    apply List.ext_getElem?
    intro i
    rw [List.getElem?_map]
    by_cases h : i < ns.length
    · rw [List.getElem?_range h]
      simp [List.getD_eq_getElem?_getD, h]
    · rw [List.getElem?_eq_none (by simpa using h), List.getElem?_eq_none (by omega)]; rfl
  unfold unlike PyProof.Rows.firstMet
  rw [e]
  have := (dedup_len ns [] (by simp)).2
  simpa using this
theorem ed_lenSet {Q : D → Prop} {ns : List Int} (l : ns.length ≤ 4000) (h : Q (.int (unlike ns : Nat))) : Ed (dLenSet (.list (ns.map .int))) Q := ⟨_, by simp only [dLenSet, allInts_of, Option.bind_some, if_pos l], h⟩
theorem ed_rev {Q : D → Prop} {xs : List D} (h : Q (.list xs.reverse)) : Ed (dRevL (.list xs)) Q := ⟨_, rfl, h⟩
theorem ev_listRng1 {S : Sx} {Q : D → Sx → Prop} {g : M D} (h : Ev (g S) fun d S1 => ∃ n : Int, d = .int n ∧ -4611686018427387904 ≤ n ∧ n ≤ 16777216 ∧ Q (.list (rng 0 n.toNat)) S1) : Ev (gListRng1 g S) Q := by
  obtain ⟨ds, S1, e1, n, rfl, l1, l2, q⟩ := h
  exact ⟨_, S1, by simp only [gListRng1, e1, Option.bind_some]; rw [if_pos ⟨by omega, by omega⟩], q⟩
theorem ev_OL {sl : List (Option R)} {os : List (Option Cell)} {i : Nat} {f : D → D → Option D} {gb : M D} {Q : D → Sx → Prop} (h : ∃ j cs0, sl[i]? = some (some (.own j)) ∧ os[j]? = some (some (.lst cs0)) ∧ Ev (gb ⟨sl, os⟩) fun d S1 => ∃ cs, S1.os[j]? = some (some (.lst cs)) ∧ Ed (f (.list cs) d) fun z => ∃ b, z = .bool b ∧ Q (.bool b) S1) : Ev (gOL f i gb ⟨sl, os⟩) Q := by
  obtain ⟨j, cs0, h1, h2, d, S1, e1, cs, h3, z, e2, b, rfl, q⟩ := h
  exact ⟨_, _, by simp only [gOL, ownOf, cellOf, h1, h2, e1, h3, e2, Option.bind_some], q⟩
theorem ev_OR {S : Sx} {i : Nat} {f : D → D → Option D} {gb : M D} {Q : D → Sx → Prop} (h : Ev (gb S) fun d S1 => ∃ j cs, S1.sl[i]? = some (some (.own j)) ∧ S1.os[j]? = some (some (.lst cs)) ∧ Ed (f d (.list cs)) fun z => ∃ b, z = .bool b ∧ Q (.bool b) S1) : Ev (gOR f gb i S) Q := by
  obtain ⟨d, S1, e1, j, cs, h1, h2, z, e2, b, rfl, q⟩ := h
  exact ⟨_, _, by simp only [gOR, ownOf, cellOf, h1, h2, e1, e2, Option.bind_some], q⟩
theorem ev_popAt {S : Sx} {i : Nat} {ge : M D} {Q : D → Sx → Prop} (hi : ∃ j cs0, S.sl[i]? = some (some (.own j)) ∧ S.os[j]? = some (some (.lst cs0)) ∧ Ev (ge S) fun d S1 => ∃ cs n, S1.os[j]? = some (some (.lst cs)) ∧ d = .int n ∧ 0 ≤ n ∧ ∃ e, cs[n.toNat]? = some e ∧ Q e ⟨S1.sl, S1.os.set j (some (.lst (cs.eraseIdx n.toNat)))⟩) : Ev (gPopAt i ge S) Q := by
  obtain ⟨j, cs0, h1, h2, d, S1, e1, cs, n, h3, rfl, n0, e, he, q⟩ := hi
  have hl := (List.getElem?_eq_some_iff.mp he).1
  refine ⟨e, _, ?_, q⟩
  simp only [gPopAt, ownOf, cellOf, h1, h2, e1, h3, Option.bind_some, setCell]
  rw [if_pos ⟨n0, by omega⟩, he]; rfl
theorem ev_rep {S : Sx} {f : D → D → Option D} {ga gb : M D} {Q : D → Sx → Prop} (h : Ev (gBin f ga gb S) fun d S1 => ∃ ds, d = .list ds ∧ Q (.list ds) S1) : Ev (gRep f ga gb S) Q := by
  obtain ⟨d, S1, e1, ds, rfl, q⟩ := h
  exact ⟨_, _, by simp only [gRep, e1, Option.bind_some], q⟩
theorem ed_atLast {xs : List D} {d : D} {Q : D → Prop} (e : xs.getLast? = some d) (q : Q d) : Ed (L2.atI xs (-1)) Q := by
  refine ⟨d, ?_, q⟩
  have h0 : 0 < xs.length := by
    cases xs with
    | nil => simp at e
    | cons x xs => simp
  unfold L2.atI L2.ixN
  rw [if_neg (by decide), if_pos (by omega)]
  show xs[((-1 : Int) + (xs.length : Int)).toNat]? = _
  rw [show ((-1 : Int) + (xs.length : Int)).toNat = xs.length - 1 by omega, ← List.getLast?_eq_getElem?]
  exact e
end Fu

set_option maxHeartbeats 16000000
namespace Lw
open PySem PySem.Spec PyProof.Rows L2 RZ Fu
def g_is_whole : Sx → Option Out :=
  (qRet (gAndV (gIsi "int" (gVar 0)) (gAndV (gNotV (gIsi "bool" (gVar 0))) (gBin dGe (gVar 0) (gC (.int 0))))))
def m_is_whole := mF 1 g_is_whole
def g_is_row : Sx → Option Out :=
  (qRet (gAndV (gIsi2 "list" "tuple" (gVar 0)) (gBin dEq (gCall dLen (gCons (gVar 0) gNil)) (gVar 1))))
def m_is_row := mF 2 g_is_row
def g_place_of : Sx → Option Out :=
  (qRet (gBin dIx (gBin dIx (gBin dIx (gVar 0) (gC (.int 1))) (gBin dIx (gVar 1) (gC (.int 0)))) (gBin dIx (gVar 1) (gC (.int 1)))))
def m_place_of := mF 2 g_place_of
def g_is_end : Sx → Option Out :=
  (qSeq (qIf (gOr (gNot (gB (gCallF 2 m_is_row (gCons (gVar 1) (gCons (gC (.int 2)) gNil))))) (gOr (gNot (gB (gCallF 1 m_is_whole (gCons (gBin dIx (gVar 1) (gC (.int 0))) gNil)))) (gNot (gB (gCallF 1 m_is_whole (gCons (gBin dIx (gVar 1) (gC (.int 1))) gNil)))))) (qRet (gC (.bool false))) qNx) (qRet (gAndV (gBin dLt (gBin dIx (gVar 1) (gC (.int 0))) (gCall dLen (gCons (gBin dIx (gVar 0) (gC (.int 1))) gNil))) (gBin dLt (gBin dIx (gVar 1) (gC (.int 1))) (gC (.int 2))))))
def m_is_end := mF 2 g_is_end
def g_company_of : Sx → Option Out :=
  (qRet (gBin dIx (gBin dIx (gBin dIx (gVar 0) (gC (.int 1))) (gBin dIx (gVar 1) (gC (.int 0)))) (gC (.int 2))))
def m_company_of := mF 2 g_company_of
def g__law_spring : Sx → Option Out :=
  (qSeq (qSet 1 (gC (.int 0))) (qSeq (qSet 2 (gC (.int 88651))) (qSeq (qFor (gItems (gScrSl 0 gNo (gSo (gC (.int 63))))) (sName 3) (qSeq (qIf (gB (gBin dGe (gCall dAbs (gCons (gVar 3) gNil)) (gBin dPow (gC (.int 10)) (gC (.int 18))))) (qSet 1 (gBin dAdd (gBin dMul (gVar 1) (gBin dPow (gC (.int 10)) (gC (.int 60)))) (gBin dMod (gCall dAbs (gCons (gVar 3) gNil)) (gBin dPow (gC (.int 10)) (gC (.int 60)))))) qNx) (qSet 2 (gBin dMod (gBin dAdd (gBin dAdd (gBin dMul (gVar 2) (gC (.int 69069))) (gBin dMod (gVar 3) (gC (.int 2305843009213693921)))) (gC (.int 7))) (gC (.int 2305843009213693951)))))) (qRetO (gLst (gCons (gVar 1) (gCons (gVar 2) (gCons (gC (.int 0)) gNil))))))))
def m__law_spring := mScrN 4 g__law_spring
def g__law_draw_k15 : Sx → Option Out :=
  (qSeq (qIf (gB (gBin dGt (gIxO 0 (gC (.int 0))) (gC (.int 0)))) (qSeq (qSet 2 (gBin dMod (gIxO 0 (gC (.int 0))) (gVar 1))) (qSeq (qSetO 0 (gC (.int 0)) (gBin dDiv (gIxO 0 (gC (.int 0))) (gVar 1))) (qRet (gVar 2)))) qNx) (qSeq (qSetO 0 (gC (.int 2)) (gBin dAdd (gIxO 0 (gC (.int 2))) (gC (.int 1)))) (qSeq (qSet 3 (gBin dMod (gBin dMul (gIxO 0 (gC (.int 1))) (gIxO 0 (gC (.int 1)))) (gC (.int 2305843009213693951)))) (qSeq (qSetO 0 (gC (.int 1)) (gBin dMod (gBin dAdd (gBin dAdd (gVar 3) (gBin dMul (gBin dMul (gC (.int 7919)) (gIxO 0 (gC (.int 2)))) (gIxO 0 (gC (.int 1))))) (gC (.int 104729))) (gC (.int 2305843009213693951)))) (qRet (gBin dMod (gBin dDiv (gIxO 0 (gC (.int 1))) (gC (.int 65537))) (gVar 1)))))))
def m__law_draw_k15 := mIO 4 g__law_draw_k15
def g__law_at : Sx → Option Out :=
  (qRet (gBin dIx (gBin dIx (gBin dIx (gVar 0) (gC (.int 1))) (gBin dIx (gVar 1) (gC (.int 0)))) (gBin dIx (gVar 1) (gC (.int 1)))))
def m__law_at := mF 2 g__law_at
def g__law_other : Sx → Option Out :=
  (qRet (gTup (gCons (gBin dIx (gVar 0) (gC (.int 0))) (gCons (gBin dSub (gC (.int 1)) (gBin dIx (gVar 0) (gC (.int 1)))) gNil))))
def m__law_other := mF 1 g__law_other
def g__law_goes : Sx → Option Out :=
  (qSeq (qIf (gB (gBin dNe (gCallF 2 m__law_at (gCons (gVar 0) (gCons (gCallF 1 m__law_other (gCons (gVar 1) gNil)) gNil))) (gCallF 2 m__law_at (gCons (gVar 0) (gCons (gVar 2) gNil))))) (qRet (gC (.bool false))) qNx) (qRet (gBin dNe (gBin dIx (gBin dIx (gBin dIx (gVar 0) (gC (.int 1))) (gBin dIx (gVar 1) (gC (.int 0)))) (gC (.int 2))) (gBin dIx (gBin dIx (gBin dIx (gVar 0) (gC (.int 1))) (gBin dIx (gVar 2) (gC (.int 0)))) (gC (.int 2))))))
def m__law_goes := mF 3 g__law_goes
def g__law_is_end_k15 : Sx → Option Out :=
  (qSeq (qIf (gOr (gNot (gB (gIsi2 "list" "tuple" (gVar 1)))) (gB (gBin dNe (gCall dLen (gCons (gVar 1) gNil)) (gC (.int 2))))) (qRet (gC (.bool false))) qNx) (qSeq (qIf (gB (gBin dNe (gLc (gItems (gVar 1)) (sName 2) (gOr (gB (gIsi "bool" (gVar 2))) (gNot (gB (gIsi "int" (gVar 2))))) (gVar 2) [2]) (gLst gNil))) (qRet (gC (.bool false))) qNx) (qRet (gAndV (gChain dLe dLt (gC (.int 0)) (gBin dIx (gVar 1) (gC (.int 0))) (gCall dLen (gCons (gBin dIx (gVar 0) (gC (.int 1))) gNil))) (gChain dLe dLe (gC (.int 0)) (gBin dIx (gVar 1) (gC (.int 1))) (gC (.int 1)))))))
def m__law_is_end_k15 := mF 3 g__law_is_end_k15
def g__law_is_ride : Sx → Option Out :=
  (qSeq (qIf (gOr (gNot (gB (gIsi2 "list" "tuple" (gVar 1)))) (gB (gBin dEq (gCall dLen (gCons (gVar 1) gNil)) (gC (.int 0))))) (qRet (gC (.bool false))) qNx) (qSeq (qIf (gB (gBin dNe (gLc (gItems (gVar 1)) (sName 3) (gNot (gB (gCallF 2 m__law_is_end_k15 (gCons (gVar 0) (gCons (gVar 3) gNil))))) (gVar 3) [3]) (gLst gNil))) (qRet (gC (.bool false))) qNx) (qSeq (qSet 2 (gLc (gItems (gVar 1)) (sName 3) gYes (gBin dIx (gVar 3) (gC (.int 0))) [3])) (qSeq (qIf (gB (gBin dNe (gLc (gItems (gVar 2)) (sName 4) (gB (gBin dGt (gBin dCount (gVar 2) (gVar 4)) (gC (.int 1)))) (gVar 4) [4]) (gLst gNil))) (qRet (gC (.bool false))) qNx) (qRet (gBin dEq (gLc (gRng2 (gCons (gC (.int 1)) (gCons (gCall dLen (gCons (gVar 1) gNil)) gNil))) (sName 5) (gNot (gB (gCallF 3 m__law_goes (gCons (gVar 0) (gCons (gBin dIx (gVar 1) (gBin dSub (gVar 5) (gC (.int 1)))) (gCons (gBin dIx (gVar 1) (gVar 5)) gNil)))))) (gVar 5) [5]) (gLst gNil)))))))
def m__law_is_ride := mF 6 g__law_is_ride
def g__law_lists (self : List D → Option D) : Sx → Option Out :=
  (qRet (gIf (gB (gIsi2 "list" "tuple" (gVar 0))) (gLc (gItems (gVar 0)) (sName 1) gYes (gCallF 1 self (gCons (gVar 1) gNil)) [1]) (gVar 0)))
def m__law_lists : Nat → List D → Option D
  | 0 => fun _ => none
  | n + 1 => mF 2 (g__law_lists (m__law_lists n))
def g__law_handed : Sx → Option Out :=
  (qRet (gIf (gB (gBin dGt (gIO 0 1 m__law_draw_k15 (gCons (gC (.int 3)) gNil)) (gC (.int 0)))) (gVar 1) (gCallF 1 (m__law_lists 8) (gCons (gVar 1) gNil))))
def m__law_handed := mIO 2 g__law_handed
def g_far_end : Sx → Option Out :=
  (qRet (gTup (gCons (gBin dIx (gVar 0) (gC (.int 0))) (gCons (gBin dSub (gC (.int 1)) (gBin dIx (gVar 0) (gC (.int 1)))) gNil))))
def m_far_end := mF 1 g_far_end
def g_can_go_on : Sx → Option Out :=
  (qSeq (qIf (gB (gBin dNe (gCallF 2 m_place_of (gCons (gVar 0) (gCons (gCallF 1 m_far_end (gCons (gVar 1) gNil)) gNil))) (gCallF 2 m_place_of (gCons (gVar 0) (gCons (gVar 2) gNil))))) (qRet (gC (.bool false))) qNx) (qRet (gBin dNe (gCallF 2 m_company_of (gCons (gVar 0) (gCons (gVar 1) gNil))) (gCallF 2 m_company_of (gCons (gVar 0) (gCons (gVar 2) gNil))))))
def m_can_go_on := mF 3 g_can_go_on
def g_ride_is : Sx → Option Out :=
  (qSeq (qIf (gOr (gNot (gB (gIsi2 "list" "tuple" (gVar 1)))) (gOr (gB (gBin dEq (gCall dLen (gCons (gVar 1) gNil)) (gC (.int 0)))) (gNot (gB (gCall dAll (gCons (gLc (gItems (gVar 1)) (sName 2) gYes (gCallF 2 m_is_end (gCons (gVar 0) (gCons (gVar 2) gNil))) [2]) gNil)))))) (qRet (gC (.bool false))) qNx) (qSeq (qIf (gB (gBin dNe (gUn dLenSet (gLc (gItems (gVar 1)) (sName 2) gYes (gBin dIx (gVar 2) (gC (.int 0))) [2])) (gCall dLen (gCons (gVar 1) gNil)))) (qRet (gC (.bool false))) qNx) (qRet (gCall dAll (gCons (gLc (gZip (gCons (gVar 1) (gCons (gSl (gVar 1) (gSo (gC (.int 1))) gNo) gNil))) (sTup 2 (sCons (sName 2) (sCons (sName 3) sNil))) gYes (gCallF 3 m_can_go_on (gCons (gVar 0) (gCons (gVar 2) (gCons (gVar 3) gNil)))) [2, 3]) gNil)))))
def m_ride_is := mF 4 g_ride_is
def g_round_is : Sx → Option Out :=
  (qRet (gAndV (gCallF 2 m_ride_is (gCons (gVar 0) (gCons (gVar 1) gNil))) (gCallF 3 m_can_go_on (gCons (gVar 0) (gCons (gBin dIx (gVar 1) (gUn dNeg (gC (.int 1)))) (gCons (gBin dIx (gVar 1) (gC (.int 0))) gNil))))))
def m_round_is := mF 2 g_round_is
def g__law_is_round : Sx → Option Out :=
  (qRet (gAndV (gCallF 2 m__law_is_ride (gCons (gVar 0) (gCons (gVar 1) gNil))) (gCallF 3 m__law_goes (gCons (gVar 0) (gCons (gBin dIx (gVar 1) (gUn dNeg (gC (.int 1)))) (gCons (gBin dIx (gVar 1) (gC (.int 0))) gNil))))))
def m__law_is_round := mF 2 g__law_is_round
def g__law_word : Sx → Option Out :=
  (qSeq (qIf (gNot (gB (gIsE 0 ["NoRide"] fun _ => true))) (qRet (gC (.str "odd"))) qNx) (qSeq (qSet 1 (gLst (gCons (gIsE 0 ["NoRide"] fun c => decide (c = "NoRide")) (gCons (gIsE 0 ["NoRide"] fun c => decide (c = "NoNumber")) gNil)))) (qSeq (qIf (gB (gIsE 0 ["NoRide"] fun c => (decide (c = "NoCompany") || (decide (c = "NoEnd") || (decide (c = "NoForm") || (decide (c = "NoLine") || (decide (c = "NoPlace") || (decide (c = "NoText") || (decide (c = "NoTurning") || (decide (c = "NoWeb") || (decide (c = "NoneYet") || (decide (c = "TooMany") || false)))))))))))) (qRet (gC (.str "odd"))) qNx) (qRet (gIf (gB (gBin dEq (gBin dCount (gVar 1) (gC (.bool true))) (gC (.int 1)))) (gBin dIx (gLst (gCons (gC (.str "NoRide")) (gCons (gC (.str "NoNumber")) gNil))) (gBin dIndex (gVar 1) (gC (.bool true)))) (gC (.str "odd")))))))
def m__law_word := mX 2 g__law_word
def g_faced_about : Sx → Option Out :=
  (qRet (gLc (gItems (gUn dRevL (gVar 0))) (sName 1) gYes (gCallF 1 m_far_end (gCons (gVar 1) gNil)) [1]))
def m_faced_about := mF 2 g_faced_about
def g_all_ways : Sx → Option Out :=
  (qSeq (qOwn 1 (gLst gNil)) (qSeq (qFor (gItems (gTup (gCons (gVar 0) (gCons (gCallF 1 m_faced_about (gCons (gVar 0) gNil)) gNil)))) (sName 2) (qDrop (gExt 1 (gLc (gRng1 (gCons (gCall dLen (gCons (gVar 2) gNil)) gNil)) (sName 3) gYes (gBin dAdd (gSl (gVar 2) (gSo (gVar 3)) gNo) (gSl (gVar 2) gNo (gSo (gVar 3)))) [3])))) (qRet (gVar 1))))
def m_all_ways := mF 4 g_all_ways
def g_need_round_Z : Sx → Option (Zr Out) :=
  (zSeq (zIf (gNot (gB (gCallF 2 m_round_is (gCons (gVar 0) (gCons (gVar 1) gNil))))) (zRaise "NoRide") (zS qNx)) (zS (qRet (gLc (gItems (gVar 1)) (sName 2) gYes (gCall dTuple (gCons (gVar 2) gNil)) [2]))))
def m_need_round_Z := mZ 3 g_need_round_Z
def g_joined : Sx → Option Out :=
  (qSeq (qFor (gEnumA (gCons (gVar 1) gNil)) (sTup 2 (sCons (sName 3) (sCons (sName 4) sNil))) (qSeq (qSet 5 (gBin dAdd (gSl (gVar 1) (gSo (gVar 3)) gNo) (gSl (gVar 1) gNo (gSo (gVar 3))))) (qFor (gItems (gCallF 1 m_all_ways (gCons (gVar 2) gNil))) (sName 6) (qIf (gB (gBin dEq (gCallF 2 m_place_of (gCons (gVar 0) (gCons (gVar 4) gNil))) (gCallF 2 m_place_of (gCons (gVar 0) (gCons (gBin dIx (gVar 6) (gC (.int 0))) gNil))))) (qIf (gAnd (gB (gCallF 3 m_can_go_on (gCons (gVar 0) (gCons (gBin dIx (gVar 5) (gUn dNeg (gC (.int 1)))) (gCons (gBin dIx (gVar 6) (gC (.int 0))) gNil))))) (gB (gCallF 3 m_can_go_on (gCons (gVar 0) (gCons (gBin dIx (gVar 6) (gUn dNeg (gC (.int 1)))) (gCons (gBin dIx (gVar 5) (gC (.int 0))) gNil)))))) (qRet (gBin dAdd (gVar 5) (gVar 6))) qNx) qNx)))) (qRet (gC .none)))
def m_joined := mF 7 g_joined
def g_made_one_Z : Sx → Option (Zr Out) :=
  (zSeq (zSet 3 (zCall 2 m_need_round_Z (gCons (gVar 0) (gCons (gVar 1) gNil)))) (zSeq (zSet 4 (zCall 2 m_need_round_Z (gCons (gVar 0) (gCons (gVar 2) gNil)))) (zSeq (zIf (gB (gBin dMeet (gLc (gItems (gVar 3)) (sName 5) gYes (gBin dIx (gVar 5) (gC (.int 0))) [5]) (gLc (gItems (gVar 4)) (sName 5) gYes (gBin dIx (gVar 5) (gC (.int 0))) [5]))) (zRaise "NoRide") (zS qNx)) (zS (qRet (gCallF 3 m_joined (gCons (gVar 0) (gCons (gVar 3) (gCons (gVar 4) gNil)))))))))
def m_made_one_Z := mZ 6 g_made_one_Z
def g__law_lined : Sx → Option Out :=
  (qSeq (qSet 1 (gBin dIx (gLst (gCons (gTup (gCons (gC (.int 0)) (gCons (gC (.int 1)) gNil))) (gCons (gTup (gCons (gC (.int 1)) (gCons (gC (.int 0)) gNil))) (gCons (gTup (gCons (gC (.int 1)) (gCons (gC (.int 2)) gNil))) (gCons (gTup (gCons (gC (.int 2)) (gCons (gC (.int 0)) gNil))) gNil))))) (gIO 0 1 m__law_draw_k15 (gCons (gC (.int 4)) gNil)))) (qSeq (qSet 2 (gBin dAdd (gC (.int 4)) (gIO 0 1 m__law_draw_k15 (gCons (gC (.int 6)) gNil)))) (qSeq (qOwn 3 (gLst gNil)) (qSeq (qFor (gRng1 (gCons (gVar 2) gNil)) (sName 4) (qSeq (qSet 5 (gIO 0 1 m__law_draw_k15 (gCons (gC (.int 2)) gNil))) (qDrop (gApp 3 (gTup (gCons (gBin dIx (gVar 1) (gVar 5)) (gCons (gBin dIx (gVar 1) (gBin dSub (gC (.int 1)) (gVar 5))) (gCons (gBin dIx (gC (.str "abcdefghi")) (gVar 4)) gNil)))))))) (qRet (gTup (gCons (gTup (gCons (gC (.int 3)) (gCons (gCall dTuple (gCons (gVar 3) gNil)) gNil))) (gCons (gVar 1) gNil))))))))
def m__law_lined := mIO 6 g__law_lined
def g__law_there_and_back : Sx → Option Out :=
  (qSeq (qOwn 3 (gListRng1 (gCall dLen (gCons (gBin dIx (gVar 1) (gC (.int 1))) gNil)))) (qSeq (qSet 4 (gIO 0 1 m__law_draw_k15 (gCons (gC (.int 2)) gNil))) (qSeq (qOwn 5 (gLst gNil)) (qSeq (qFor (gRng1 (gCons (gBin dAdd (gC (.int 2)) (gBin dMul (gC (.int 2)) (gIO 0 1 m__law_draw_k15 (gCons (gC (.int 2)) gNil)))) gNil)) (sName 6) (qSeq (qSet 7 (gPopAt 3 (gIO 0 1 m__law_draw_k15 (gCons (gLenO 3) gNil)))) (qDrop (gApp 5 (gTup (gCons (gVar 7) (gCons (gCall dInt (gCons (gBin dNe (gBin dIx (gBin dIx (gBin dIx (gVar 1) (gC (.int 1))) (gVar 7)) (gC (.int 0))) (gBin dIx (gVar 2) (gBin dMod (gBin dAdd (gVar 4) (gVar 6)) (gC (.int 2))))) gNil)) gNil))))))) (qRet (gVar 5))))))
def m__law_there_and_back := mIO 8 g__law_there_and_back
def g__law_right_k85 : Sx → Option Out :=
  (qSeq (qSet 4 (gLc (gItems (gVar 2)) (sName 8) (gB (gBin dIn (gBin dIx (gVar 8) (gC (.int 0))) (gLc (gItems (gVar 3)) (sName 9) gYes (gBin dIx (gVar 9) (gC (.int 0))) [9]))) (gVar 8) [8])) (qSeq (qSet 5 (gC .none)) (qSeq (qSet 6 (gC .none)) (qSeq (qTry ["NoRide"] 7 5 (zSet 6 (zCall 3 m_made_one_Z (gCons (gIO 0 1 m__law_handed (gCons (gVar 1) gNil)) (gCons (gIO 0 1 m__law_handed (gCons (gVar 2) gNil)) (gCons (gIO 0 1 m__law_handed (gCons (gVar 3) gNil)) gNil)))))) (qSeq (qIf (gB (gBin dNe (gVar 4) (gLst gNil))) (qRet (gAndV (gNotN 5) (gBin dEq (gCallX 5 m__law_word) (gC (.str "NoRide"))))) qNx) (qSeq (qIf (gOr (gB (gNotN 5)) (gOr (gNot (gB (gIsi "list" (gVar 6)))) (gNot (gB (gCallF 2 m__law_is_round (gCons (gVar 1) (gCons (gVar 6) gNil))))))) (qRet (gC (.bool false))) qNx) (qRet (gBin dEq (gCall dSorted (gCons (gLc (gItems (gVar 6)) (sName 8) gYes (gBin dIx (gVar 8) (gC (.int 0))) [8]) gNil)) (gCall dSorted (gCons (gLc (gItems (gBin dAdd (gVar 2) (gVar 3))) (sName 8) gYes (gBin dIx (gVar 8) (gC (.int 0))) [8]) gNil))))))))))
def m__law_right_k85 := mIO 10 g__law_right_k85
end Lw

set_option maxHeartbeats 4000000
namespace Fu
open PySem
/-! ### comprehensions over typed items -/
theorem turns_typed {α : Type} {gg : D → Sx → Option Sx} {gt : M Bool} {ge : M D} {vs : List Nat} {b : α → Bool} {enc f : α → D} {w : List (Option R)} {os : List (Option Cell)} :
    ∀ (xs : List α) (sl : List (Option R)), wipeS sl vs = w → (∀ x ∈ xs, ∃ sl1, gg (enc x) ⟨w, os⟩ = some ⟨sl1, os⟩ ∧ wipeS sl1 vs = w ∧ gt ⟨sl1, os⟩ = some (b x, ⟨sl1, os⟩) ∧ (b x = true → ge ⟨sl1, os⟩ = some (f x, ⟨sl1, os⟩))) →
      ∃ sl', wipeS sl' vs = w ∧ gTurns gg gt ge vs (xs.map enc) ⟨sl, os⟩ = some ((xs.filter b).map f, ⟨sl', os⟩)
  | [], sl, e, _ => ⟨sl, e, rfl⟩
  | x :: xs, sl, e, h => by
    obtain ⟨sl1, h1, h2, h3, h4⟩ := h x List.mem_cons_self
    obtain ⟨sl', e', ih⟩ := turns_typed xs sl1 h2 fun y hy => h y (List.mem_cons_of_mem _ hy)
    refine ⟨sl', e', ?_⟩
    rw [List.map_cons, gTurns]
    simp only [e, h1, h3, Option.bind_some]
    cases hb : b x with
    | true => simp [h4 hb, ih, hb]
    | false => simp [ih, hb]
theorem ev_lcX {α : Type} {S : Sx} {Q : D → Sx → Prop} {gi : M (List D)} {gg : D → Sx → Option Sx} {gt : M Bool} {ge : M D} {vs : List Nat} {xs : List α} {enc : α → D} {b : α → Bool} {g : α → D}
    (h : Ev (gi S) fun ds S1 => ds = xs.map enc ∧ (∀ x ∈ xs, Es (gg (enc x) ⟨wipeS S1.sl vs, S1.os⟩) fun S2 => wipeS S2.sl vs = wipeS S1.sl vs ∧ S2.os = S1.os ∧ Ev (gt S2) fun c S3 => S3 = S2 ∧ c = b x ∧ (b x = true → Ev (ge S2) fun e S4 => e = g x ∧ S4 = S2)) ∧ Q (.list ((xs.filter b).map g)) S1) : Ev (gLc gi gg gt ge vs S) Q := by
  obtain ⟨ds, ⟨sl1, os1⟩, e1, rfl, h1, q⟩ := h
  obtain ⟨sl', e', ht⟩ := turns_typed (gg := gg) (gt := gt) (ge := ge) (b := b) (enc := enc) (f := g) xs sl1 rfl fun d hd => by
    obtain ⟨⟨sl2, os2⟩, e2, e3, e4, c, S3, e5, e6, e7, e8⟩ := h1 d hd
    cases e4
    subst e7 e6
    exact ⟨sl2, e2, e3, e5, fun hb => (e8 hb).eq⟩
  refine ⟨_, _, ?_, q⟩
  unfold gLc
  rw [e1]
  simp only [Option.bind_some, ht, backS_same e']
theorem ev_mapX {α : Type} {S : Sx} {Q : D → Sx → Prop} {gi : M (List D)} {gg : D → Sx → Option Sx} {ge : M D} {vs : List Nat} {xs : List α} {enc : α → D} {g : α → D}
    (h : Ev (gi S) fun ds S1 => ds = xs.map enc ∧ (∀ x ∈ xs, Es (gg (enc x) ⟨wipeS S1.sl vs, S1.os⟩) fun S2 => wipeS S2.sl vs = wipeS S1.sl vs ∧ S2.os = S1.os ∧ Ev (ge S2) fun e S4 => e = g x ∧ S4 = S2) ∧ Q (.list (xs.map g)) S1) : Ev (gLc gi gg gYes ge vs S) Q := by
  refine ev_lcX (xs := xs) (enc := enc) (b := fun _ => true) (g := g) ?_
  refine h.mono fun ds S1 h => ⟨h.1, fun d hd => ?_, by rw [List.filter_eq_self.mpr fun _ _ => rfl]; exact h.2.2⟩
  obtain ⟨S2, e2, e3, e4, e5⟩ := h.2.1 d hd
  exact ⟨S2, e2, e3, e4, ev_yes ⟨rfl, rfl, fun _ => e5⟩⟩
/-- loops over typed items -/
theorem eo_loopX {α : Type} {S : Sx} {Z : Out → Prop} {gg : D → Sx → Option Sx} {body : Sx → Option Out} {xs : List α} {enc : α → D} (I : Nat → Sx → Prop) (h0 : I 0 S) (hs : ∀ i x S, xs[i]? = some x → I i S → Es (gg (enc x) S) fun S1 => Eo (body S1) fun o => ∃ S2, o = .nx S2 ∧ I (i + 1) S2) (hz : ∀ S', I xs.length S' → Z (.nx S')) : Eo (gLoop gg body (xs.map enc) S) Z := by
  refine eo_loop I h0 (fun i d S hd hI => ?_) fun S' h => hz S' (by simpa using h)
  rw [List.getElem?_map] at hd
  obtain ⟨x, hx, rfl⟩ := Option.map_eq_some_iff.mp hd
  exact hs i x S hx hI
/-- .. that may end within: J tells of what ends it -/
theorem loop_end {gg : D → Sx → Option Sx} {body : Sx → Option Out} {Z : Out → Prop} (I : Nat → Sx → Prop) : ∀ (ds : List D) (n : Nat) (S : Sx), I n S → (∀ i d S, ds[i]? = some d → I (n + i) S → Es (gg d S) fun S1 => Eo (body S1) fun o => (∃ S2, (o = .nx S2 ∨ o = .ct S2) ∧ I (n + i + 1) S2) ∨ (∃ S2, o = .bk S2 ∧ Z (.nx S2)) ∨ (∃ d S2, o = .rt d S2 ∧ Z (.rt d S2)) ∨ (∃ j S2, o = .ro j S2 ∧ Z (.ro j S2))) →
    (∀ S', I (n + ds.length) S' → Z (.nx S')) → Eo (gLoop gg body ds S) Z
  | [], n, S, h0, _, hz => ⟨_, rfl, hz S h0⟩
  | d :: ds, n, S, h0, hs, hz => by
    obtain ⟨S1, h1, o, h2, h3⟩ := hs 0 d S rfl h0
    have go : ∀ S2, I (n + 0 + 1) S2 → Eo (gLoop gg body ds S2) Z := fun S2 hI => loop_end I ds (n + 1) S2 hI (fun i e T he hI => by
      have := hs (i + 1) e T (by simpa using he) (by rwa [show n + (i + 1) = n + 1 + i by omega])
      rwa [show n + (i + 1) + 1 = n + 1 + i + 1 by omega] at this) fun S' h => hz S' (by rwa [show n + (d :: ds).length = n + 1 + ds.length by simp; omega])
    rcases h3 with ⟨S2, e, hI⟩ | ⟨S2, rfl, hZ⟩ | ⟨x, S2, rfl, hZ⟩ | ⟨j, S2, rfl, hZ⟩
    · obtain ⟨o2, h4, q⟩ := go S2 hI
      refine ⟨o2, ?_, q⟩
      rw [gLoop]
      rcases e with rfl | rfl <;> simp only [h1, h2, Option.bind_some, h4]
    · exact ⟨_, by rw [gLoop]; simp only [h1, h2, Option.bind_some], hZ⟩
    · exact ⟨_, by rw [gLoop]; simp only [h1, h2, Option.bind_some], hZ⟩
    · exact ⟨_, by rw [gLoop]; simp only [h1, h2, Option.bind_some], hZ⟩
theorem eo_loopE {α : Type} {S : Sx} {Z : Out → Prop} {gg : D → Sx → Option Sx} {body : Sx → Option Out} {xs : List α} {enc : α → D} (I : Nat → Sx → Prop) (h0 : I 0 S) (hs : ∀ i x S, xs[i]? = some x → I i S → Es (gg (enc x) S) fun S1 => Eo (body S1) fun o => (∃ S2, (o = .nx S2 ∨ o = .ct S2) ∧ I (i + 1) S2) ∨ (∃ S2, o = .bk S2 ∧ Z (.nx S2)) ∨ (∃ d S2, o = .rt d S2 ∧ Z (.rt d S2)) ∨ (∃ j S2, o = .ro j S2 ∧ Z (.ro j S2)))
    (hz : ∀ S', I xs.length S' → Z (.nx S')) : Eo (gLoop gg body (xs.map enc) S) Z := by
  refine loop_end I _ 0 S h0 (fun i d S hd hI => ?_) fun S' h => hz S' (by simpa using h)
  rw [List.getElem?_map] at hd
  obtain ⟨x, hx, rfl⟩ := Option.map_eq_some_iff.mp hd
  rw [Nat.zero_add] at hI ⊢
  exact hs i x S hx hI
theorem rng_map (lo : Int) (n : Nat) : rng lo n = (List.range n).map fun i : Nat => .int (lo + (i : Int)) := rfl
/-! ### lists or tuples -/
def seqOf : D → Option (List D)
  | .list xs => some xs
  | .tuple xs => some xs
  | _ => none
def Sq (d : D) (xs : List D) : Prop := d = .list xs ∨ d = .tuple xs
theorem sq_l (xs : List D) : Sq (.list xs) xs := .inl rfl
theorem sq_t (xs : List D) : Sq (.tuple xs) xs := .inr rfl
theorem sq_of {d : D} {xs : List D} (h : seqOf d = some xs) : Sq d xs := by
  cases d <;> simp [seqOf] at h
  · exact .inl (by rw [h])
  · exact .inr (by rw [h])
theorem Sq.of {d : D} {xs : List D} (h : Sq d xs) : seqOf d = some xs := by rcases h with rfl | rfl <;> rfl
theorem isi_seq (d : D) : (isT "list" d || isT "tuple" d) = (seqOf d).isSome := by cases d <;> rfl
section
variable {Q : D → Prop} {d x : D} {xs : List D} {i : Int}
theorem ed_ixQ (s : Sq d xs) (h0 : 0 ≤ i) (e : xs[i.toNat]? = some x) (h : Q x) : Ed (dIx d (.int i)) Q := by
  rcases s with rfl | rfl
  · exact ed_ixL h0 e h
  · exact ed_ixT h0 e h
theorem ed_lenQ (s : Sq d xs) (h : Q (.int xs.length)) : Ed (dLen [d]) Q := by rcases s with rfl | rfl <;> exact ⟨_, rfl, h⟩
theorem ed_itQ {Q : List D → Prop} (s : Sq d xs) (h : Q xs) : Ed (itemsOf d) Q := by rcases s with rfl | rfl <;> exact ⟨_, rfl, h⟩
theorem ed_tupQ (s : Sq d xs) (h : Q (.tuple xs)) : Ed (dTuple [d]) Q := by rcases s with rfl | rfl <;> exact ⟨_, rfl, h⟩
end
theorem all_mapX {α : Type} (f : α → Bool) (xs : List α) {Q : D → Prop} (h : Q (.bool (xs.all f))) : Ed (dAll [.list (xs.map fun a => .bool (f a))]) Q := ⟨_, all_map f xs, h⟩
theorem any_map {α : Type} (f : α → Bool) (xs : List α) {Q : D → Prop} (h : Q (.bool (xs.any f))) : Ed (dAny [.list (xs.map fun a => .bool (f a))]) Q := ⟨_, by
  simp only [dAny, allBools_fn, Option.bind_some]; rw [List.any_map]; rfl, h⟩
/-! ### looks -/
theorem sealS_none (os : List (Option Cell)) : sealS os none = none := rfl
theorem sealS_dat (os : List (Option Cell)) (d : D) : sealS os (some (.dat d)) = some (.dat d) := rfl
theorem sealS_scr (os : List (Option Cell)) (d : List Int) : sealS os (some (.scr d)) = some (.scr d) := rfl
def sealC (os : List (Option Cell)) : Option (Option Cell) → Option R
  | some (some (.lst ds)) => some (.dat (.list ds))
  | some (some (.lR rs)) => ((mapO (snapR os 7) rs).map .list).map .dat
  | _ => none
theorem sealS_own (os : List (Option Cell)) (j : Nat) : sealS os (some (.own j)) = sealC os os[j]? := by
  simp only [sealS, snapR]
  generalize os[j]? = c
  rcases c with _ | _ | c
  · rfl
  · rfl
  · cases c <;> rfl
theorem sealC_lst (os : List (Option Cell)) (ds : List D) : sealC os (some (some (.lst ds))) = some (.dat (.list ds)) := rfl
theorem sealAll_mk {sl sl' : List (Option R)} {os os' : List (Option Cell)} (h : sl.map (sealS os) = sl') (h2 : os.map (fun _ => none) = os') : sealAll ⟨sl, os⟩ = ⟨sl', os'⟩ := by unfold sealAll; rw [h, h2]
end Fu

set_option maxHeartbeats 4000000
namespace Lw
open PySem Fu
local macro_rules | `(tactic| walk_at "e1") => `(tactic| first
  | with_reducible refine eo_seq ?_ | (with_reducible refine then_nx' ?_; refine ⟨?_, ?_, ?_⟩; rotate_left; · (try dsimp only [List.set, List.length_cons, List.length_nil, List.cons_append, List.nil_append, Nat.zero_add, Nat.reduceAdd]); exact rfl) | with_reducible refine then_rt ?_ | with_reducible refine eo_if ?_ | with_reducible refine eo_ret ?_ | with_reducible refine eo_set ?_ | with_reducible refine eo_asg ?_ | with_reducible refine eo_drop ?_ | with_reducible refine eo_nx ?_ | with_reducible refine eo_par ?_ | with_reducible refine eo_own ?_ | with_reducible refine eo_retN ?_ | with_reducible refine eo_for ?_ | with_reducible refine eo_retO ?_
  | with_reducible refine ev_c ?_ | (with_reducible refine ev_var ?_; refine ⟨_, rfl, ?_⟩) | with_reducible refine ev_bin ?_ | with_reducible refine ev_un ?_ | with_reducible refine ev_nil ?_ | with_reducible refine ev_cons ?_
  | with_reducible refine ev_tup ?_ | with_reducible refine ev_lst ?_ | with_reducible refine ev_call ?_ | with_reducible refine ev_callF ?_ | with_reducible refine ev_isi ?_ | with_reducible refine ev_isi2 ?_ | with_reducible refine ev_andV ?_ | with_reducible refine ev_orV ?_ | with_reducible refine ev_notV ?_
  | with_reducible refine ev_B ?_ | with_reducible refine ev_and ?_ | with_reducible refine ev_or ?_ | with_reducible refine ev_not ?_ | with_reducible refine ev_yes ?_ | with_reducible refine ev_if ?_ | with_reducible refine ev_no ?_ | with_reducible refine ev_so ?_ | with_reducible refine ev_sl ?_ | with_reducible refine ev_items ?_
  | (with_reducible refine ev_ixO ?_; refine ⟨_, _, rfl, rfl, ?_⟩) | (with_reducible refine ev_varO ?_; refine ⟨_, _, rfl, rfl, ?_⟩) | (with_reducible refine ev_lenO ?_; refine ⟨_, _, rfl, rfl, ?_⟩) | (with_reducible refine ev_scrSl ?_; refine ⟨_, rfl, ?_⟩) | (with_reducible refine ev_scrLen ?_; refine ⟨_, rfl, ?_⟩) | (with_reducible refine ev_callScr ?_; refine ⟨_, rfl, ?_⟩) | (with_reducible refine ev_OL ?_; refine ⟨_, _, rfl, rfl, ?_⟩) | with_reducible refine ev_OR ?_ | with_reducible refine ev_rep ?_ | with_reducible refine ev_listRng1 ?_ | with_reducible refine eo_setO ?_
  | with_reducible refine es_name ?_ | with_reducible refine es_tup2 ?_ | with_reducible refine es_tup3 ?_
  | with_reducible refine ed_addI ?_ | with_reducible refine ed_subI ?_ | with_reducible refine ed_cmp ?_ | with_reducible refine ed_eqI ?_ | with_reducible refine ed_neI ?_ | with_reducible refine ed_slT ?_ | with_reducible refine ed_slL ?_ | with_reducible refine ed_lenT ?_ | with_reducible refine ed_lenL ?_ | with_reducible refine ed_lenS ?_ | with_reducible refine ed_inS ?_ | with_reducible refine ed_itT ?_ | with_reducible refine ed_itL ?_ | with_reducible refine ed_tupL ?_ | with_reducible refine ed_tupT ?_ | with_reducible refine ed_listL ?_ | with_reducible refine ed_listT ?_ | with_reducible refine ed_neg ?_ | with_reducible refine ed_max ?_ | with_reducible refine ed_min ?_ | with_reducible refine ed_intB ?_
  | with_reducible refine ev_rng1 ?_ | with_reducible refine ev_rng2 ?_)
local macro_rules | `(tactic| walk_at "sd") => `(tactic| first | rfl | assumption | (simp only [decide_eq_true_eq, decide_eq_false_iff_not, Bool.not_eq_true', Bool.not_eq_false', Bool.and_eq_true, Bool.or_eq_true, List.length_map, List.length_cons, List.length_nil, List.length_append, List.length_range] at *; omega))
local macro_rules | `(tactic| walk_at "e2") => `(tactic| first
  | walk_at "e1" | with_reducible refine ⟨_, rfl, ?_⟩ | with_reducible refine ⟨_, _, rfl, ?_⟩
  | with_reducible refine And.intro (Eq.refl (List.length _)) ?_ | with_reducible refine And.intro (Nat.le_of_ble_eq_true (n := List.length _) rfl) ?_
  | with_reducible refine And.intro (Eq.refl (_ : Sx)) (?_ : Ed _ _)
  | ((with_reducible refine And.intro ?_ (And.intro ?_ (?_ : Ev _ _))); (· rfl); (· rfl))
  | ((with_reducible refine ed_ixT ?_ ?_ ?_); (· decide); (· rfl)) | ((with_reducible refine ed_ixL ?_ ?_ ?_); (· decide); (· rfl)) | ((with_reducible refine ed_at ?_ ?_ ?_); (· decide); (· rfl))
  | ((with_reducible refine ed_modI ?_ ?_); (· first | decide | omega))
  | with_reducible exact gives_nx | ((with_reducible refine gives_rt ?_); (· rfl)) | ((with_reducible refine And.intro ?_ ?_); (· exact rfl); (· with_reducible exact Eq.refl (_ : Sx))))
local macro_rules | `(tactic| walk_at "e") => `(tactic| repeat walk_at "e2")
/-- begin a def's spec -/
local macro_rules | `(tactic| walk_at "i") => `(tactic| simp only [initS, List.map_cons, List.map_nil, List.length_cons, List.length_nil, Nat.reduceAdd, Nat.reduceSub, List.replicate, List.cons_append, List.nil_append])
/-- a known truth decides -/
local macro_rules | `(tactic| walk_at "t") => `(tactic| first | ((with_reducible refine split_t ?_ ?_); (· walk_at "sd")) | ((with_reducible refine split_t' ?_ ?_); (· walk_at "sd")))
local macro_rules | `(tactic| walk_at "f") => `(tactic| first | ((with_reducible refine split_f ?_ ?_); (· walk_at "sd")) | ((with_reducible refine split_f' ?_ ?_); (· walk_at "sd")))
/-- all that is seen in a look -/
local macro_rules | `(tactic| walk_at "v") => `(tactic| (rw [sealAll_mk (by (simp only [List.set_cons_zero, List.set_cons_succ, List.map_cons, List.map_nil, sealS_none, sealS_dat, sealS_scr, sealS_own, List.getElem?_cons_zero, List.getElem?_cons_succ, sealC_lst]; rfl)) (by (simp only [List.set_cons_zero, List.set_cons_succ, List.map_cons, List.map_nil]; rfl))]))
/-! ### whole numbers, rows, companies, lines, ends: of anything -/
def wholeD : D → Bool
  | .int i => decide (0 ≤ i)
  | _ => false
def rowD (n : Nat) (d : D) : Bool := match seqOf d with
  | some xs => decide (xs.length = n)
  | none => false
def Let (c : Nat) : Prop := 97 ≤ c ∧ c ≤ 122
instance (c : Nat) : Decidable (Let c) := inferInstanceAs (Decidable (_ ∧ _))
theorem Let.ok {c : Nat} (h : Let c) : c < 0x110000 := by have := h.2; omega
def companyD : D → Bool
  | .str x => match x.cps.toList with
    | [c] => decide (Let c)
    | _ => false
  | _ => false
def endD (n : Nat) (d : D) : Bool := match seqOf d with
  | some [.int a, .int s] => decide (0 ≤ a) && decide (0 ≤ s) && decide (a < n) && decide (s < 2)
  | _ => false
theorem company_of {d : D} (h : companyD d = true) : ∃ c, d = ch c ∧ Let c := by
  unfold companyD at h
  split at h
  · split at h
    · rename_i x c e
      refine ⟨c, ?_, of_decide_eq_true h⟩
      unfold ch
      congr 1
      exact congrArg Str.mk (Array.toList_inj.mp (by simpa using e))
    · cases h
  · cases h
theorem x_is_whole (d : D) : m_is_whole [d] = some (.bool (wholeD d)) := by
  unfold m_is_whole; refine mF_of ?_; walk_at "i"; unfold g_is_whole
  walk_at "e"
  refine ⟨fun h1 => ?_, fun h1 => ?_⟩
  · walk_at "e"
    refine ⟨fun h2 => ?_, fun h2 => ?_⟩
    · cases d <;> simp [isT, dTy] at h1 h2
      walk_at "e"
    · cases d <;> simp [isT, dTy] at h1 h2
      walk_at "e"
  · cases d <;> simp [isT, dTy] at h1 <;> walk_at "e"
theorem x_is_row (d : D) (n : Nat) : m_is_row [d, .int n] = some (.bool (rowD n d)) := by
  unfold m_is_row; refine mF_of ?_; walk_at "i"; unfold g_is_row
  walk_at "e"
  rw [isi_seq]
  refine ⟨fun h1 => ?_, fun h1 => ?_⟩
  · obtain ⟨xs, hx⟩ := Option.isSome_iff_exists.mp h1
    walk_at "e"
    refine ed_lenQ (sq_of hx) ?_
    walk_at "e"
    unfold rowD
    rw [gives_rtI, hx]
    simp only [PyData.bool.injEq, decide_eq_decide]
    omega
  · have hx : seqOf d = none := by simpa using h1
    rw [gives_rtI]
    unfold rowD; rw [hx]
theorem letters : ("abcdefghijklmnopqrstuvwxyz" : Str).cps.toList = (List.range 26).map (97 + ·) := by decide +kernel
theorem row_of {n : Nat} {d : D} (h : rowD n d = true) : ∃ xs, Sq d xs ∧ xs.length = n := by
  unfold rowD at h
  split at h
  · rename_i xs e; exact ⟨xs, sq_of e, of_decide_eq_true h⟩
  · cases h
def placeD (p : Int) (d : D) : Bool := match d with | .int a => decide (0 ≤ a) && decide (a < p) | _ => false
/-! ### webs -/
abbrev Ln := Int × Int × Nat
def ln (l : Ln) : D := .tuple [.int l.1, .int l.2.1, ch l.2.2]
def wb (p : Int) (ls : List Ln) : D := .tuple [.int p, .tuple (ls.map ln)]
structure LnOk (p : Int) (l : Ln) : Prop where
  a0 : 0 ≤ l.1
  a1 : l.1 < p
  b0 : 0 ≤ l.2.1
  b1 : l.2.1 < p
  c : Let l.2.2
structure WbOk (p : Int) (ls : List Ln) : Prop where
  p0 : 0 ≤ p
  all : ∀ l ∈ ls, LnOk p l
  len : ls.length ≤ 1000000
def IsLn (d : D) (l : Ln) : Prop := Sq d [.int l.1, .int l.2.1, ch l.2.2]
def Lns (d : D) (ls : List Ln) : Prop := ∃ ps : List (D × Ln), Sq d (ps.map (·.1)) ∧ ls = ps.map (·.2) ∧ ∀ q ∈ ps, IsLn q.1 q.2
def Web (d : D) (p : Int) (ls : List Ln) : Prop := ∃ L, Sq d [.int p, L] ∧ Lns L ls
theorem isLn_ln (l : Ln) : IsLn (ln l) l := sq_t _
theorem lns_of {d : D} {ls : List Ln} (s : Sq d (ls.map ln)) : Lns d ls := ⟨ls.map fun l => (ln l, l), by rw [List.map_map]; exact s, by rw [List.map_map]; exact (List.map_id _).symm, fun q hq => by
  obtain ⟨l, _, rfl⟩ := List.mem_map.mp hq
  exact isLn_ln l⟩
theorem web_wb (p : Int) (ls : List Ln) : Web (wb p ls) p ls := ⟨_, sq_t _, lns_of (sq_t _)⟩
theorem line_at {d : D} {ls : List Ln} (h : Lns d ls) {i : Nat} {l : Ln} (hl : ls[i]? = some l) : ∃ xs x, Sq d xs ∧ xs.length = ls.length ∧ xs[i]? = some x ∧ IsLn x l := by
  obtain ⟨ps, s, rfl, hp⟩ := h
  rw [List.getElem?_map] at hl
  obtain ⟨q, hq, rfl⟩ := Option.map_eq_some_iff.mp hl
  exact ⟨_, q.1, s, by simp, by rw [List.getElem?_map, hq]; rfl, hp q (List.mem_of_getElem? hq)⟩
theorem lns_len {d : D} {ls : List Ln} (h : Lns d ls) : ∃ xs, Sq d xs ∧ xs.length = ls.length := by
  obtain ⟨ps, s, rfl, hp⟩ := h
  exact ⟨_, s, by simp⟩
/-! ### ends -/
def en (e : Int × Int) : D := .tuple [.int e.1, .int e.2]
def IsEn (d : D) (e : Int × Int) : Prop := Sq d [.int e.1, .int e.2]
theorem isEn_en (e : Int × Int) : IsEn (en e) e := sq_t _
def EndOk (n : Nat) (e : Int × Int) : Prop := 0 ≤ e.1 ∧ e.1 < n ∧ 0 ≤ e.2 ∧ e.2 < 2
instance (n : Nat) (e : Int × Int) : Decidable (EndOk n e) := by unfold EndOk; infer_instance
theorem endD_of {n : Nat} {d : D} {e : Int × Int} (s : IsEn d e) : endD n d = decide (EndOk n e) := by
  unfold endD
  rw [s.of]
  refine Bool.eq_iff_iff.mpr ⟨fun h => decide_eq_true ?_, fun h => ?_⟩
  · simp only [Bool.and_eq_true, decide_eq_true_eq] at h
    exact ⟨h.1.1.1, h.1.2, h.1.1.2, h.2⟩
  · have h := of_decide_eq_true h
    simp only [Bool.and_eq_true, decide_eq_true_eq]
    exact ⟨⟨⟨h.1, h.2.2.1⟩, h.2.1⟩, h.2.2.2⟩
theorem isEn_of {n : Nat} {d : D} (h : endD n d = true) : ∃ e, IsEn d e ∧ EndOk n e := by
  unfold endD at h
  split at h
  · rename_i a s e
    have h1 := h
    simp only [Bool.and_eq_true, decide_eq_true_eq] at h1
    exact ⟨(a, s), sq_of e, h1.1.1.1, h1.1.2, h1.1.1.2, h1.2⟩
  · cases h
theorem x_is_end {w : D} {p : Int} {ls : List Ln} (hw : Web w p ls) (d : D) : m_is_end [w, d] = some (.bool (endD ls.length d)) := by
  obtain ⟨L, s, hL⟩ := hw
  obtain ⟨xs, sx, hl⟩ := lns_len hL
  unfold m_is_end; refine mF_of ?_; walk_at "i"; unfold g_is_end
  walk_at "e"
  refine Ed.of (x_is_row d 2) ?_
  walk_at "e"
  refine ⟨fun h1 => ?_, fun h1 => ?_⟩
  rotate_left
  · walk_at "t"
    walk_at "e"
    have h1 : rowD 2 d = false := by simpa using h1
    have : endD ls.length d = false := by
      unfold endD; unfold rowD at h1
      split
      · rename_i e; rw [e] at h1; simp at h1
      · rfl
    simp [this]
  have h1 : rowD 2 d = true := by simpa using h1
  obtain ⟨zs, sz, hz⟩ := row_of h1
  obtain ⟨a, b, rfl⟩ : ∃ a b, zs = [a, b] := by
    match zs, hz with
    | [a, b], _ => exact ⟨a, b, rfl⟩
  have el : endD ls.length d = (wholeD a && wholeD b && (match a, b with | .int a, .int b => decide (a < ls.length) && decide (b < 2) | _, _ => false)) := by
    unfold endD; rw [sz.of]
    cases a <;> cases b <;> simp [wholeD, Bool.and_assoc]
  rw [el]
  walk_at "e"
  refine ed_ixQ sz (by decide) rfl ?_
  walk_at "e"
  refine Ed.of (x_is_whole _) ?_
  walk_at "e"
  refine ⟨fun h2 => ?_, fun h2 => ?_⟩
  rotate_left
  · walk_at "t"
    walk_at "e"
    have h2 : wholeD a = false := by simpa using h2
    simp [h2]
  have h2 : wholeD a = true := by simpa using h2
  walk_at "e"
  refine ed_ixQ sz (by decide) rfl ?_
  walk_at "e"
  refine Ed.of (x_is_whole _) ?_
  walk_at "e"
  refine ⟨fun h3 => ?_, fun h3 => ?_⟩
  · walk_at "e"
    have h3 : wholeD b = false := by simpa using h3
    simp [h2, h3]
  have h3 : wholeD b = true := by simpa using h3
  cases a <;> simp [wholeD] at h2
  cases b <;> simp [wholeD] at h3
  walk_at "e"
  refine ed_ixQ sz (by decide) rfl ?_
  walk_at "e"
  refine ed_ixQ s (by decide) rfl ?_
  walk_at "e"
  refine ed_lenQ sx ?_
  walk_at "e"
  rw [hl]
  refine ⟨fun h4 => ?_, fun h4 => ?_⟩
  · walk_at "e"
    refine ed_ixQ sz (by decide) rfl ?_
    walk_at "e"
    simp [wholeD, h2, h3, h4]
  · walk_at "e"
    simp [h4]
def sideOf (s : Int) (l : Ln) : Int := if s = 0 then l.1 else l.2.1
def plc (ls : List Ln) (e : Int × Int) : Int := match ls[e.1.toNat]? with
  | some l => sideOf e.2 l
  | none => 0
def cmpy (ls : List Ln) (e : Int × Int) : Nat := match ls[e.1.toNat]? with
  | some l => l.2.2
  | none => 0
def far (e : Int × Int) : Int × Int := (e.1, 1 - e.2)
theorem end_line {n : Nat} {ls : List Ln} {e : Int × Int} (hn : n = ls.length) (h : EndOk n e) : ∃ l, ls[e.1.toNat]? = some l ∧ l ∈ ls := by
  have hl : e.1.toNat < ls.length := by have := h.1; have := h.2.1; omega
  exact ⟨_, List.getElem?_eq_getElem hl, List.getElem_mem hl⟩
theorem x_place_of {w : D} {p : Int} {ls : List Ln} {d : D} {e : Int × Int} (hw : Web w p ls) (s : IsEn d e) (h : EndOk ls.length e) : m_place_of [w, d] = some (.int (plc ls e)) := by
  obtain ⟨L, sw, hL⟩ := hw
  obtain ⟨l, hl, _⟩ := end_line rfl h
  obtain ⟨xs, x, sx, hxl, hx, hln⟩ := line_at hL hl
  unfold m_place_of; refine mF_of ?_; walk_at "i"; unfold g_place_of
  walk_at "e"
  refine ed_ixQ sw (by decide) rfl ?_
  walk_at "e"
  refine ed_ixQ s (by decide) rfl ?_
  walk_at "e"
  refine ed_ixQ sx h.1 hx ?_
  walk_at "e"
  refine ed_ixQ s (by decide) rfl ?_
  walk_at "e"
  have h2 : e.2 = 0 ∨ e.2 = 1 := by have := h.2.2.1; have := h.2.2.2; omega
  unfold plc; rw [hl]
  rcases h2 with h2 | h2 <;> rw [h2] <;> exact ed_ixQ hln (by decide) rfl rfl
theorem x_company_of {w : D} {p : Int} {ls : List Ln} {d : D} {e : Int × Int} (hw : Web w p ls) (s : IsEn d e) (h : EndOk ls.length e) : m_company_of [w, d] = some (ch (cmpy ls e)) := by
  obtain ⟨L, sw, hL⟩ := hw
  obtain ⟨l, hl, _⟩ := end_line rfl h
  obtain ⟨xs, x, sx, hxl, hx, hln⟩ := line_at hL hl
  unfold m_company_of; refine mF_of ?_; walk_at "i"; unfold g_company_of
  walk_at "e"
  refine ed_ixQ sw (by decide) rfl ?_
  walk_at "e"
  refine ed_ixQ s (by decide) rfl ?_
  walk_at "e"
  refine ed_ixQ sx h.1 hx ?_
  walk_at "e"
  refine ed_ixQ hln (by decide) rfl ?_
  unfold cmpy; rw [hl]; rfl
theorem cmpy_let {p : Int} {ls : List Ln} {e : Int × Int} (h : WbOk p ls) (k : EndOk ls.length e) : Let (cmpy ls e) := by
  obtain ⟨l, hl, hm⟩ := end_line rfl k
  unfold cmpy; rw [hl]
  exact (h.all _ hm).c
theorem cmpy_ok {p : Int} {ls : List Ln} {e : Int × Int} (h : WbOk p ls) (k : EndOk ls.length e) : cmpy ls e < 0x110000 := (cmpy_let h k).ok
/-! ### all ends, the ends at a place -/
def allE (n : Nat) : List (Int × Int) := (List.range n).flatMap fun i : Nat => [((i : Int), 0), ((i : Int), 1)]
def ends (ls : List Ln) (q : Int) : List (Int × Int) := (allE ls.length).filter fun e => decide (plc ls e = q)
end Lw

set_option maxHeartbeats 4000000
namespace Lw
open PySem Fu
local macro_rules | `(tactic| walk_at "e1") => `(tactic| first
  | with_reducible refine eo_seq ?_ | (with_reducible refine then_nx' ?_; refine ⟨?_, ?_, ?_⟩; rotate_left; · (try dsimp only [List.set, List.length_cons, List.length_nil, List.cons_append, List.nil_append, Nat.zero_add, Nat.reduceAdd]); exact rfl) | with_reducible refine then_rt ?_ | with_reducible refine eo_if ?_ | with_reducible refine eo_ret ?_ | with_reducible refine eo_set ?_ | with_reducible refine eo_asg ?_ | with_reducible refine eo_drop ?_ | with_reducible refine eo_nx ?_ | with_reducible refine eo_par ?_ | with_reducible refine eo_own ?_ | with_reducible refine eo_retN ?_ | with_reducible refine eo_for ?_ | with_reducible refine eo_retO ?_
  | with_reducible refine ev_c ?_ | (with_reducible refine ev_var ?_; refine ⟨_, rfl, ?_⟩) | with_reducible refine ev_bin ?_ | with_reducible refine ev_un ?_ | with_reducible refine ev_nil ?_ | with_reducible refine ev_cons ?_
  | with_reducible refine ev_tup ?_ | with_reducible refine ev_lst ?_ | with_reducible refine ev_call ?_ | with_reducible refine ev_callF ?_ | with_reducible refine ev_isi ?_ | with_reducible refine ev_isi2 ?_ | with_reducible refine ev_andV ?_ | with_reducible refine ev_orV ?_ | with_reducible refine ev_notV ?_
  | with_reducible refine ev_B ?_ | with_reducible refine ev_and ?_ | with_reducible refine ev_or ?_ | with_reducible refine ev_not ?_ | with_reducible refine ev_yes ?_ | with_reducible refine ev_if ?_ | with_reducible refine ev_no ?_ | with_reducible refine ev_so ?_ | with_reducible refine ev_sl ?_ | with_reducible refine ev_items ?_
  | (with_reducible refine ev_ixO ?_; refine ⟨_, _, rfl, rfl, ?_⟩) | (with_reducible refine ev_varO ?_; refine ⟨_, _, rfl, rfl, ?_⟩) | (with_reducible refine ev_lenO ?_; refine ⟨_, _, rfl, rfl, ?_⟩) | (with_reducible refine ev_scrSl ?_; refine ⟨_, rfl, ?_⟩) | (with_reducible refine ev_scrLen ?_; refine ⟨_, rfl, ?_⟩) | (with_reducible refine ev_callScr ?_; refine ⟨_, rfl, ?_⟩) | (with_reducible refine ev_OL ?_; refine ⟨_, _, rfl, rfl, ?_⟩) | with_reducible refine ev_OR ?_ | with_reducible refine ev_rep ?_ | with_reducible refine ev_listRng1 ?_ | with_reducible refine eo_setO ?_
  | with_reducible refine es_name ?_ | with_reducible refine es_tup2 ?_ | with_reducible refine es_tup3 ?_
  | with_reducible refine ed_addI ?_ | with_reducible refine ed_subI ?_ | with_reducible refine ed_cmp ?_ | with_reducible refine ed_eqI ?_ | with_reducible refine ed_neI ?_ | with_reducible refine ed_slT ?_ | with_reducible refine ed_slL ?_ | with_reducible refine ed_lenT ?_ | with_reducible refine ed_lenL ?_ | with_reducible refine ed_lenS ?_ | with_reducible refine ed_inS ?_ | with_reducible refine ed_itT ?_ | with_reducible refine ed_itL ?_ | with_reducible refine ed_tupL ?_ | with_reducible refine ed_tupT ?_ | with_reducible refine ed_listL ?_ | with_reducible refine ed_listT ?_ | with_reducible refine ed_neg ?_ | with_reducible refine ed_max ?_ | with_reducible refine ed_min ?_ | with_reducible refine ed_intB ?_
  | with_reducible refine ev_rng1 ?_ | with_reducible refine ev_rng2 ?_)
local macro_rules | `(tactic| walk_at "sd") => `(tactic| first | rfl | assumption | (simp only [decide_eq_true_eq, decide_eq_false_iff_not, Bool.not_eq_true', Bool.not_eq_false', Bool.and_eq_true, Bool.or_eq_true, List.length_map, List.length_cons, List.length_nil, List.length_append, List.length_range] at *; omega))
local macro_rules | `(tactic| walk_at "e2") => `(tactic| first
  | walk_at "e1" | with_reducible refine ⟨_, rfl, ?_⟩ | with_reducible refine ⟨_, _, rfl, ?_⟩
  | with_reducible refine And.intro (Eq.refl (List.length _)) ?_ | with_reducible refine And.intro (Nat.le_of_ble_eq_true (n := List.length _) rfl) ?_
  | with_reducible refine And.intro (Eq.refl (_ : Sx)) (?_ : Ed _ _)
  | ((with_reducible refine And.intro ?_ (And.intro ?_ (?_ : Ev _ _))); (· rfl); (· rfl))
  | ((with_reducible refine ed_ixT ?_ ?_ ?_); (· decide); (· rfl)) | ((with_reducible refine ed_ixL ?_ ?_ ?_); (· decide); (· rfl)) | ((with_reducible refine ed_at ?_ ?_ ?_); (· decide); (· rfl))
  | ((with_reducible refine ed_modI ?_ ?_); (· first | decide | omega))
  | with_reducible exact gives_nx | ((with_reducible refine gives_rt ?_); (· rfl)) | ((with_reducible refine And.intro ?_ ?_); (· exact rfl); (· with_reducible exact Eq.refl (_ : Sx))))
local macro_rules | `(tactic| walk_at "e") => `(tactic| repeat walk_at "e2")
/-- begin a def's spec -/
local macro_rules | `(tactic| walk_at "i") => `(tactic| simp only [initS, List.map_cons, List.map_nil, List.length_cons, List.length_nil, Nat.reduceAdd, Nat.reduceSub, List.replicate, List.cons_append, List.nil_append])
/-- a known truth decides -/
local macro_rules | `(tactic| walk_at "t") => `(tactic| first | ((with_reducible refine split_t ?_ ?_); (· walk_at "sd")) | ((with_reducible refine split_t' ?_ ?_); (· walk_at "sd")))
local macro_rules | `(tactic| walk_at "f") => `(tactic| first | ((with_reducible refine split_f ?_ ?_); (· walk_at "sd")) | ((with_reducible refine split_f' ?_ ?_); (· walk_at "sd")))
/-- all that is seen in a look -/
local macro_rules | `(tactic| walk_at "v") => `(tactic| (rw [sealAll_mk (by (simp only [List.set_cons_zero, List.set_cons_succ, List.map_cons, List.map_nil, sealS_none, sealS_dat, sealS_scr, sealS_own, List.getElem?_cons_zero, List.getElem?_cons_succ, sealC_lst]; rfl)) (by (simp only [List.set_cons_zero, List.set_cons_succ, List.map_cons, List.map_nil]; rfl))]))
/-! ### rides -/
def goesB (ls : List Ln) (e f : Int × Int) : Bool := decide (plc ls (far e) = plc ls f) && !decide (cmpy ls e = cmpy ls f)
def rideB (ls : List Ln) (es : List (Int × Int)) : Bool := decide (es ≠ []) && es.all (fun e => decide (EndOk ls.length e)) && decide (es.map Prod.fst).Nodup && (es.zip es.tail).all fun p => goesB ls p.1 p.2
def lastE (es : List (Int × Int)) : Int × Int := es.getLast?.getD (0, 0)
def headE (es : List (Int × Int)) : Int × Int := es.head?.getD (0, 0)
def roundB (ls : List Ln) (es : List (Int × Int)) : Bool := rideB ls es && goesB ls (lastE es) (headE es)
theorem far_far (e : Int × Int) : far (far e) = e := by
  unfold far
  obtain ⟨a, b⟩ := e
  simp only [Prod.mk.injEq, true_and]
  omega
theorem EndOk.far {n : Nat} {e : Int × Int} (h : EndOk n e) : EndOk n (far e) := by
  obtain ⟨h1, h2, h3, h4⟩ := h
  exact ⟨h1, h2, by show 0 ≤ 1 - e.2; omega, by show 1 - e.2 < 2; omega⟩
theorem cmpy_far (ls : List Ln) (e : Int × Int) : cmpy ls (far e) = cmpy ls e := rfl
theorem goes_far (ls : List Ln) (e f : Int × Int) : goesB ls (far f) (far e) = goesB ls e f := by
  unfold goesB
  rw [far_far, cmpy_far, cmpy_far]
  congr 1
  · apply decide_eq_decide.mpr; exact eq_comm
  · congr 1
    apply decide_eq_decide.mpr; exact eq_comm
theorem x_far_end {d : D} {e : Int × Int} (s : IsEn d e) : m_far_end [d] = some (en (far e)) := by
  unfold m_far_end; refine mF_of ?_; walk_at "i"; unfold g_far_end
  walk_at "e"
  refine ed_ixQ s (by decide) rfl ?_
  walk_at "e"
  refine ed_ixQ s (by decide) rfl ?_
  walk_at "e"
theorem x_can_go_on {w : D} {p : Int} {ls : List Ln} {a b : D} {e f : Int × Int} (hw : Web w p ls) (h : WbOk p ls) (sa : IsEn a e) (sb : IsEn b f) (he : EndOk ls.length e) (hf : EndOk ls.length f) : m_can_go_on [w, a, b] = some (.bool (goesB ls e f)) := by
  unfold m_can_go_on; refine mF_of ?_; walk_at "i"; unfold g_can_go_on goesB
  walk_at "e"
  refine Ed.of (x_far_end sa) ?_
  walk_at "e"
  refine Ed.of (x_place_of hw (isEn_en _) he.far) ?_
  walk_at "e"
  refine Ed.of (x_place_of hw sb hf) ?_
  walk_at "e"
  refine ⟨fun ht => ?_, fun ht => ?_⟩
  · walk_at "e"
    simp only [Bool.not_eq_true', decide_eq_false_iff_not] at ht
    simp [ht]
  · walk_at "e"
    refine Ed.of (x_company_of hw sa he) ?_
    walk_at "e"
    refine Ed.of (x_company_of hw sb hf) ?_
    walk_at "e"
    refine Ed.of (dNe_ch (cmpy_ok h he) (cmpy_ok h hf)) ?_
    simp only [Bool.not_eq_false', decide_eq_true_eq] at ht
    simp [ht]
theorem last_mem {es : List (Int × Int)} (h : es ≠ []) : es.getLast? = some (lastE es) ∧ lastE es ∈ es := by
  unfold lastE
  rw [List.getLast?_eq_some_getLast h]
  exact ⟨rfl, List.getLast_mem h⟩
theorem head_mem {es : List (Int × Int)} (h : es ≠ []) : es[0]? = some (headE es) ∧ headE es ∈ es := by
  cases es with
  | nil => exact absurd rfl h
  | cons e es => exact ⟨rfl, List.mem_cons_self⟩
theorem ed_lastQ {d : D} {xs : List D} {x : D} {Q : D → Prop} (s : Sq d xs) (e : xs.getLast? = some x) (q : Q x) : Ed (dIx d (.int (-1))) Q := by
  rcases s with rfl | rfl
  · obtain ⟨z, h1, h2⟩ := ed_atLast (Q := Q) e q
    exact ⟨z, h1, h2⟩
  · obtain ⟨z, h1, h2⟩ := ed_atLast (Q := Q) e q
    exact ⟨z, h1, h2⟩
/-- a list of ends, as handed -/
def IsRide (d : D) (es : List (Int × Int)) : Prop := ∃ ps : List (D × (Int × Int)), Sq d (ps.map (·.1)) ∧ es = ps.map (·.2) ∧ ∀ q ∈ ps, IsEn q.1 q.2
theorem ride_of {d : D} {es : List (Int × Int)} (s : Sq d (es.map en)) : IsRide d es := ⟨es.map fun l => (en l, l), by rw [List.map_map]; exact s, by rw [List.map_map]; exact (List.map_id _).symm, fun q hq => by
  obtain ⟨l, _, rfl⟩ := List.mem_map.mp hq
  exact isEn_en l⟩
def lE (es : List (Int × Int)) : D := .list (es.map en)
theorem ride_lE (es : List (Int × Int)) : IsRide (lE es) es := ride_of (sq_l _)
def unEn (d : D) : Int × Int := match seqOf d with
  | some [.int a, .int b] => (a, b)
  | _ => (0, 0)
theorem unEn_of {d : D} {e : Int × Int} (s : IsEn d e) : unEn d = e := by unfold unEn; rw [s.of]
def rideD (ls : List Ln) (d : D) : Bool := match seqOf d with
  | some xs => xs.all (endD ls.length) && rideB ls (xs.map unEn)
  | none => false
def roundD (ls : List Ln) (d : D) : Bool := match seqOf d with
  | some xs => xs.all (endD ls.length) && roundB ls (xs.map unEn)
  | none => false
theorem map_unEn {ps : List (D × (Int × Int))} (h : ∀ q ∈ ps, IsEn q.1 q.2) : (ps.map (·.1)).map unEn = ps.map (·.2) := by
  rw [List.map_map]
  exact List.map_congr_left fun q hq => unEn_of (h q hq)
theorem all_endD {ps : List (D × (Int × Int))} (h : ∀ q ∈ ps, IsEn q.1 q.2) (n : Nat) : (ps.map (·.1)).all (endD n) = (ps.map (·.2)).all fun e => decide (EndOk n e) := by
  rw [List.all_map, List.all_map]
  apply Bool.eq_iff_iff.mpr
  simp only [List.all_eq_true, Function.comp]
  exact ⟨fun k q hq => by rw [← endD_of (h q hq)]; exact k q hq, fun k q hq => by rw [endD_of (h q hq)]; exact k q hq⟩
theorem rideD_of {ls : List Ln} {d : D} {es : List (Int × Int)} (h : IsRide d es) : rideD ls d = rideB ls es := by
  obtain ⟨ps, s, rfl, hp⟩ := h
  unfold rideD; rw [s.of]
  simp only
  rw [map_unEn hp, all_endD hp]
  unfold rideB
  cases (ps.map (·.2)).all fun e => decide (EndOk ls.length e) <;> simp
theorem roundD_of {ls : List Ln} {d : D} {es : List (Int × Int)} (h : IsRide d es) : roundD ls d = roundB ls es := by
  obtain ⟨ps, s, rfl, hp⟩ := h
  unfold roundD; rw [s.of]
  simp only
  rw [map_unEn hp, all_endD hp]
  unfold roundB rideB
  cases (ps.map (·.2)).all fun e => decide (EndOk ls.length e) <;> simp
theorem seq_ride {xs : List D} {n : Nat} (h : xs.all (endD n) = true) : ∃ ps : List (D × (Int × Int)), xs = ps.map (·.1) ∧ (∀ q ∈ ps, IsEn q.1 q.2) ∧ ∀ q ∈ ps, EndOk n q.2 := by
  induction xs with
  | nil => exact ⟨[], rfl, (fun _ h => nomatch h), fun _ h => nomatch h⟩
  | cons x xs ih =>
    rw [List.all_cons, Bool.and_eq_true] at h
    obtain ⟨e, s, k⟩ := isEn_of h.1
    obtain ⟨ps, rfl, h1, h2⟩ := ih h.2
    exact ⟨(x, e) :: ps, rfl, fun q hq => by rcases List.mem_cons.mp hq with rfl | hq; exact s; exact h1 q hq, fun q hq => by rcases List.mem_cons.mp hq with rfl | hq; exact k; exact h2 q hq⟩
theorem of_rideD {ls : List Ln} {d : D} (h : rideD ls d = true) : ∃ es, IsRide d es ∧ rideB ls es = true := by
  have h0 := h
  unfold rideD at h
  split at h
  · rename_i xs e
    rw [Bool.and_eq_true] at h
    obtain ⟨ps, rfl, h1, h2⟩ := seq_ride h.1
    have k : IsRide d (ps.map (·.2)) := ⟨ps, sq_of e, rfl, h1⟩
    exact ⟨_, k, by rw [← rideD_of k]; exact h0⟩
  · cases h
theorem rideB_ends {ls : List Ln} {es : List (Int × Int)} (h : rideB ls es = true) : es ≠ [] ∧ (∀ e ∈ es, EndOk ls.length e) ∧ (es.map Prod.fst).Nodup ∧ ∀ q ∈ es.zip es.tail, goesB ls q.1 q.2 = true := by
  unfold rideB at h
  simp only [Bool.and_eq_true, decide_eq_true_eq, List.all_eq_true] at h
  exact ⟨h.1.1.1, h.1.1.2, h.1.2, h.2⟩
def lenD (d : D) : Nat := ((seqOf d).getD []).length
theorem lenD_of {d : D} {xs : List D} (s : Sq d xs) : lenD d = xs.length := by unfold lenD; rw [s.of]; rfl
theorem cut_one {α : Type} (xs : List α) : cutL xs (some 1) none = xs.tail := by rw [cut_from (by decide), show (1 : Int).toNat = 1 from rfl, List.drop_one]
theorem x_ride_is {w : D} {p : Int} {ls : List Ln} (hw : Web w p ls) (h : WbOk p ls) (d : D) (hz : lenD d ≤ 4000) : m_ride_is [w, d] = some (.bool (rideD ls d)) := by
  unfold m_ride_is; refine mF_of ?_; walk_at "i"; unfold g_ride_is
  walk_at "e"
  rw [isi_seq]
  refine ⟨fun h1 => ?_, fun h1 => ?_⟩
  rotate_left
  · walk_at "t"
    walk_at "e"
    have h1 : seqOf d = none := by simpa using h1
    unfold rideD; rw [h1]
    simp
  obtain ⟨xs, hx⟩ := Option.isSome_iff_exists.mp (show (seqOf d).isSome = true by simpa using h1)
  have s := sq_of hx
  rw [lenD_of s] at hz
  have ed : rideD ls d = (xs.all (endD ls.length) && rideB ls (xs.map unEn)) := by unfold rideD; rw [hx]
  rw [ed]
  walk_at "e"
  refine ed_lenQ s ?_
  walk_at "e"
  refine ⟨fun hn => ?_, fun hn => ?_⟩
  rotate_left
  · walk_at "t"
    walk_at "e"
    have : xs = [] := by
      have hn := of_decide_eq_true hn
      exact List.length_eq_zero_iff.mp (by omega)
    simp [this, rideB]
  walk_at "e"
  refine ev_mapX (xs := xs) (enc := fun z => z) (g := fun z => .bool (endD ls.length z)) ?_
  walk_at "e"
  refine ed_itQ s ⟨by simp, fun z hz => ?_, ?_⟩
  · walk_at "e"
    exact Ed.of (x_is_end hw z) ⟨rfl, rfl⟩
  walk_at "e"
  refine all_mapX (endD ls.length) xs ?_
  walk_at "e"
  refine ⟨fun ha => ?_, fun ha => ?_⟩
  · walk_at "e"
    have ha : xs.all (endD ls.length) = false := by simpa using ha
    simp [ha]
  have ha : xs.all (endD ls.length) = true := by simpa using ha
  obtain ⟨ps, rfl, hp, hk⟩ := seq_ride ha
  rw [map_unEn hp, ha, Bool.true_and]
  have hnn : ps.map (·.2) ≠ [] := by
    intro z
    have : ps = [] := List.map_eq_nil_iff.mp z
    rw [this] at hn; simp at hn
  have hall : ∀ e ∈ ps.map (·.2), EndOk ls.length e := fun e he => by
    obtain ⟨q, hq, rfl⟩ := List.mem_map.mp he
    exact hk q hq
  have h1 : (ps.map (·.2)).all (fun e => decide (EndOk ls.length e)) = true := List.all_eq_true.mpr fun e he => decide_eq_true (hall e he)
  unfold rideB
  rw [decide_eq_true hnn, h1, Bool.true_and, Bool.true_and]
  walk_at "e"
  refine ev_mapX (xs := ps) (enc := (·.1)) (g := fun q => .int q.2.1) ?_
  walk_at "e"
  refine ed_itQ s ⟨rfl, fun q hq => ?_, ?_⟩
  · walk_at "e"
    refine ed_ixQ (hp q hq) (by decide) rfl ⟨rfl, rfl⟩
  have e1 : ps.map (fun q => PyData.int q.2.1) = ((ps.map (·.2)).map Prod.fst).map PyData.int := by rw [List.map_map, List.map_map]; rfl
  rw [e1]
  walk_at "e"
  refine ed_lenSet (by simpa using hz) ?_
  walk_at "e"
  refine ed_lenQ s ?_
  walk_at "e"
  have e2 : (((unlike ((ps.map (·.2)).map Prod.fst) : Nat) : Int) = ((ps.map (·.1)).length : Int)) ↔ ((ps.map (·.2)).map Prod.fst).Nodup := by
    rw [← unlike_iff]
    simp only [List.length_map]
    omega
  refine ⟨fun hd => ?_, fun hd => ?_⟩
  · walk_at "e"
    have hd : ¬ ((ps.map (·.2)).map Prod.fst).Nodup := by
      rw [← e2]
      simpa using hd
    rw [decide_eq_false hd]; rfl
  have hd : ((ps.map (·.2)).map Prod.fst).Nodup := by
    rw [← e2]
    simpa using hd
  rw [decide_eq_true hd, Bool.true_and]
  walk_at "e"
  refine ev_mapX (xs := ps.zip ps.tail) (enc := fun z => .tuple [z.1.1, z.2.1]) (g := fun z => .bool (goesB ls z.1.2 z.2.2)) ?_
  have tl : (ps.map (·.1)).tail = ps.tail.map (·.1) := by rw [List.map_tail]
  have ez : zipD (ps.map (·.1)) ((ps.map (·.1)).tail) = (ps.zip ps.tail).map fun z => .tuple [z.1.1, z.2.1] := by
    rw [tl, zipD_map]
  refine ev_zip ?_
  rcases s with rfl | rfl
  · walk_at "e"
    rw [cut_one]
    refine .inl ⟨_, _, rfl, ez, fun z hz => ?_, ?_⟩
    · obtain ⟨m1, m2⟩ := List.of_mem_zip hz
      walk_at "e"
      exact Ed.of (x_can_go_on hw h (hp _ m1) (hp _ (List.mem_of_mem_tail m2)) (hk _ m1) (hk _ (List.mem_of_mem_tail m2))) ⟨rfl, rfl⟩
    · walk_at "e"
      refine all_mapX (fun z : (D × (Int × Int)) × (D × (Int × Int)) => goesB ls z.1.2 z.2.2) _ ?_
      rw [gives_rtI, ← List.map_tail, List.zip_map, List.all_map]
      rfl
  · walk_at "e"
    rw [cut_one]
    refine .inr ⟨_, _, rfl, ez, fun z hz => ?_, ?_⟩
    · obtain ⟨m1, m2⟩ := List.of_mem_zip hz
      walk_at "e"
      exact Ed.of (x_can_go_on hw h (hp _ m1) (hp _ (List.mem_of_mem_tail m2)) (hk _ m1) (hk _ (List.mem_of_mem_tail m2))) ⟨rfl, rfl⟩
    · walk_at "e"
      refine all_mapX (fun z : (D × (Int × Int)) × (D × (Int × Int)) => goesB ls z.1.2 z.2.2) _ ?_
      rw [gives_rtI, ← List.map_tail, List.zip_map, List.all_map]
      rfl
theorem ride_round {ls : List Ln} {d : D} : roundD ls d = (rideD ls d && match seqOf d with
    | some xs => goesB ls (lastE (xs.map unEn)) (headE (xs.map unEn))
    | none => false) := by
  unfold roundD rideD roundB
  cases seqOf d with
  | none => rfl
  | some xs => simp only [Bool.and_assoc]
theorem last_map {ps : List (D × (Int × Int))} (h : ps ≠ []) : ∃ q, q ∈ ps ∧ (ps.map (·.1)).getLast? = some q.1 ∧ lastE (ps.map (·.2)) = q.2 := by
  refine ⟨ps.getLast h, List.getLast_mem h, ?_, ?_⟩
  · rw [List.getLast?_map, List.getLast?_eq_some_getLast h]; rfl
  · unfold lastE
    rw [List.getLast?_map, List.getLast?_eq_some_getLast h]; rfl
theorem head_map {ps : List (D × (Int × Int))} (h : ps ≠ []) : ∃ q, q ∈ ps ∧ (ps.map (·.1))[0]? = some q.1 ∧ headE (ps.map (·.2)) = q.2 := by
  cases ps with
  | nil => exact absurd rfl h
  | cons q ps => exact ⟨q, List.mem_cons_self, rfl, rfl⟩
theorem x_round_is {w : D} {p : Int} {ls : List Ln} (hw : Web w p ls) (h : WbOk p ls) (d : D) (hz : lenD d ≤ 4000) : m_round_is [w, d] = some (.bool (roundD ls d)) := by
  unfold m_round_is; refine mF_of ?_; walk_at "i"; unfold g_round_is
  walk_at "e"
  refine Ed.of (x_ride_is hw h d hz) ?_
  rw [ride_round]
  walk_at "e"
  refine ⟨fun hr => ?_, fun hr => by simp [hr]⟩
  obtain ⟨es, ⟨ps, s, rfl, hp⟩, hb⟩ := of_rideD hr
  obtain ⟨hn, hall, _, _⟩ := rideB_ends hb
  have hn : ps ≠ [] := fun z => hn (by rw [z]; rfl)
  obtain ⟨a, ha, la, la2⟩ := last_map hn
  obtain ⟨b, hb, lb, lb2⟩ := head_map hn
  walk_at "e"
  refine ed_lastQ s la ?_
  walk_at "e"
  refine ed_ixQ s (by decide) lb ?_
  walk_at "e"
  refine Ed.of (x_can_go_on hw h (hp _ ha) (hp _ hb) (hall _ (List.mem_map_of_mem ha)) (hall _ (List.mem_map_of_mem hb))) ?_
  walk_at "e"
  rw [s.of]
  simp only [map_unEn hp, la2, lb2, hr, Bool.true_and]
  rfl
end Lw

set_option maxHeartbeats 4000000
namespace Lw
open PySem Fu
local macro_rules | `(tactic| walk_at "e1") => `(tactic| first
  | with_reducible refine eo_seq ?_ | (with_reducible refine then_nx' ?_; refine ⟨?_, ?_, ?_⟩; rotate_left; · (try dsimp only [List.set, List.length_cons, List.length_nil, List.cons_append, List.nil_append, Nat.zero_add, Nat.reduceAdd]); exact rfl) | with_reducible refine then_rt ?_ | with_reducible refine eo_if ?_ | with_reducible refine eo_ret ?_ | with_reducible refine eo_set ?_ | with_reducible refine eo_asg ?_ | with_reducible refine eo_drop ?_ | with_reducible refine eo_nx ?_ | with_reducible refine eo_par ?_ | with_reducible refine eo_own ?_ | with_reducible refine eo_retN ?_ | with_reducible refine eo_for ?_ | with_reducible refine eo_retO ?_
  | with_reducible refine ev_c ?_ | (with_reducible refine ev_var ?_; refine ⟨_, rfl, ?_⟩) | with_reducible refine ev_bin ?_ | with_reducible refine ev_un ?_ | with_reducible refine ev_nil ?_ | with_reducible refine ev_cons ?_
  | with_reducible refine ev_tup ?_ | with_reducible refine ev_lst ?_ | with_reducible refine ev_call ?_ | with_reducible refine ev_callF ?_ | with_reducible refine ev_isi ?_ | with_reducible refine ev_isi2 ?_ | with_reducible refine ev_andV ?_ | with_reducible refine ev_orV ?_ | with_reducible refine ev_notV ?_
  | with_reducible refine ev_B ?_ | with_reducible refine ev_and ?_ | with_reducible refine ev_or ?_ | with_reducible refine ev_not ?_ | with_reducible refine ev_yes ?_ | with_reducible refine ev_if ?_ | with_reducible refine ev_no ?_ | with_reducible refine ev_so ?_ | with_reducible refine ev_sl ?_ | with_reducible refine ev_items ?_
  | (with_reducible refine ev_ixO ?_; refine ⟨_, _, rfl, rfl, ?_⟩) | (with_reducible refine ev_varO ?_; refine ⟨_, _, rfl, rfl, ?_⟩) | (with_reducible refine ev_lenO ?_; refine ⟨_, _, rfl, rfl, ?_⟩) | (with_reducible refine ev_scrSl ?_; refine ⟨_, rfl, ?_⟩) | (with_reducible refine ev_scrLen ?_; refine ⟨_, rfl, ?_⟩) | (with_reducible refine ev_callScr ?_; refine ⟨_, rfl, ?_⟩) | (with_reducible refine ev_OL ?_; refine ⟨_, _, rfl, rfl, ?_⟩) | with_reducible refine ev_OR ?_ | with_reducible refine ev_rep ?_ | with_reducible refine ev_listRng1 ?_ | with_reducible refine eo_setO ?_
  | with_reducible refine es_name ?_ | with_reducible refine es_tup2 ?_ | with_reducible refine es_tup3 ?_
  | with_reducible refine ed_addI ?_ | with_reducible refine ed_subI ?_ | with_reducible refine ed_cmp ?_ | with_reducible refine ed_eqI ?_ | with_reducible refine ed_neI ?_ | with_reducible refine ed_slT ?_ | with_reducible refine ed_slL ?_ | with_reducible refine ed_lenT ?_ | with_reducible refine ed_lenL ?_ | with_reducible refine ed_lenS ?_ | with_reducible refine ed_inS ?_ | with_reducible refine ed_itT ?_ | with_reducible refine ed_itL ?_ | with_reducible refine ed_tupL ?_ | with_reducible refine ed_tupT ?_ | with_reducible refine ed_listL ?_ | with_reducible refine ed_listT ?_ | with_reducible refine ed_neg ?_ | with_reducible refine ed_max ?_ | with_reducible refine ed_min ?_ | with_reducible refine ed_intB ?_)
local macro_rules | `(tactic| walk_at "e2") => `(tactic| first
  | walk_at "e1" | with_reducible refine ⟨_, rfl, ?_⟩ | with_reducible refine ⟨_, _, rfl, ?_⟩
  | with_reducible refine And.intro (Eq.refl (List.length _)) ?_ | with_reducible refine And.intro (Nat.le_of_ble_eq_true (n := List.length _) rfl) ?_
  | with_reducible refine And.intro (Eq.refl (_ : Sx)) (?_ : Ed _ _)
  | with_reducible exact gives_nx | with_reducible (refine gives_rt ?_; rfl))
local macro_rules | `(tactic| walk_at "e") => `(tactic| repeat walk_at "e2")
/-- begin a def's spec -/
local macro_rules | `(tactic| walk_at "i") => `(tactic| simp only [initS, List.map_cons, List.map_nil, List.length_cons, List.length_nil, Nat.reduceAdd, Nat.reduceSub, List.replicate, List.cons_append, List.nil_append])
def rv (es : List (Int × Int)) : List (Int × Int) := es.reverse.map far
def rot (k : Nat) (es : List (Int × Int)) : List (Int × Int) := es.drop k ++ es.take k
def ways (es : List (Int × Int)) : List (List (Int × Int)) := ((List.range es.length).map fun k => rot k es) ++ ((List.range es.length).map fun k => rot k (rv es))
theorem rv_len (es : List (Int × Int)) : (rv es).length = es.length := by simp [rv]
theorem rot_len (k : Nat) (es : List (Int × Int)) : (rot k es).length = es.length := by simp [rot]; omega
/-! ### rounds and rides, in plain words -/
def chain (ls : List Ln) : List (Int × Int) → Bool
  | [] => true
  | [_] => true
  | e :: f :: r => goesB ls e f && chain ls (f :: r)
theorem chain_zip (ls : List Ln) : ∀ es : List (Int × Int), ((es.zip es.tail).all fun q => goesB ls q.1 q.2) = chain ls es
  | [] => rfl
  | [_] => rfl
  | e :: f :: r => by
    have := chain_zip ls (f :: r)
    simp only [List.tail_cons, List.zip_cons_cons, List.all_cons, chain] at this ⊢
    rw [this]
theorem lastE_cons {e f : Int × Int} {r : List (Int × Int)} : lastE (e :: f :: r) = lastE (f :: r) := by simp [lastE]
theorem lastE_one {e : Int × Int} : lastE [e] = e := rfl
theorem lastE_app {a b : List (Int × Int)} (h : b ≠ []) : lastE (a ++ b) = lastE b := by
  unfold lastE
  rw [List.getLast?_append]
  cases hb : b.getLast? with
  | none => exact absurd (List.getLast?_eq_none_iff.mp hb) h
  | some x => rfl
theorem headE_app {a b : List (Int × Int)} (h : a ≠ []) : headE (a ++ b) = headE a := by
  cases a with
  | nil => exact absurd rfl h
  | cons x a => rfl
theorem chain_app (ls : List Ln) : ∀ a b : List (Int × Int), chain ls (a ++ b) = true ↔ chain ls a = true ∧ chain ls b = true ∧ (a ≠ [] → b ≠ [] → goesB ls (lastE a) (headE b) = true)
  | [], b => by simp [chain]
  | [e], [] => by simp [chain]
  | [e], f :: r => by
    show (goesB ls e f && chain ls (f :: r)) = true ↔ _
    simp only [Bool.and_eq_true, chain, true_and, lastE_one, headE, List.head?_cons, Option.getD_some]
    exact ⟨fun h => ⟨h.2, fun _ _ => h.1⟩, fun h => ⟨h.2 (by simp) (by simp), h.1⟩⟩
  | e :: f :: r, b => by
    show (goesB ls e f && chain ls ((f :: r) ++ b)) = true ↔ _
    rw [Bool.and_eq_true, chain_app ls (f :: r) b, lastE_cons]
    simp only [chain, Bool.and_eq_true]
    exact ⟨fun h => ⟨⟨h.1, h.2.1⟩, h.2.2.1, fun _ => h.2.2.2 (by simp)⟩, fun h => ⟨h.1.1, h.1.2, h.2.1, fun _ => h.2.2 (by simp)⟩⟩
theorem rideB_iff {ls : List Ln} {es : List (Int × Int)} : rideB ls es = true ↔ es ≠ [] ∧ (∀ e ∈ es, EndOk ls.length e) ∧ (es.map Prod.fst).Nodup ∧ chain ls es = true := by
  unfold rideB
  rw [chain_zip]
  simp only [Bool.and_eq_true, decide_eq_true_eq, List.all_eq_true]
  exact ⟨fun h => ⟨h.1.1.1, h.1.1.2, h.1.2, h.2⟩, fun h => ⟨⟨⟨h.1, h.2.1⟩, h.2.2.1⟩, h.2.2.2⟩⟩
theorem roundB_iff {ls : List Ln} {es : List (Int × Int)} : roundB ls es = true ↔ rideB ls es = true ∧ goesB ls (lastE es) (headE es) = true := by
  unfold roundB
  rw [Bool.and_eq_true]
theorem round_swap {ls : List Ln} {a b : List (Int × Int)} (h : roundB ls (a ++ b) = true) : roundB ls (b ++ a) = true := by
  by_cases ha : a = []
  · subst ha; simpa using h
  by_cases hb : b = []
  · subst hb; simpa using h
  rw [roundB_iff, rideB_iff, chain_app] at h ⊢
  obtain ⟨⟨h1, h2, h3, h4, h5, h6⟩, h7⟩ := h
  rw [lastE_app hb, headE_app ha] at h7
  rw [lastE_app ha, headE_app hb]
  refine ⟨⟨by simp [ha], fun e he => h2 e (List.mem_append.mpr (List.mem_append.mp he).symm), ?_, h5, h4, fun _ _ => h7⟩, h6 ha hb⟩
  rw [List.map_append] at h3 ⊢
  exact (List.perm_append_comm.nodup_iff).mp h3
theorem round_rot {ls : List Ln} {es : List (Int × Int)} (k : Nat) (h : roundB ls es = true) : roundB ls (rot k es) = true := by
  unfold rot
  rw [← List.take_append_drop k es] at h
  exact round_swap h
theorem rv_cons (e : Int × Int) (es : List (Int × Int)) : rv (e :: es) = rv es ++ [far e] := by simp [rv]
theorem rv_rv (es : List (Int × Int)) : rv (rv es) = es := by
  unfold rv
  rw [← List.map_reverse, List.reverse_reverse, List.map_map]
  have : far ∘ far = id := by funext e; exact far_far e
  rw [this, List.map_id]
theorem rv_ne {es : List (Int × Int)} (h : es ≠ []) : rv es ≠ [] := fun z => by
  have := congrArg List.length z
  rw [rv_len] at this
  exact h (List.length_eq_zero_iff.mp this)
theorem lastE_rv {es : List (Int × Int)} (h : es ≠ []) : lastE (rv es) = far (headE es) := by
  cases es with
  | nil => exact absurd rfl h
  | cons e es => rw [rv_cons, lastE_app (by simp)]; rfl
theorem headE_rv {es : List (Int × Int)} (h : es ≠ []) : headE (rv es) = far (lastE es) := by
  have := lastE_rv (rv_ne h)
  rw [rv_rv] at this
  rw [this, far_far]
theorem chain_rv (ls : List Ln) : ∀ es : List (Int × Int), chain ls es = true → chain ls (rv es) = true
  | [], _ => rfl
  | [e], _ => rfl
  | e :: f :: r, h => by
    simp only [chain, Bool.and_eq_true] at h
    rw [rv_cons, chain_app]
    refine ⟨chain_rv ls _ h.2, rfl, fun _ _ => ?_⟩
    rw [lastE_rv (by simp)]
    show goesB ls (far f) (far e) = true
    rw [goes_far]; exact h.1
theorem ride_rv {ls : List Ln} {es : List (Int × Int)} (h : rideB ls es = true) : rideB ls (rv es) = true := by
  rw [rideB_iff] at h ⊢
  obtain ⟨h1, h2, h3, h4⟩ := h
  refine ⟨rv_ne h1, fun e he => ?_, ?_, chain_rv ls es h4⟩
  · obtain ⟨f, hf, rfl⟩ := List.mem_map.mp he
    exact (h2 f (List.mem_reverse.mp hf)).far
  · unfold rv
    rw [List.map_map, show Prod.fst ∘ far = (Prod.fst : Int × Int → Int) from rfl, List.map_reverse]
    exact ((List.reverse_perm _).nodup_iff).mpr h3
theorem round_rv {ls : List Ln} {es : List (Int × Int)} (h : roundB ls es = true) : roundB ls (rv es) = true := by
  rw [roundB_iff] at h ⊢
  have hn := (rideB_iff.mp h.1).1
  refine ⟨ride_rv h.1, ?_⟩
  rw [lastE_rv hn, headE_rv hn, goes_far]
  exact h.2
theorem rot_get {es : List (Int × Int)} {k i : Nat} (hk : k ≤ es.length) (hi : i < es.length) : (rot k es)[i]? = es[if i + k < es.length then i + k else i + k - es.length]? := by
  unfold rot
  rw [List.getElem?_append, List.length_drop]
  by_cases h : i + k < es.length
  · rw [if_pos (by omega), if_pos h, List.getElem?_drop, Nat.add_comm]
  · rw [if_neg (by omega), if_neg h, List.getElem?_take, if_pos (by omega), show i - (es.length - k) = i + k - es.length by omega]
theorem rot_ext {a b : List (Int × Int)} (hl : a.length = b.length) (h : ∀ i, i < a.length → a[i]? = b[i]?) : a = b := by
  apply List.ext_getElem?
  intro i
  by_cases hi : i < a.length
  · exact h i hi
  · rw [List.getElem?_eq_none (by omega), List.getElem?_eq_none (by omega)]
theorem rot_rot {es : List (Int × Int)} {j k : Nat} (hj : j < es.length) (hk : k < es.length) : ∃ i, i < es.length ∧ rot j (rot k es) = rot i es := by
  refine ⟨if j + k < es.length then j + k else j + k - es.length, by split <;> omega, rot_ext (by simp only [rot_len]) fun i hi => ?_⟩
  simp only [rot_len] at hi
  have hx : (if i + j < es.length then i + j else i + j - es.length) < es.length := by split <;> omega
  rw [rot_get (by rw [rot_len]; omega) (by rw [rot_len]; exact hi), rot_len, rot_get (by omega) hx, rot_get (by split <;> omega) hi]
  congr 1
  split <;> split <;> split <;> split <;> omega
theorem rot_zero (es : List (Int × Int)) : rot 0 es = es := by simp [rot]
theorem rot_full (es : List (Int × Int)) : rot es.length es = es := by simp [rot]
theorem rot_back {es : List (Int × Int)} {k : Nat} (hk : k ≤ es.length) : rot (es.length - k) (rot k es) = es := by
  refine rot_ext (by simp only [rot_len]) fun i hi => ?_
  simp only [rot_len] at hi
  have hx : (if i + (es.length - k) < es.length then i + (es.length - k) else i + (es.length - k) - es.length) < es.length := by split <;> omega
  rw [rot_get (by rw [rot_len]; omega) (by rw [rot_len]; exact hi), rot_len, rot_get hk hx]
  congr 1
  split <;> split <;> omega
theorem rv_rot {es : List (Int × Int)} {k : Nat} (hk : k ≤ es.length) : rv (rot k es) = rot (es.length - k) (rv es) := by
  unfold rot rv
  rw [List.reverse_append, List.map_append, ← List.map_drop, ← List.map_take]
  congr 2
  · rw [List.drop_reverse, show es.length - (es.length - k) = k by omega]
  · rw [List.take_reverse, show es.length - (es.length - k) = k by omega]
theorem mem_ways {es w : List (Int × Int)} : w ∈ ways es ↔ ∃ k, k < es.length ∧ (w = rot k es ∨ w = rot k (rv es)) := by
  unfold ways
  simp only [List.mem_append, List.mem_map, List.mem_range]
  constructor
  · rintro (⟨k, hk, rfl⟩ | ⟨k, hk, rfl⟩)
    · exact ⟨k, hk, .inl rfl⟩
    · exact ⟨k, hk, .inr rfl⟩
  · rintro ⟨k, hk, rfl | rfl⟩
    · exact .inl ⟨k, hk, rfl⟩
    · exact .inr ⟨k, hk, rfl⟩
theorem ways_rot_sub {es w : List (Int × Int)} {k : Nat} (hk : k < es.length) (h : w ∈ ways (rot k es)) : w ∈ ways es := by
  rw [mem_ways] at h ⊢
  rw [rot_len] at h
  obtain ⟨j, hj, rfl | rfl⟩ := h
  · obtain ⟨i, hi, e⟩ := rot_rot hj hk
    exact ⟨i, hi, .inl e⟩
  · rw [rv_rot (by omega)]
    by_cases h0 : k = 0
    · subst h0
      refine ⟨j, hj, .inr ?_⟩
      rw [Nat.sub_zero, ← rv_len es, rot_full]
    · obtain ⟨i, hi, e⟩ := rot_rot (es := rv es) (j := j) (k := es.length - k) (by rw [rv_len]; exact hj) (by rw [rv_len]; omega)
      rw [rv_len] at hi
      exact ⟨i, hi, .inr e⟩
theorem ways_rot {es w : List (Int × Int)} {k : Nat} (hk : k < es.length) : w ∈ ways (rot k es) ↔ w ∈ ways es := by
  refine ⟨ways_rot_sub hk, fun h => ?_⟩
  by_cases h0 : k = 0
  · subst h0; rwa [rot_zero]
  · refine ways_rot_sub (es := rot k es) (k := es.length - k) (by rw [rot_len]; omega) ?_
    rwa [rot_back (by omega)]
theorem ways_rv {es w : List (Int × Int)} : w ∈ ways (rv es) ↔ w ∈ ways es := by
  rw [mem_ways, mem_ways, rv_len, rv_rv]
  exact ⟨fun ⟨k, hk, h⟩ => ⟨k, hk, h.symm⟩, fun ⟨k, hk, h⟩ => ⟨k, hk, h.symm⟩⟩
theorem ways_round {ls : List Ln} {es w : List (Int × Int)} (h : roundB ls es = true) (hw : w ∈ ways es) : roundB ls w = true := by
  obtain ⟨k, hk, rfl | rfl⟩ := mem_ways.mp hw
  · exact round_rot k h
  · exact round_rot k (round_rv h)
/-! ### the least of all ways -/
end Lw

set_option maxHeartbeats 4000000
namespace Lw
open PySem Fu
local macro_rules | `(tactic| walk_at "e1") => `(tactic| first
  | with_reducible refine eo_seq ?_ | (with_reducible refine then_nx' ?_; refine ⟨?_, ?_, ?_⟩; rotate_left; · (try dsimp only [List.set, List.length_cons, List.length_nil, List.cons_append, List.nil_append, Nat.zero_add, Nat.reduceAdd]); exact rfl) | with_reducible refine then_rt ?_ | with_reducible refine eo_if ?_ | with_reducible refine eo_ret ?_ | with_reducible refine eo_set ?_ | with_reducible refine eo_asg ?_ | with_reducible refine eo_drop ?_ | with_reducible refine eo_nx ?_ | with_reducible refine eo_par ?_ | with_reducible refine eo_own ?_ | with_reducible refine eo_retN ?_ | with_reducible refine eo_for ?_ | with_reducible refine eo_retO ?_
  | with_reducible refine ev_c ?_ | (with_reducible refine ev_var ?_; refine ⟨_, rfl, ?_⟩) | with_reducible refine ev_bin ?_ | with_reducible refine ev_un ?_ | with_reducible refine ev_nil ?_ | with_reducible refine ev_cons ?_
  | with_reducible refine ev_tup ?_ | with_reducible refine ev_lst ?_ | with_reducible refine ev_call ?_ | with_reducible refine ev_callF ?_ | with_reducible refine ev_isi ?_ | with_reducible refine ev_isi2 ?_ | with_reducible refine ev_andV ?_ | with_reducible refine ev_orV ?_ | with_reducible refine ev_notV ?_
  | with_reducible refine ev_B ?_ | with_reducible refine ev_and ?_ | with_reducible refine ev_or ?_ | with_reducible refine ev_not ?_ | with_reducible refine ev_yes ?_ | with_reducible refine ev_if ?_ | with_reducible refine ev_no ?_ | with_reducible refine ev_so ?_ | with_reducible refine ev_sl ?_ | with_reducible refine ev_items ?_
  | (with_reducible refine ev_ixO ?_; refine ⟨_, _, rfl, rfl, ?_⟩) | (with_reducible refine ev_varO ?_; refine ⟨_, _, rfl, rfl, ?_⟩) | (with_reducible refine ev_lenO ?_; refine ⟨_, _, rfl, rfl, ?_⟩) | (with_reducible refine ev_scrSl ?_; refine ⟨_, rfl, ?_⟩) | (with_reducible refine ev_scrLen ?_; refine ⟨_, rfl, ?_⟩) | (with_reducible refine ev_callScr ?_; refine ⟨_, rfl, ?_⟩) | (with_reducible refine ev_OL ?_; refine ⟨_, _, rfl, rfl, ?_⟩) | with_reducible refine ev_OR ?_ | with_reducible refine ev_rep ?_ | with_reducible refine ev_listRng1 ?_ | with_reducible refine eo_setO ?_
  | with_reducible refine es_name ?_ | with_reducible refine es_tup2 ?_ | with_reducible refine es_tup3 ?_
  | with_reducible refine ed_addI ?_ | with_reducible refine ed_subI ?_ | with_reducible refine ed_cmp ?_ | with_reducible refine ed_eqI ?_ | with_reducible refine ed_neI ?_ | with_reducible refine ed_slT ?_ | with_reducible refine ed_slL ?_ | with_reducible refine ed_lenT ?_ | with_reducible refine ed_lenL ?_ | with_reducible refine ed_lenS ?_ | with_reducible refine ed_inS ?_ | with_reducible refine ed_itT ?_ | with_reducible refine ed_itL ?_ | with_reducible refine ed_tupL ?_ | with_reducible refine ed_tupT ?_ | with_reducible refine ed_listL ?_ | with_reducible refine ed_listT ?_ | with_reducible refine ed_neg ?_ | with_reducible refine ed_max ?_ | with_reducible refine ed_min ?_ | with_reducible refine ed_intB ?_
  | with_reducible refine ev_rng1 ?_ | with_reducible refine ev_rng2 ?_)
local macro_rules | `(tactic| walk_at "sd") => `(tactic| first | rfl | assumption | (simp only [decide_eq_true_eq, decide_eq_false_iff_not, Bool.not_eq_true', Bool.not_eq_false', Bool.and_eq_true, Bool.or_eq_true, List.length_map, List.length_cons, List.length_nil, List.length_append, List.length_range] at *; omega))
local macro_rules | `(tactic| walk_at "e2") => `(tactic| first
  | walk_at "e1" | with_reducible refine ⟨_, rfl, ?_⟩ | with_reducible refine ⟨_, _, rfl, ?_⟩
  | with_reducible refine And.intro (Eq.refl (List.length _)) ?_ | with_reducible refine And.intro (Nat.le_of_ble_eq_true (n := List.length _) rfl) ?_
  | with_reducible refine And.intro (Eq.refl (_ : Sx)) (?_ : Ed _ _)
  | ((with_reducible refine And.intro ?_ (And.intro ?_ (?_ : Ev _ _))); (· rfl); (· rfl))
  | ((with_reducible refine ed_ixT ?_ ?_ ?_); (· decide); (· rfl)) | ((with_reducible refine ed_ixL ?_ ?_ ?_); (· decide); (· rfl)) | ((with_reducible refine ed_at ?_ ?_ ?_); (· decide); (· rfl))
  | ((with_reducible refine ed_modI ?_ ?_); (· first | decide | omega))
  | with_reducible exact gives_nx | ((with_reducible refine gives_rt ?_); (· rfl)) | ((with_reducible refine And.intro ?_ ?_); (· exact rfl); (· with_reducible exact Eq.refl (_ : Sx))))
local macro_rules | `(tactic| walk_at "e") => `(tactic| repeat walk_at "e2")
/-- begin a def's spec -/
local macro_rules | `(tactic| walk_at "i") => `(tactic| simp only [initS, List.map_cons, List.map_nil, List.length_cons, List.length_nil, Nat.reduceAdd, Nat.reduceSub, List.replicate, List.cons_append, List.nil_append])
/-- a known truth decides -/
local macro_rules | `(tactic| walk_at "t") => `(tactic| first | ((with_reducible refine split_t ?_ ?_); (· walk_at "sd")) | ((with_reducible refine split_t' ?_ ?_); (· walk_at "sd")))
local macro_rules | `(tactic| walk_at "f") => `(tactic| first | ((with_reducible refine split_f ?_ ?_); (· walk_at "sd")) | ((with_reducible refine split_f' ?_ ?_); (· walk_at "sd")))
/-- all that is seen in a look -/
local macro_rules | `(tactic| walk_at "v") => `(tactic| (rw [sealAll_mk (by (simp only [List.set_cons_zero, List.set_cons_succ, List.map_cons, List.map_nil, sealS_none, sealS_dat, sealS_scr, sealS_own, List.getElem?_cons_zero, List.getElem?_cons_succ, sealC_lst]; rfl)) (by (simp only [List.set_cons_zero, List.set_cons_succ, List.map_cons, List.map_nil]; rfl))]))
/-! ### texts of data -/
theorem dEq_str (x y : Str) : dEq (.str x) (.str y) = some (.bool (decide (x = y))) := by
  unfold dEq
  split
  · congr 2
  · rfl
theorem dEq_str_self (x : Str) : dEq (.str x) (.str x) = some (.bool true) := by rw [dEq_str]; simp
/-- what can be shown: its depth, its weight -/
structure Shw (n m : Nat) (d : D) : Prop where
  lay : d.canLay0 = true
  dep : d.depth ≤ n
  wt : d.weight ≤ m
  short : d.intsShort 13 = true
  sh : d.showable = true
theorem Shw.mono {n m n' m' : Nat} {d : D} (h : Shw n m d) (l : n ≤ n') (k : m ≤ m') : Shw n' m' d := ⟨h.lay, Nat.le_trans h.dep l, Nat.le_trans h.wt k, h.short, h.sh⟩
theorem shw_int {i : Int} (h : i.natAbs < 10 ^ 12) : Shw 0 40 (.int i) := by
  have hb : i.natAbs.log2 ≤ 39 := by
    by_cases z : i.natAbs = 0
    · rw [z]; decide
    · refine Nat.le_of_lt_succ ((Nat.log2_lt z).mpr ?_)
      exact Nat.lt_trans h (by decide)
  refine ⟨by simp [PyData.canLay0], by simp [PyData.depth], ?_, ?_, ?_⟩
  · simp only [PyData.weight]
    split <;> omega
  · simp only [PyData.intsShort, decide_eq_true_eq]
    exact PyData.shown_int_le h
  · simp only [PyData.showable, decide_eq_true_eq]; omega
theorem shw_ch {c : Nat} (h : c < 0x110000) : Shw 0 40 (ch c) := ⟨(fine_ch h).1, (fine_ch h).2, by simp [ch, PyData.weight], rfl, rfl⟩
theorem shw_all {n m : Nat} : ∀ {ds : List D}, (∀ d ∈ ds, Shw n m d) → PyData.canLayAll0 ds = true ∧ PyData.depthAll ds ≤ n ∧ PyData.weightAll ds ≤ ds.length * (m + 1) ∧ PyData.intsShortAll 13 ds = true ∧ PyData.showableAll ds = true
  | [], _ => ⟨rfl, Nat.zero_le _, Nat.zero_le _, rfl, rfl⟩
  | d :: ds, h => by
    obtain ⟨a, b, c, e, f⟩ := shw_all fun x hx => h x (List.mem_cons_of_mem _ hx)
    have k := h d List.mem_cons_self
    refine ⟨by simp [PyData.canLayAll0, a, k.lay], by simp only [PyData.depthAll]; exact Nat.max_le.mpr ⟨k.dep, b⟩, ?_, by simp [PyData.intsShortAll, e, k.short], by simp [PyData.showableAll, f, k.sh]⟩
    simp only [PyData.weightAll, List.length_cons]
    rw [Nat.add_mul]
    have := k.wt
    omega
theorem shw_list {n m : Nat} {ds : List D} (h : ∀ d ∈ ds, Shw n m d) : Shw (n + 1) (ds.length * (m + 1)) (.list ds) := by
  obtain ⟨a, b, c, e, f⟩ := shw_all h
  exact ⟨by simpa [PyData.canLay0] using a, by simp only [PyData.depth]; omega, by simpa only [PyData.weight] using c, by simpa only [PyData.intsShort] using e, by simpa only [PyData.showable] using f⟩
theorem shw_tup {n m : Nat} {ds : List D} (h : ∀ d ∈ ds, Shw n m d) : Shw (n + 1) (ds.length * (m + 1)) (.tuple ds) := by
  obtain ⟨a, b, c, e, f⟩ := shw_all h
  exact ⟨by simpa [PyData.canLay0] using a, by simp only [PyData.depth]; omega, by simpa only [PyData.weight] using c, by simpa only [PyData.intsShort] using e, by simpa only [PyData.showable] using f⟩
theorem shw_sq {n m : Nat} {d : D} {ds : List D} (s : Sq d ds) (h : ∀ d ∈ ds, Shw n m d) : Shw (n + 1) (ds.length * (m + 1)) d := by
  rcases s with rfl | rfl
  · exact shw_list h
  · exact shw_tup h
theorem Shw.ok {n m : Nat} {d : D} (h : Shw n m d) (hn : n ≤ 60) (hm : m ≤ 1048576) : showOk d = true := by
  unfold showOk
  have l : d.shown.length ≤ sizeLine := PyData.shown_fits (B := 13) (by decide) (by decide) (PyData.leavesShort_of_canLay0 13 d h.lay h.short) (by have := h.wt; omega)
  rw [sizeLine_eq] at l
  simp only [Bool.and_eq_true, decide_eq_true_eq, Bool.not_eq_true']
  exact ⟨⟨⟨⟨h.sh, PyData.hasDict_of_canLay d h.lay⟩, h.lay⟩, Nat.le_trans h.dep hn⟩, l⟩
theorem Shw.fine {n m : Nat} {d : D} (h : Shw n m d) : Fine n d := ⟨h.lay, h.dep⟩
/-! ### all tuples turned to lists -/
mutual
def listsD : D → D
  | .list xs => .list (listsDs xs)
  | .tuple xs => .list (listsDs xs)
  | d => d
def listsDs : List D → List D
  | [] => []
  | x :: xs => listsD x :: listsDs xs
end
theorem listsDs_map : ∀ xs : List D, listsDs xs = xs.map listsD
  | [] => rfl
  | x :: xs => by rw [listsDs, listsDs_map xs]; rfl
theorem lists_sq {d : D} {xs : List D} (s : Sq d xs) : listsD d = .list (xs.map listsD) := by
  rcases s with rfl | rfl <;> rw [listsD, listsDs_map]
theorem depth_mem : ∀ {xs : List D} {x : D}, x ∈ xs → x.depth ≤ PyData.depthAll xs
  | y :: ys, x, h => by
    simp only [PyData.depthAll]
    rcases List.mem_cons.mp h with rfl | h
    · exact Nat.le_max_left _ _
    · exact Nat.le_trans (depth_mem h) (Nat.le_max_right _ _)
theorem depth_sq {d : D} {xs : List D} (s : Sq d xs) : d.depth = PyData.depthAll xs + 1 := by rcases s with rfl | rfl <;> simp only [PyData.depth]
theorem x_lists : ∀ (n : Nat) (d : D), d.depth < n → m__law_lists n [d] = some (listsD d)
  | 0, _, h => absurd h (Nat.not_lt_zero _)
  | n + 1, d, h => by
    show mF 2 (g__law_lists (m__law_lists n)) [d] = _
    refine mF_of ?_; walk_at "i"; unfold g__law_lists
    walk_at "e"
    rw [isi_seq]
    refine ⟨fun h1 => ?_, fun h1 => ?_⟩
    · obtain ⟨xs, hx⟩ := Option.isSome_iff_exists.mp h1
      have s := sq_of hx
      walk_at "e"
      refine ev_mapX (xs := xs) (enc := fun z => z) (g := listsD) ?_
      walk_at "e"
      refine ed_itQ s ⟨by simp, fun z hz => ?_, ?_⟩
      · walk_at "e"
        have hd := depth_mem hz
        have := depth_sq s
        refine Ed.of (x_lists n z (by omega)) ⟨rfl, rfl⟩
      · walk_at "e"
        rw [gives_rtI, lists_sq s]
    · have h1 : seqOf d = none := by simpa using h1
      walk_at "e"
      cases d <;> first | rfl | simp [seqOf] at h1
theorem isEn_lists {d : D} {e : Int × Int} (s : IsEn d e) : IsEn (listsD d) e := by
  unfold IsEn; rw [lists_sq s]; exact sq_l _
theorem isLn_lists {d : D} {l : Ln} (s : IsLn d l) : IsLn (listsD d) l := by
  unfold IsLn; rw [lists_sq s]; exact sq_l _
theorem ride_lists {d : D} {es : List (Int × Int)} (h : IsRide d es) : IsRide (listsD d) es := by
  obtain ⟨ps, s, rfl, hp⟩ := h
  refine ⟨ps.map fun q => (listsD q.1, q.2), ?_, by rw [List.map_map]; rfl, fun q hq => ?_⟩
  · rw [lists_sq s, List.map_map, List.map_map]; exact sq_l _
  · obtain ⟨r, hr, rfl⟩ := List.mem_map.mp hq
    exact isEn_lists (hp r hr)
theorem lns_lists {d : D} {ls : List Ln} (h : Lns d ls) : Lns (listsD d) ls := by
  obtain ⟨ps, s, rfl, hp⟩ := h
  refine ⟨ps.map fun q => (listsD q.1, q.2), ?_, by rw [List.map_map]; rfl, fun q hq => ?_⟩
  · rw [lists_sq s, List.map_map, List.map_map]; exact sq_l _
  · obtain ⟨r, hr, rfl⟩ := List.mem_map.mp hq
    exact isLn_lists (hp r hr)
theorem web_lists {d : D} {p : Int} {ls : List Ln} (h : Web d p ls) : Web (listsD d) p ls := by
  obtain ⟨L, s, hL⟩ := h
  exact ⟨listsD L, by rw [lists_sq s]; exact sq_l _, lns_lists hL⟩
/-! ### how webs and rides are shown -/
theorem shw_ln {p : Int} {d : D} {l : Ln} (s : IsLn d l) (h : LnOk p l) (hp : p ≤ 1000000) : Shw 1 123 d := by
  refine shw_sq (n := 0) (m := 40) s fun x hx => ?_
  simp only [List.mem_cons, List.not_mem_nil, or_false] at hx
  have := h.a0; have := h.a1; have := h.b0; have := h.b1
  rcases hx with rfl | rfl | rfl
  · exact shw_int (by omega)
  · exact shw_int (by omega)
  · exact shw_ch h.c.ok
theorem shw_lns {p : Int} {d : D} {ls : List Ln} (h : Lns d ls) (k : ∀ l ∈ ls, LnOk p l) (hp : p ≤ 1000000) : Shw 2 (ls.length * 124) d := by
  obtain ⟨ps, s, rfl, hq⟩ := h
  have := shw_sq s (n := 1) (m := 123) fun x hx => by
    obtain ⟨q, hm, rfl⟩ := List.mem_map.mp hx
    exact shw_ln (hq q hm) (k _ (List.mem_map_of_mem hm)) hp
  simpa using this
theorem shw_web {d : D} {p : Int} {ls : List Ln} (h : Web d p ls) (k : WbOk p ls) (hp : p ≤ 1000000) : Shw 3 (2 * (ls.length * 124 + 41)) d := by
  obtain ⟨L, s, hL⟩ := h
  have := shw_sq s (n := 2) (m := ls.length * 124 + 40) fun x hx => by
    simp only [List.mem_cons, List.not_mem_nil, or_false] at hx
    rcases hx with rfl | rfl
    · exact (shw_int (by have := k.p0; omega)).mono (by decide) (by omega)
    · exact (shw_lns hL k.all hp).mono (by decide) (by omega)
  simpa using this
theorem shw_en {d : D} {e : Int × Int} (s : IsEn d e) (h1 : e.1.natAbs < 10 ^ 12) (h2 : e.2.natAbs < 10 ^ 12) : Shw 1 82 d := by
  refine shw_sq (n := 0) (m := 40) s fun x hx => ?_
  simp only [List.mem_cons, List.not_mem_nil, or_false] at hx
  rcases hx with rfl | rfl
  · exact shw_int h1
  · exact shw_int h2
theorem shw_ride {d : D} {es : List (Int × Int)} (h : IsRide d es) (k : ∀ e ∈ es, e.1.natAbs < 10 ^ 12 ∧ e.2.natAbs < 10 ^ 12) : Shw 2 (es.length * 83) d := by
  obtain ⟨ps, s, rfl, hq⟩ := h
  have := shw_sq s (n := 1) (m := 82) fun x hx => by
    obtain ⟨q, hm, rfl⟩ := List.mem_map.mp hx
    have := k _ (List.mem_map_of_mem (f := (·.2)) hm)
    exact shw_en (hq q hm) this.1 this.2
  simpa using this
end Lw

set_option maxHeartbeats 4000000
namespace Lw
open PySem Fu
local macro_rules | `(tactic| walk_at "e1") => `(tactic| first
  | with_reducible refine eo_seq ?_ | (with_reducible refine then_nx' ?_; refine ⟨?_, ?_, ?_⟩; rotate_left; · (try dsimp only [List.set, List.length_cons, List.length_nil, List.cons_append, List.nil_append, Nat.zero_add, Nat.reduceAdd]); exact rfl) | with_reducible refine then_rt ?_ | with_reducible refine eo_if ?_ | with_reducible refine eo_ret ?_ | with_reducible refine eo_set ?_ | with_reducible refine eo_asg ?_ | with_reducible refine eo_drop ?_ | with_reducible refine eo_nx ?_ | with_reducible refine eo_par ?_ | with_reducible refine eo_own ?_ | with_reducible refine eo_retN ?_ | with_reducible refine eo_for ?_ | with_reducible refine eo_retO ?_
  | with_reducible refine ev_c ?_ | (with_reducible refine ev_var ?_; refine ⟨_, rfl, ?_⟩) | with_reducible refine ev_bin ?_ | with_reducible refine ev_un ?_ | with_reducible refine ev_nil ?_ | with_reducible refine ev_cons ?_
  | with_reducible refine ev_tup ?_ | with_reducible refine ev_lst ?_ | with_reducible refine ev_call ?_ | with_reducible refine ev_callF ?_ | with_reducible refine ev_isi ?_ | with_reducible refine ev_isi2 ?_ | with_reducible refine ev_andV ?_ | with_reducible refine ev_orV ?_ | with_reducible refine ev_notV ?_
  | with_reducible refine ev_B ?_ | with_reducible refine ev_and ?_ | with_reducible refine ev_or ?_ | with_reducible refine ev_not ?_ | with_reducible refine ev_yes ?_ | with_reducible refine ev_if ?_ | with_reducible refine ev_no ?_ | with_reducible refine ev_so ?_ | with_reducible refine ev_sl ?_ | with_reducible refine ev_items ?_
  | (with_reducible refine ev_ixO ?_; refine ⟨_, _, rfl, rfl, ?_⟩) | (with_reducible refine ev_varO ?_; refine ⟨_, _, rfl, rfl, ?_⟩) | (with_reducible refine ev_lenO ?_; refine ⟨_, _, rfl, rfl, ?_⟩) | (with_reducible refine ev_scrSl ?_; refine ⟨_, rfl, ?_⟩) | (with_reducible refine ev_scrLen ?_; refine ⟨_, rfl, ?_⟩) | (with_reducible refine ev_callScr ?_; refine ⟨_, rfl, ?_⟩) | (with_reducible refine ev_OL ?_; refine ⟨_, _, rfl, rfl, ?_⟩) | with_reducible refine ev_OR ?_ | with_reducible refine ev_rep ?_ | with_reducible refine ev_listRng1 ?_ | with_reducible refine eo_setO ?_
  | with_reducible refine es_name ?_ | with_reducible refine es_tup2 ?_ | with_reducible refine es_tup3 ?_
  | with_reducible refine ed_addI ?_ | with_reducible refine ed_subI ?_ | with_reducible refine ed_cmp ?_ | with_reducible refine ed_eqI ?_ | with_reducible refine ed_neI ?_ | with_reducible refine ed_slT ?_ | with_reducible refine ed_slL ?_ | with_reducible refine ed_lenT ?_ | with_reducible refine ed_lenL ?_ | with_reducible refine ed_lenS ?_ | with_reducible refine ed_inS ?_ | with_reducible refine ed_itT ?_ | with_reducible refine ed_itL ?_ | with_reducible refine ed_tupL ?_ | with_reducible refine ed_tupT ?_ | with_reducible refine ed_listL ?_ | with_reducible refine ed_listT ?_ | with_reducible refine ed_neg ?_ | with_reducible refine ed_max ?_ | with_reducible refine ed_min ?_ | with_reducible refine ed_intB ?_)
local macro_rules | `(tactic| walk_at "e2") => `(tactic| first
  | walk_at "e1" | with_reducible refine ⟨_, rfl, ?_⟩ | with_reducible refine ⟨_, _, rfl, ?_⟩
  | with_reducible refine And.intro (Eq.refl (List.length _)) ?_ | with_reducible refine And.intro (Nat.le_of_ble_eq_true (n := List.length _) rfl) ?_
  | with_reducible refine And.intro (Eq.refl (_ : Sx)) (?_ : Ed _ _)
  | with_reducible exact gives_nx | with_reducible (refine gives_rt ?_; rfl))
local macro_rules | `(tactic| walk_at "e") => `(tactic| repeat walk_at "e2")
/-- begin a def's spec -/
local macro_rules | `(tactic| walk_at "i") => `(tactic| simp only [initS, List.map_cons, List.map_nil, List.length_cons, List.length_nil, Nat.reduceAdd, Nat.reduceSub, List.replicate, List.cons_append, List.nil_append])
namespace Sp
/-! ### the spring -/
structure Reel (b : Nat) (cs : List D) : Prop where
  ex : ∃ (f s n : Int), cs = [.int f, .int s, .int n] ∧ 0 ≤ f ∧ 0 ≤ s ∧ s < 2305843009213693951 ∧ 0 ≤ n ∧ n + b ≤ 18446744073709551616
theorem Reel.mono {a b : Nat} {cs : List D} (h : Reel a cs) (l : b ≤ a) : Reel b cs := by
  obtain ⟨f, s, n, h1, h2, h3, h4, h5, h6⟩ := h
  exact ⟨f, s, n, h1, h2, h3, h4, h5, by omega⟩
theorem log_lt {i : Int} {k : Nat} (h : i.natAbs < 2 ^ (k + 1)) : i.natAbs.log2 ≤ k := by
  by_cases z : i.natAbs = 0
  · rw [z]; simp
  · exact Nat.le_of_lt_succ ((Nat.log2_lt z).mpr h)
theorem mulW {i j : Int} (a : -170141183460469231731687303715884105728 < i ∧ i < 170141183460469231731687303715884105728) (b : -170141183460469231731687303715884105728 < j ∧ j < 170141183460469231731687303715884105728) : L2.CMulW i j := by
  unfold L2.CMulW
  have h1 : i.natAbs.log2 ≤ 126 := log_lt (by show i.natAbs < 170141183460469231731687303715884105728; omega)
  have h2 : j.natAbs.log2 ≤ 126 := log_lt (by show j.natAbs < 170141183460469231731687303715884105728; omega)
  omega
theorem divW {i j : Int} (a : 0 < j ∧ j < 170141183460469231731687303715884105728) : L2.CDivW i j := by
  unfold L2.CDivW
  have h2 : j.natAbs.log2 ≤ 126 := log_lt (by show j.natAbs < 170141183460469231731687303715884105728; omega)
  exact ⟨a.1, by omega⟩
theorem x_draw {b : Nat} {cs : List D} {many : Int} (h : Reel (b + 1) cs) (m0 : 0 < many) (m1 : many ≤ 18446744073709551616) : ∃ d cs', m__law_draw_k15 cs [.int many] = some (d, cs') ∧ ∃ v, d = .int v ∧ 0 ≤ v ∧ v < many ∧ Reel b cs' := by
  obtain ⟨f, s, n, rfl, f0, s0, s1, n0, n1⟩ := h
  unfold m__law_draw_k15; refine mIO_of ?_; walk_at "i"; unfold g__law_draw_k15
  walk_at "e"
  refine ed_at (by decide) rfl ?_
  walk_at "e"
  refine ⟨fun ht => ?_, fun ht => ?_⟩
  · walk_at "e"
    refine ed_at (by decide) rfl ?_
    walk_at "e"
    refine ed_modI m0 ?_
    walk_at "e"
    refine ed_at (by decide) rfl ?_
    walk_at "e"
    refine ed_divI (divW ⟨m0, by omega⟩) ?_
    refine ⟨0, _, rfl, rfl, ?_⟩
    walk_at "e"
    refine ⟨rfl, 0, rfl, by simp, ?_⟩
    walk_at "e"
    exact ⟨_, rfl, _, rfl, Int.emod_nonneg _ (by omega), Int.emod_lt_of_pos _ m0, f / many, s, n, rfl, Int.ediv_nonneg f0 (by omega), s0, s1, n0, by omega⟩
  · walk_at "e"
    refine ed_at (by decide) rfl ?_
    walk_at "e"
    refine ⟨0, _, rfl, rfl, ?_⟩
    walk_at "e"
    refine ⟨rfl, 2, rfl, by simp, ?_⟩
    walk_at "e"
    refine ed_at (by decide) rfl ?_
    walk_at "e"
    refine ed_at (by decide) rfl ?_
    walk_at "e"
    refine ed_mulI (mulW ⟨by omega, by omega⟩ ⟨by omega, by omega⟩) ?_
    walk_at "e"
    refine ed_modI (by decide) ?_
    walk_at "e"
    refine ed_at (by decide) rfl ?_
    walk_at "e"
    refine ed_mulI (mulW ⟨by omega, by omega⟩ ⟨by omega, by omega⟩) ?_
    walk_at "e"
    refine ed_at (by decide) rfl ?_
    walk_at "e"
    refine ed_mulI (mulW ⟨by omega, by omega⟩ ⟨by omega, by omega⟩) ?_
    walk_at "e"
    refine ed_modI (by decide) ?_
    refine ⟨0, _, rfl, rfl, ?_⟩
    walk_at "e"
    refine ⟨rfl, 1, rfl, by simp, ?_⟩
    walk_at "e"
    refine ed_at (by decide) rfl ?_
    walk_at "e"
    refine ed_divI (divW ⟨by decide, by decide⟩) ?_
    walk_at "e"
    refine ed_modI m0 ?_
    exact ⟨_, rfl, _, rfl, Int.emod_nonneg _ (by omega), Int.emod_lt_of_pos _ m0, f, _, n + 1, rfl, f0, Int.emod_nonneg _ (by decide), Int.emod_lt_of_pos _ (by decide), by omega, by omega⟩
theorem ed_abs {Q : D → Prop} {i : Int} (h : Q (.int i.natAbs)) : Ed (dAbs [.int i]) Q := ⟨_, rfl, by
  have : (if i < 0 then -i else i) = (i.natAbs : Int) := by split <;> omega
  rw [this]; exact h⟩
theorem x_spring {ns : List Int} (h : ns.length ≤ 63) : ∃ cs, m__law_spring ns = some cs ∧ Reel 4294967296 cs := by
  unfold m__law_spring; refine mScrN_of ?_; walk_at "i"; unfold g__law_spring
  walk_at "e"
  rw [cut_to (by decide), List.take_of_length_le (by simpa using h)]
  have hlen : (ns.map PyData.int).length ≤ 63 := by simpa using h
  refine eo_loop (fun i S => ∃ f st x, S = ⟨[some (.scr ns), some (.dat (.int f)), some (.dat (.int st)), x], []⟩ ∧ 0 ≤ f ∧ f < 2 ^ (200 * i) ∧ 0 ≤ st ∧ st < 2305843009213693951) ⟨_, _, _, rfl, by decide, by decide, by decide, by decide⟩ ?_ ?_
  · rintro i d S hd ⟨f, st, x, rfl, f0, f1, h0, h1⟩
    have hi : i < 63 := by
      have := (List.getElem?_eq_some_iff.mp hd).1
      omega
    obtain ⟨c, hc, rfl⟩ := List.mem_map.mp (List.mem_of_getElem? hd)
    have hp : (2 : Int) ^ (200 * (i + 1)) = 2 ^ (200 * i) * 2 ^ 200 := by rw [← Int.pow_add]; congr 1
    have hpos : (0 : Int) < 2 ^ (200 * i) := Int.pow_pos (by decide)
    have hbig : (10 : Int) ^ 60 < 2 ^ 200 := by decide
    have mono : f < 2 ^ (200 * (i + 1)) := by
      rw [hp]
      have : (2 : Int) ^ (200 * i) * 1 ≤ 2 ^ (200 * i) * 2 ^ 200 := Int.mul_le_mul_of_nonneg_left (by decide) (by omega)
      omega
    walk_at "e"
    refine ed_abs ?_
    walk_at "e"
    refine ed_powI (by decide) ?_
    walk_at "e"
    refine ⟨fun ht => ?_, fun ht => ?_⟩
    · walk_at "e"
      refine ed_powI (by decide) ?_
      refine ed_mulI ?_ ?_
      · unfold L2.CMulW
        have e1 : f.natAbs.log2 ≤ 200 * i := log_lt (by
          have : (f.natAbs : Int) < ((2 ^ (200 * i + 1) : Nat) : Int) := by
            push_cast
            rw [Int.pow_succ]
            omega
          exact Int.ofNat_lt.mp this)
        have e2 : ((10 : Int) ^ (60 : Int).toNat).natAbs.log2 ≤ 200 := by decide
        omega
      walk_at "e"
      refine ed_abs ?_
      walk_at "e"
      refine ed_powI (by decide) ?_
      refine ed_modI (by decide) ?_
      walk_at "e"
      refine ed_mulI (mulW ⟨by omega, by omega⟩ ⟨by decide, by decide⟩) ?_
      walk_at "e"
      refine ed_modI (by decide) ?_
      walk_at "e"
      refine ed_modI (by decide) ?_
      refine ⟨_, rfl, _, _, _, rfl, ?_, ?_, Int.emod_nonneg _ (by decide), Int.emod_lt_of_pos _ (by decide)⟩
      · have := Int.emod_nonneg (c.natAbs : Int) (show (10 : Int) ^ (60 : Int).toNat ≠ 0 by decide)
        have := Int.mul_nonneg f0 (show (0 : Int) ≤ 10 ^ (60 : Int).toNat by decide)
        omega
      · have a1 := Int.emod_lt_of_pos (c.natAbs : Int) (show (0 : Int) < 10 ^ (60 : Int).toNat by decide)
        have a2 : (f + 1) * (10 : Int) ^ (60 : Int).toNat ≤ 2 ^ (200 * i) * 10 ^ (60 : Int).toNat := Int.mul_le_mul_of_nonneg_right (by omega) (by decide)
        have a3 : (2 : Int) ^ (200 * i) * 10 ^ (60 : Int).toNat ≤ 2 ^ (200 * i) * 2 ^ 200 := Int.mul_le_mul_of_nonneg_left (by decide) (by omega)
        rw [hp]
        rw [Int.add_mul, Int.one_mul] at a2
        omega
    · walk_at "e"
      refine ed_mulI (mulW ⟨by omega, by omega⟩ ⟨by decide, by decide⟩) ?_
      walk_at "e"
      refine ed_modI (by decide) ?_
      walk_at "e"
      refine ed_modI (by decide) ?_
      exact ⟨_, rfl, _, _, _, rfl, f0, mono, Int.emod_nonneg _ (by decide), Int.emod_lt_of_pos _ (by decide)⟩
  · rintro S ⟨f, st, x, rfl, f0, f1, h0, h1⟩
    walk_at "e"
    exact ⟨_, _, _, rfl, rfl, f, st, 0, rfl, f0, h0, h1, by decide, by decide⟩
end Sp
end Lw

set_option maxHeartbeats 4000000
namespace Lw
open PySem Fu
local macro_rules | `(tactic| walk_at "e1") => `(tactic| first
  | with_reducible refine eo_seq ?_ | (with_reducible refine then_nx' ?_; refine ⟨?_, ?_, ?_⟩; rotate_left; · (try dsimp only [List.set, List.length_cons, List.length_nil, List.cons_append, List.nil_append, Nat.zero_add, Nat.reduceAdd]); exact rfl) | with_reducible refine then_rt ?_ | with_reducible refine eo_if ?_ | with_reducible refine eo_ret ?_ | with_reducible refine eo_set ?_ | with_reducible refine eo_asg ?_ | with_reducible refine eo_drop ?_ | with_reducible refine eo_nx ?_ | with_reducible refine eo_par ?_ | with_reducible refine eo_own ?_ | with_reducible refine eo_retN ?_ | with_reducible refine eo_for ?_ | with_reducible refine eo_retO ?_
  | with_reducible refine ev_c ?_ | (with_reducible refine ev_var ?_; refine ⟨_, rfl, ?_⟩) | with_reducible refine ev_bin ?_ | with_reducible refine ev_un ?_ | with_reducible refine ev_nil ?_ | with_reducible refine ev_cons ?_
  | with_reducible refine ev_tup ?_ | with_reducible refine ev_lst ?_ | with_reducible refine ev_call ?_ | with_reducible refine ev_callF ?_ | with_reducible refine ev_isi ?_ | with_reducible refine ev_isi2 ?_ | with_reducible refine ev_andV ?_ | with_reducible refine ev_orV ?_ | with_reducible refine ev_notV ?_
  | with_reducible refine ev_B ?_ | with_reducible refine ev_and ?_ | with_reducible refine ev_or ?_ | with_reducible refine ev_not ?_ | with_reducible refine ev_yes ?_ | with_reducible refine ev_if ?_ | with_reducible refine ev_no ?_ | with_reducible refine ev_so ?_ | with_reducible refine ev_sl ?_ | with_reducible refine ev_items ?_
  | (with_reducible refine ev_ixO ?_; refine ⟨_, _, rfl, rfl, ?_⟩) | (with_reducible refine ev_varO ?_; refine ⟨_, _, rfl, rfl, ?_⟩) | (with_reducible refine ev_lenO ?_; refine ⟨_, _, rfl, rfl, ?_⟩) | (with_reducible refine ev_scrSl ?_; refine ⟨_, rfl, ?_⟩) | (with_reducible refine ev_scrLen ?_; refine ⟨_, rfl, ?_⟩) | (with_reducible refine ev_callScr ?_; refine ⟨_, rfl, ?_⟩) | (with_reducible refine ev_OL ?_; refine ⟨_, _, rfl, rfl, ?_⟩) | with_reducible refine ev_OR ?_ | with_reducible refine ev_rep ?_ | with_reducible refine ev_listRng1 ?_ | with_reducible refine eo_setO ?_
  | with_reducible refine es_name ?_ | with_reducible refine es_tup2 ?_ | with_reducible refine es_tup3 ?_
  | with_reducible refine ed_addI ?_ | with_reducible refine ed_subI ?_ | with_reducible refine ed_cmp ?_ | with_reducible refine ed_eqI ?_ | with_reducible refine ed_neI ?_ | with_reducible refine ed_slT ?_ | with_reducible refine ed_slL ?_ | with_reducible refine ed_lenT ?_ | with_reducible refine ed_lenL ?_ | with_reducible refine ed_lenS ?_ | with_reducible refine ed_inS ?_ | with_reducible refine ed_itT ?_ | with_reducible refine ed_itL ?_ | with_reducible refine ed_tupL ?_ | with_reducible refine ed_tupT ?_ | with_reducible refine ed_listL ?_ | with_reducible refine ed_listT ?_ | with_reducible refine ed_neg ?_ | with_reducible refine ed_max ?_ | with_reducible refine ed_min ?_ | with_reducible refine ed_intB ?_)
local macro_rules | `(tactic| walk_at "e2") => `(tactic| first
  | walk_at "e1" | with_reducible refine ⟨_, rfl, ?_⟩ | with_reducible refine ⟨_, _, rfl, ?_⟩
  | with_reducible refine And.intro (Eq.refl (List.length _)) ?_ | with_reducible refine And.intro (Nat.le_of_ble_eq_true (n := List.length _) rfl) ?_
  | with_reducible refine And.intro (Eq.refl (_ : Sx)) (?_ : Ed _ _)
  | with_reducible exact gives_nx | with_reducible (refine gives_rt ?_; rfl))
local macro_rules | `(tactic| walk_at "e") => `(tactic| repeat walk_at "e2")
/-- begin a def's spec -/
local macro_rules | `(tactic| walk_at "i") => `(tactic| simp only [initS, List.map_cons, List.map_nil, List.length_cons, List.length_nil, Nat.reduceAdd, Nat.reduceSub, List.replicate, List.cons_append, List.nil_append])
namespace Sp
/-! ### the circle that the law plants -/
def lastN (sg : List Nat) : Nat := sg.getLast?.getD 0
def headN (sg : List Nat) : Nat := sg.head?.getD 0
structure Signs (sg : List Nat) : Prop where
  all : ∀ c ∈ sg, 97 ≤ c ∧ c ≤ 100
  adj : ∀ i a b, sg[i]? = some a → sg[i + 1]? = some b → a ≠ b
/-- the line at one step of the circle -/
def stepLn (n : Nat) (sp : List Int) (sg : List Nat) (i : Nat) (s : Int) : Ln :=
  if s = 0 then (sp.getD i 0, sp.getD ((i + 1) % n) 0, sg.getD i 0) else (sp.getD ((i + 1) % n) 0, sp.getD i 0, sg.getD i 0)
structure Half (p : Int) (first n k : Nat) (sp : List Int) (sg : List Nat) (L : List Nat) (qs : List (Option Ln)) (es : List (Int × Int)) : Prop where
  len : L.length + k = n
  nd : L.Nodup
  lt : ∀ m ∈ L, m < n
  qlen : qs.length = n
  free : ∀ m ∈ L, qs[m]? = some none
  full : ∀ m, m < n → m ∉ L → ∃ l, qs[m]? = some (some l) ∧ LnOk p l
  elen : es.length = k
  at' : ∀ i, i < k → ∃ (m : Nat) (s : Int), es[i]? = some (((first + m : Nat) : Int), s) ∧ m < n ∧ m ∉ L ∧ (s = 0 ∨ s = 1) ∧ qs[m]? = some (some (stepLn n sp sg i s))
  end' : (es.map Prod.fst).Nodup
  sub : ∀ e ∈ es, ∃ m : Nat, e.1 = ((first + m : Nat) : Int) ∧ m < n ∧ m ∉ L
theorem Half.step {p : Int} {first n k : Nat} {sp : List Int} {sg L : List Nat} {qs : List (Option Ln)} {es : List (Int × Int)} {v m : Nat} {s : Int} (h : Half p first n k sp sg L qs es) (hv : L[v]? = some m) (hs : s = 0 ∨ s = 1) (hl : LnOk p (stepLn n sp sg k s)) :
    Half p first n (k + 1) sp sg (L.eraseIdx v) (qs.set m (some (stepLn n sp sg k s))) (es ++ [(((first + m : Nat) : Int), s)]) := by
  obtain ⟨hvl, hve⟩ := List.getElem?_eq_some_iff.mp hv
  have hm : m ∈ L := List.mem_of_getElem? hv
  have hmn := h.lt m hm
  have hne : m ∉ L.eraseIdx v := by
    intro z
    rw [List.mem_eraseIdx_iff_getElem?] at z
    obtain ⟨i, hi, he⟩ := z
    obtain ⟨hil, hie⟩ := List.getElem?_eq_some_iff.mp he
    exact hi ((List.getElem_inj h.nd).mp (hie.trans hve.symm))
  have hsub : ∀ x ∈ L.eraseIdx v, x ∈ L := fun x hx => List.mem_of_mem_eraseIdx hx
  have hback : ∀ x ∈ L, x ≠ m → x ∈ L.eraseIdx v := fun x hx hxm => by
    rw [List.mem_eraseIdx_iff_getElem?]
    obtain ⟨i, hi⟩ := List.mem_iff_getElem?.mp hx
    refine ⟨i, fun e => ?_, hi⟩
    subst e
    rw [hv] at hi
    cases hi; exact hxm rfl
  refine ⟨?_, h.nd.sublist (List.eraseIdx_sublist L v), fun x hx => h.lt x (hsub x hx), by rw [List.length_set]; exact h.qlen, fun x hx => ?_, fun x hx hxl => ?_, ?_, fun i hi => ?_, ?_, fun e he => ?_⟩
  · rw [List.length_eraseIdx, if_pos hvl]
    have := h.len
    omega
  · rw [List.getElem?_set_ne (fun e : m = x => hne (by rw [e]; exact hx))]
    exact h.free x (hsub x hx)
  · by_cases e : x = m
    · subst e
      exact ⟨_, List.getElem?_set_self (by rw [h.qlen]; exact hx), hl⟩
    · rw [List.getElem?_set_ne (fun z => e z.symm)]
      exact h.full x hx fun z => hxl (hback x z e)
  · rw [List.length_append, h.elen]; rfl
  · by_cases hik : i < k
    · obtain ⟨x, t, h1, h2, h3, h4, h5⟩ := h.at' i hik
      refine ⟨x, t, by rw [List.getElem?_append_left (by rw [h.elen]; exact hik)]; exact h1, h2, fun z => h3 (hsub x z), h4, ?_⟩
      rw [List.getElem?_set_ne (fun z : m = x => h3 (by rw [← z]; exact hm))]
      exact h5
    · have : i = k := by omega
      subst this
      refine ⟨m, s, ?_, hmn, hne, hs, List.getElem?_set_self (by rw [h.qlen]; exact hmn)⟩
      rw [List.getElem?_append_right (by rw [h.elen]; exact Nat.le_refl _), h.elen, Nat.sub_self]; rfl
  · rw [List.map_append, List.nodup_append]
    refine ⟨h.end', by simp, fun a ha c hc => ?_⟩
    obtain ⟨e, he, rfl⟩ := List.mem_map.mp ha
    have hc : c = ((first + m : Nat) : Int) := by simpa using hc
    obtain ⟨x, h1, h2, h3⟩ := h.sub e he
    intro z
    have : x = m := by omega
    exact h3 (this ▸ hm)
  · rcases List.mem_append.mp he with he | he
    · obtain ⟨x, h1, h2, h3⟩ := h.sub e he
      exact ⟨x, h1, h2, fun z => h3 (hsub x z)⟩
    · rw [List.mem_singleton.mp he]
      exact ⟨m, rfl, hmn, hne⟩
structure Circ (p : Int) (first n : Nat) (sp : List Int) (sg : List Nat) (ks : List Ln) (es : List (Int × Int)) : Prop where
  spOk : ∀ x ∈ sp, 0 ≤ x ∧ x < p
  spl : sp.length = n
  sgOk : Signs sg
  sgl : sg.length = n
  ends : lastN sg ≠ headN sg
  half : Half p first n n sp sg [] (ks.map some) es
theorem all_some {α : Type} : ∀ {qs : List (Option α)}, (∀ q ∈ qs, ∃ l, q = some l) → ∃ ks : List α, qs = ks.map some
  | [], _ => ⟨[], rfl⟩
  | q :: qs, h => by
    obtain ⟨l, rfl⟩ := h q List.mem_cons_self
    obtain ⟨ks, rfl⟩ := all_some fun x hx => h x (List.mem_cons_of_mem _ hx)
    exact ⟨l :: ks, rfl⟩
theorem map_erase {α β : Type} (f : α → β) : ∀ (l : List α) (i : Nat), (l.map f).eraseIdx i = (l.eraseIdx i).map f
  | [], i => rfl
  | a :: l, 0 => rfl
  | a :: l, i + 1 => by
    show f a :: (l.map f).eraseIdx i = f a :: (l.eraseIdx i).map f
    rw [map_erase f l i]
/-! ### a planted round -/
theorem Circ.at {p : Int} {n : Nat} {sp : List Int} {sg : List Nat} {ks more : List Ln} {es : List (Int × Int)} (h : Circ p 0 n sp sg ks es) {i : Nat} (hi : i < n) :
    ∃ e, es[i]? = some e ∧ EndOk (ks ++ more).length e ∧ plc (ks ++ more) e = sp.getD i 0 ∧ plc (ks ++ more) (far e) = sp.getD ((i + 1) % n) 0 ∧ cmpy (ks ++ more) e = sg.getD i 0 := by
  obtain ⟨m, s, h1, h2, _, hs, h5⟩ := h.half.at' i hi
  have hk : ks.length = n := by have := h.half.qlen; rwa [List.length_map] at this
  rw [Nat.zero_add] at h1
  have h6 : (ks ++ more)[m]? = some (stepLn n sp sg i s) := by
    rw [List.getElem?_append_left (by omega)]
    rw [List.getElem?_map] at h5
    obtain ⟨l, e1, e2⟩ := Option.map_eq_some_iff.mp h5
    cases e2
    exact e1
  refine ⟨_, h1, ⟨by simp, by simp; omega, by simp only; omega, by simp only; omega⟩, ?_, ?_, ?_⟩
  · unfold plc
    simp only [Int.toNat_natCast, h6]
    rcases hs with rfl | rfl <;> simp [sideOf, stepLn]
  · unfold plc far
    simp only [Int.toNat_natCast, h6]
    rcases hs with rfl | rfl <;> simp [sideOf, stepLn]
  · unfold cmpy
    simp only [Int.toNat_natCast, h6]
    rcases hs with rfl | rfl <;> simp [stepLn]
end Sp
end Lw

set_option maxHeartbeats 4000000
namespace Lw
open PySem Fu
local macro_rules | `(tactic| walk_at "e1") => `(tactic| first
  | with_reducible refine eo_seq ?_ | (with_reducible refine then_nx' ?_; refine ⟨?_, ?_, ?_⟩; rotate_left; · (try dsimp only [List.set, List.length_cons, List.length_nil, List.cons_append, List.nil_append, Nat.zero_add, Nat.reduceAdd]); exact rfl) | with_reducible refine then_rt ?_ | with_reducible refine eo_if ?_ | with_reducible refine eo_ret ?_ | with_reducible refine eo_set ?_ | with_reducible refine eo_asg ?_ | with_reducible refine eo_drop ?_ | with_reducible refine eo_nx ?_ | with_reducible refine eo_par ?_ | with_reducible refine eo_own ?_ | with_reducible refine eo_retN ?_ | with_reducible refine eo_for ?_ | with_reducible refine eo_retO ?_
  | with_reducible refine ev_c ?_ | (with_reducible refine ev_var ?_; refine ⟨_, rfl, ?_⟩) | with_reducible refine ev_bin ?_ | with_reducible refine ev_un ?_ | with_reducible refine ev_nil ?_ | with_reducible refine ev_cons ?_
  | with_reducible refine ev_tup ?_ | with_reducible refine ev_lst ?_ | with_reducible refine ev_call ?_ | with_reducible refine ev_callF ?_ | with_reducible refine ev_isi ?_ | with_reducible refine ev_isi2 ?_ | with_reducible refine ev_andV ?_ | with_reducible refine ev_orV ?_ | with_reducible refine ev_notV ?_
  | with_reducible refine ev_B ?_ | with_reducible refine ev_and ?_ | with_reducible refine ev_or ?_ | with_reducible refine ev_not ?_ | with_reducible refine ev_yes ?_ | with_reducible refine ev_if ?_ | with_reducible refine ev_no ?_ | with_reducible refine ev_so ?_ | with_reducible refine ev_sl ?_ | with_reducible refine ev_items ?_
  | (with_reducible refine ev_ixO ?_; refine ⟨_, _, rfl, rfl, ?_⟩) | (with_reducible refine ev_varO ?_; refine ⟨_, _, rfl, rfl, ?_⟩) | (with_reducible refine ev_lenO ?_; refine ⟨_, _, rfl, rfl, ?_⟩) | (with_reducible refine ev_scrSl ?_; refine ⟨_, rfl, ?_⟩) | (with_reducible refine ev_scrLen ?_; refine ⟨_, rfl, ?_⟩) | (with_reducible refine ev_callScr ?_; refine ⟨_, rfl, ?_⟩) | (with_reducible refine ev_OL ?_; refine ⟨_, _, rfl, rfl, ?_⟩) | with_reducible refine ev_OR ?_ | with_reducible refine ev_rep ?_ | with_reducible refine ev_listRng1 ?_ | with_reducible refine eo_setO ?_
  | with_reducible refine es_name ?_ | with_reducible refine es_tup2 ?_ | with_reducible refine es_tup3 ?_
  | with_reducible refine ed_addI ?_ | with_reducible refine ed_subI ?_ | with_reducible refine ed_cmp ?_ | with_reducible refine ed_eqI ?_ | with_reducible refine ed_neI ?_ | with_reducible refine ed_slT ?_ | with_reducible refine ed_slL ?_ | with_reducible refine ed_lenT ?_ | with_reducible refine ed_lenL ?_ | with_reducible refine ed_lenS ?_ | with_reducible refine ed_inS ?_ | with_reducible refine ed_itT ?_ | with_reducible refine ed_itL ?_ | with_reducible refine ed_tupL ?_ | with_reducible refine ed_tupT ?_ | with_reducible refine ed_listL ?_ | with_reducible refine ed_listT ?_ | with_reducible refine ed_neg ?_ | with_reducible refine ed_max ?_ | with_reducible refine ed_min ?_ | with_reducible refine ed_intB ?_
  | with_reducible refine ev_rng1 ?_ | with_reducible refine ev_rng2 ?_)
local macro_rules | `(tactic| walk_at "sd") => `(tactic| first | rfl | assumption | (simp only [decide_eq_true_eq, decide_eq_false_iff_not, Bool.not_eq_true', Bool.not_eq_false', Bool.and_eq_true, Bool.or_eq_true, List.length_map, List.length_cons, List.length_nil, List.length_append, List.length_range] at *; omega))
local macro_rules | `(tactic| walk_at "e2") => `(tactic| first
  | walk_at "e1" | with_reducible refine ⟨_, rfl, ?_⟩ | with_reducible refine ⟨_, _, rfl, ?_⟩
  | with_reducible refine And.intro (Eq.refl (List.length _)) ?_ | with_reducible refine And.intro (Nat.le_of_ble_eq_true (n := List.length _) rfl) ?_
  | with_reducible refine And.intro (Eq.refl (_ : Sx)) (?_ : Ed _ _)
  | ((with_reducible refine And.intro ?_ (And.intro ?_ (?_ : Ev _ _))); (· rfl); (· rfl))
  | ((with_reducible refine ed_ixT ?_ ?_ ?_); (· decide); (· rfl)) | ((with_reducible refine ed_ixL ?_ ?_ ?_); (· decide); (· rfl)) | ((with_reducible refine ed_at ?_ ?_ ?_); (· decide); (· rfl))
  | ((with_reducible refine ed_modI ?_ ?_); (· first | decide | omega))
  | with_reducible exact gives_nx | ((with_reducible refine gives_rt ?_); (· rfl)) | ((with_reducible refine And.intro ?_ ?_); (· exact rfl); (· with_reducible exact Eq.refl (_ : Sx))))
local macro_rules | `(tactic| walk_at "e") => `(tactic| repeat walk_at "e2")
/-- begin a def's spec -/
local macro_rules | `(tactic| walk_at "i") => `(tactic| simp only [initS, List.map_cons, List.map_nil, List.length_cons, List.length_nil, Nat.reduceAdd, Nat.reduceSub, List.replicate, List.cons_append, List.nil_append])
/-- a known truth decides -/
local macro_rules | `(tactic| walk_at "t") => `(tactic| first | ((with_reducible refine split_t ?_ ?_); (· walk_at "sd")) | ((with_reducible refine split_t' ?_ ?_); (· walk_at "sd")))
local macro_rules | `(tactic| walk_at "f") => `(tactic| first | ((with_reducible refine split_f ?_ ?_); (· walk_at "sd")) | ((with_reducible refine split_f' ?_ ?_); (· walk_at "sd")))
/-- all that is seen in a look -/
local macro_rules | `(tactic| walk_at "v") => `(tactic| (rw [sealAll_mk (by (simp only [List.set_cons_zero, List.set_cons_succ, List.map_cons, List.map_nil, sealS_none, sealS_dat, sealS_scr, sealS_own, List.getElem?_cons_zero, List.getElem?_cons_succ, sealC_lst]; rfl)) (by (simp only [List.set_cons_zero, List.set_cons_succ, List.map_cons, List.map_nil]; rfl))]))
theorem ev_chain {S : Sx} {f f' : D → D → Option D} {ga gb gc : M D} {Q : D → Sx → Prop} (h : Ev (ga S) fun x S1 => Ev (gb S1) fun y S2 => Ed (f x y) fun b => ∃ c, b = .bool c ∧ (c = true → Ev (gc S2) fun z S3 => Ed (f' y z) fun r => Q r S3) ∧ (c = false → Q (.bool false) S2)) : Ev (gChain f f' ga gb gc S) Q := by
  obtain ⟨x, S1, e1, y, S2, e2, b, e3, c, rfl, h1, h2⟩ := h
  cases c with
  | true =>
    obtain ⟨z, S3, e4, r, e5, q⟩ := h1 rfl
    exact ⟨r, S3, by simp only [gChain, e1, e2, e3, e4, e5, Option.bind_some], q⟩
  | false => exact ⟨_, S2, by simp only [gChain, e1, e2, e3, Option.bind_some], h2 rfl⟩
/-! ### the law's own looks -/
theorem x__law_at {w : D} {p : Int} {ls : List Ln} {d : D} {e : Int × Int} (hw : Web w p ls) (s : IsEn d e) (h : EndOk ls.length e) : m__law_at [w, d] = some (.int (plc ls e)) := by
  obtain ⟨L, sw, hL⟩ := hw
  obtain ⟨l, hl, _⟩ := end_line rfl h
  obtain ⟨xs, x, sx, hxl, hx, hln⟩ := line_at hL hl
  unfold m__law_at; refine mF_of ?_; walk_at "i"; unfold g__law_at
  walk_at "e"
  refine ed_ixQ sw (by decide) rfl ?_
  walk_at "e"
  refine ed_ixQ s (by decide) rfl ?_
  walk_at "e"
  refine ed_ixQ sx h.1 hx ?_
  walk_at "e"
  refine ed_ixQ s (by decide) rfl ?_
  walk_at "e"
  have h2 : e.2 = 0 ∨ e.2 = 1 := by have := h.2.2.1; have := h.2.2.2; omega
  unfold plc; rw [hl]
  rcases h2 with h2 | h2 <;> rw [h2] <;> exact ed_ixQ hln (by decide) rfl rfl
theorem x__law_other {d : D} {e : Int × Int} (s : IsEn d e) : m__law_other [d] = some (en (far e)) := by
  unfold m__law_other; refine mF_of ?_; walk_at "i"; unfold g__law_other
  walk_at "e"
  refine ed_ixQ s (by decide) rfl ?_
  walk_at "e"
  refine ed_ixQ s (by decide) rfl ?_
  walk_at "e"
theorem x__law_goes {w : D} {p : Int} {ls : List Ln} {a b : D} {e f : Int × Int} (hw : Web w p ls) (h : WbOk p ls) (sa : IsEn a e) (sb : IsEn b f) (he : EndOk ls.length e) (hf : EndOk ls.length f) : m__law_goes [w, a, b] = some (.bool (goesB ls e f)) := by
  obtain ⟨L, sw, hL⟩ := id hw
  obtain ⟨l, hl, _⟩ := end_line rfl he
  obtain ⟨xs, x, sx, hxl, hx, hln⟩ := line_at hL hl
  obtain ⟨l2, hl2, _⟩ := end_line rfl hf
  obtain ⟨xs2, x2, sx2, hxl2, hx2, hln2⟩ := line_at hL hl2
  unfold m__law_goes; refine mF_of ?_; walk_at "i"; unfold g__law_goes goesB
  walk_at "e"
  refine Ed.of (x__law_other sa) ?_
  walk_at "e"
  refine Ed.of (x__law_at hw (isEn_en _) he.far) ?_
  walk_at "e"
  refine Ed.of (x__law_at hw sb hf) ?_
  walk_at "e"
  refine ⟨fun ht => ?_, fun ht => ?_⟩
  · walk_at "e"
    simp only [Bool.not_eq_true', decide_eq_false_iff_not] at ht
    simp [ht]
  · walk_at "e"
    refine ed_ixQ sw (by decide) rfl ?_
    walk_at "e"
    refine ed_ixQ sa (by decide) rfl ?_
    walk_at "e"
    refine ed_ixQ sx he.1 hx ?_
    walk_at "e"
    refine ed_ixQ hln (by decide) rfl ?_
    walk_at "e"
    refine ed_ixQ sw (by decide) rfl ?_
    walk_at "e"
    refine ed_ixQ sb (by decide) rfl ?_
    walk_at "e"
    refine ed_ixQ sx2 hf.1 hx2 ?_
    walk_at "e"
    refine ed_ixQ hln2 (by decide) rfl ?_
    have e1 : cmpy ls e = l.2.2 := by unfold cmpy; rw [hl]
    have e2 : cmpy ls f = l2.2.2 := by unfold cmpy; rw [hl2]
    refine Ed.of (dNe_ch (by rw [← e1]; exact cmpy_ok h he) (by rw [← e2]; exact cmpy_ok h hf)) ?_
    simp only [Bool.not_eq_false', decide_eq_true_eq] at ht
    rw [gives_rtI, e1, e2]
    simp [ht]
/-- a list that is empty or not -/
theorem ed_ne_nil {n : Nat} {xs : List D} {Q : D → Prop} (h : ∀ x ∈ xs, Fine n x) (q : Q (.bool !decide (xs = []))) (hn : n ≤ 60 := by decide) : Ed (dNe (.list xs) (.list [])) Q := by
  refine ⟨_, ?_, q⟩
  unfold dNe
  rw [if_pos ⟨(fine_list h).shaped (by omega), (fine_list (n := 0) (ds := []) (fun _ h => nomatch h)).shaped⟩]
  cases xs <;> simp [PyData.eqv, PyData.eqvAll]
theorem ed_eq_nil {n : Nat} {xs : List D} {Q : D → Prop} (h : ∀ x ∈ xs, Fine n x) (q : Q (.bool (decide (xs = [])))) (hn : n ≤ 60 := by decide) : Ed (dEq (.list xs) (.list [])) Q := by
  refine ⟨_, ?_, q⟩
  unfold dEq
  rw [if_pos ⟨(fine_list h).shaped (by omega), (fine_list (n := 0) (ds := []) (fun _ h => nomatch h)).shaped⟩]
  cases xs <;> simp [PyData.eqv, PyData.eqvAll]
theorem fine_mem {n : Nat} {d : D} {xs : List D} (s : Sq d xs) (h : Fine n d) : ∀ x ∈ xs, Fine n x := by
  intro x hx
  have hc : PyData.canLayAll0 xs = true := by
    have := h.1
    rcases s with rfl | rfl <;> simpa [PyData.canLay0] using this
  refine ⟨?_, by have := depth_mem hx; have := depth_sq s; have := h.2; omega⟩
  clear s h
  induction xs with
  | nil => cases hx
  | cons y ys ih =>
    have c : y.canLay0 = true ∧ PyData.canLayAll0 ys = true := by simpa [PyData.canLayAll0] using hc
    rcases List.mem_cons.mp hx with rfl | hx
    · exact c.1
    · exact ih hx c.2
theorem x__law_is_end {w : D} {p : Int} {ls : List Ln} (hw : Web w p ls) (d : D) (hf : Fine 50 d) : m__law_is_end_k15 [w, d] = some (.bool (endD ls.length d)) := by
  obtain ⟨L, sw, hL⟩ := hw
  obtain ⟨ys, sy, hl⟩ := lns_len hL
  unfold m__law_is_end_k15; refine mF_of ?_; walk_at "i"; unfold g__law_is_end_k15
  walk_at "e"
  rw [isi_seq]
  refine ⟨fun h1 => ?_, fun h1 => ?_⟩
  rotate_left
  · walk_at "t"
    walk_at "e"
    have h1 : seqOf d = none := by simpa using h1
    unfold endD; rw [h1]
    simp
  obtain ⟨xs, hx⟩ := Option.isSome_iff_exists.mp (show (seqOf d).isSome = true by simpa using h1)
  have s := sq_of hx
  walk_at "e"
  refine ed_lenQ s ?_
  walk_at "e"
  refine ⟨fun hn => ?_, fun hn => ?_⟩
  · walk_at "e"
    unfold endD; rw [hx]
    simp only [Bool.not_eq_true', decide_eq_false_iff_not] at hn
    rw [gives_rtI]
    split
    · rename_i e; cases e; simp at hn
    · rfl
  simp only [Bool.not_eq_false', decide_eq_true_eq] at hn
  obtain ⟨a, b, rfl⟩ : ∃ a b, xs = [a, b] := by
    match xs, hn with
    | [a, b], _ => exact ⟨a, b, rfl⟩
  walk_at "e"
  refine ev_lcX (xs := [a, b]) (enc := fun z => z) (b := fun z => isT "bool" z || !isT "int" z) (g := fun z => z) ?_
  walk_at "e"
  refine ed_itQ s ⟨rfl, fun z hz => ?_, ?_⟩
  · walk_at "e"
    refine ⟨fun hb => ?_, fun hb => ?_⟩
    · walk_at "e"
      rw [hb]
      refine ⟨rfl, rfl, fun _ => ?_⟩
      walk_at "e"
    · rw [hb]
      refine ⟨rfl, rfl, fun _ => ?_⟩
      walk_at "e"
  rw [List.map_id']
  walk_at "e"
  refine ed_ne_nil (n := 50) (fun x hx => fine_mem s hf x (List.mem_filter.mp hx).1) ?_
  walk_at "e"
  have key : (∃ i j, a = .int i ∧ b = .int j) ∨ (([a, b].filter fun z => isT "bool" z || !isT "int" z) ≠ [] ∧ endD ls.length d = false) := by
    unfold endD; rw [hx]
    cases a <;> cases b <;> first | exact .inl ⟨_, _, rfl, rfl⟩ | exact .inr ⟨by simp [isT, dTy], rfl⟩
  rcases key with ⟨i, j, rfl, rfl⟩ | ⟨h2, h3⟩
  rotate_left
  · refine split_t (by simp only [Bool.not_eq_true', decide_eq_false_iff_not]; exact h2) ?_
    walk_at "e"
    rw [gives_rtI, h3]
  refine split_f (by simp [isT, dTy]) ?_
  have e1 : endD ls.length d = decide (EndOk ls.length (i, j)) := endD_of s
  rw [e1]
  walk_at "e"
  refine ev_chain ?_
  walk_at "e"
  refine ed_ixQ s (by decide) rfl ?_
  refine Ed.of rfl ?_
  refine ⟨_, rfl, fun h2 => ?_, fun h2 => ?_⟩
  · walk_at "e"
    refine ed_ixQ sw (by decide) rfl ?_
    walk_at "e"
    refine ed_lenQ sy ?_
    refine Ed.of rfl ?_
    refine ⟨_, rfl, fun h3 => ?_, fun h3 => ?_⟩
    · refine ev_chain ?_
      walk_at "e"
      refine ed_ixQ s (by decide) rfl ?_
      refine Ed.of rfl ?_
      refine ⟨_, rfl, fun h4 => ?_, fun h4 => ?_⟩
      · walk_at "e"
        rw [gives_rtI]
        simp only [decide_eq_true_eq] at h2 h3 h4
        congr 1
        apply decide_eq_decide.mpr
        unfold EndOk
        simp only
        omega
      · walk_at "e"
        rw [gives_rtI]
        simp only [decide_eq_true_eq, decide_eq_false_iff_not] at h2 h3 h4
        rw [decide_eq_false]
        unfold EndOk
        simp only
        omega
    · walk_at "e"
      rw [gives_rtI]
      simp only [decide_eq_true_eq, decide_eq_false_iff_not] at h2 h3
      rw [decide_eq_false]
      unfold EndOk
      simp only
      omega
  · walk_at "e"
    refine ⟨fun h => (nomatch h), fun _ => ?_⟩
    rw [gives_rtI]
    simp only [decide_eq_false_iff_not] at h2
    rw [decide_eq_false]
    unfold EndOk
    simp only
    omega
end Lw

set_option maxHeartbeats 4000000
namespace Lw
open PySem Fu
local macro_rules | `(tactic| walk_at "e1") => `(tactic| first
  | with_reducible refine eo_seq ?_ | (with_reducible refine then_nx' ?_; refine ⟨?_, ?_, ?_⟩; rotate_left; · (try dsimp only [List.set, List.length_cons, List.length_nil, List.cons_append, List.nil_append, Nat.zero_add, Nat.reduceAdd]); exact rfl) | with_reducible refine then_rt ?_ | with_reducible refine eo_if ?_ | with_reducible refine eo_ret ?_ | with_reducible refine eo_set ?_ | with_reducible refine eo_asg ?_ | with_reducible refine eo_drop ?_ | with_reducible refine eo_nx ?_ | with_reducible refine eo_par ?_ | with_reducible refine eo_own ?_ | with_reducible refine eo_retN ?_ | with_reducible refine eo_for ?_ | with_reducible refine eo_retO ?_
  | with_reducible refine ev_c ?_ | (with_reducible refine ev_var ?_; refine ⟨_, rfl, ?_⟩) | with_reducible refine ev_bin ?_ | with_reducible refine ev_un ?_ | with_reducible refine ev_nil ?_ | with_reducible refine ev_cons ?_
  | with_reducible refine ev_tup ?_ | with_reducible refine ev_lst ?_ | with_reducible refine ev_call ?_ | with_reducible refine ev_callF ?_ | with_reducible refine ev_isi ?_ | with_reducible refine ev_isi2 ?_ | with_reducible refine ev_andV ?_ | with_reducible refine ev_orV ?_ | with_reducible refine ev_notV ?_
  | with_reducible refine ev_B ?_ | with_reducible refine ev_and ?_ | with_reducible refine ev_or ?_ | with_reducible refine ev_not ?_ | with_reducible refine ev_yes ?_ | with_reducible refine ev_if ?_ | with_reducible refine ev_no ?_ | with_reducible refine ev_so ?_ | with_reducible refine ev_sl ?_ | with_reducible refine ev_items ?_
  | (with_reducible refine ev_ixO ?_; refine ⟨_, _, rfl, rfl, ?_⟩) | (with_reducible refine ev_varO ?_; refine ⟨_, _, rfl, rfl, ?_⟩) | (with_reducible refine ev_lenO ?_; refine ⟨_, _, rfl, rfl, ?_⟩) | (with_reducible refine ev_scrSl ?_; refine ⟨_, rfl, ?_⟩) | (with_reducible refine ev_scrLen ?_; refine ⟨_, rfl, ?_⟩) | (with_reducible refine ev_callScr ?_; refine ⟨_, rfl, ?_⟩) | (with_reducible refine ev_OL ?_; refine ⟨_, _, rfl, rfl, ?_⟩) | with_reducible refine ev_OR ?_ | with_reducible refine ev_rep ?_ | with_reducible refine ev_listRng1 ?_ | with_reducible refine eo_setO ?_
  | with_reducible refine es_name ?_ | with_reducible refine es_tup2 ?_ | with_reducible refine es_tup3 ?_
  | with_reducible refine ed_addI ?_ | with_reducible refine ed_subI ?_ | with_reducible refine ed_cmp ?_ | with_reducible refine ed_eqI ?_ | with_reducible refine ed_neI ?_ | with_reducible refine ed_slT ?_ | with_reducible refine ed_slL ?_ | with_reducible refine ed_lenT ?_ | with_reducible refine ed_lenL ?_ | with_reducible refine ed_lenS ?_ | with_reducible refine ed_inS ?_ | with_reducible refine ed_itT ?_ | with_reducible refine ed_itL ?_ | with_reducible refine ed_tupL ?_ | with_reducible refine ed_tupT ?_ | with_reducible refine ed_listL ?_ | with_reducible refine ed_listT ?_ | with_reducible refine ed_neg ?_ | with_reducible refine ed_max ?_ | with_reducible refine ed_min ?_ | with_reducible refine ed_intB ?_
  | with_reducible refine ev_rng1 ?_ | with_reducible refine ev_rng2 ?_)
local macro_rules | `(tactic| walk_at "sd") => `(tactic| first | rfl | assumption | (simp only [decide_eq_true_eq, decide_eq_false_iff_not, Bool.not_eq_true', Bool.not_eq_false', Bool.and_eq_true, Bool.or_eq_true, List.length_map, List.length_cons, List.length_nil, List.length_append, List.length_range] at *; omega))
local macro_rules | `(tactic| walk_at "e2") => `(tactic| first
  | walk_at "e1" | with_reducible refine ⟨_, rfl, ?_⟩ | with_reducible refine ⟨_, _, rfl, ?_⟩
  | with_reducible refine And.intro (Eq.refl (List.length _)) ?_ | with_reducible refine And.intro (Nat.le_of_ble_eq_true (n := List.length _) rfl) ?_
  | with_reducible refine And.intro (Eq.refl (_ : Sx)) (?_ : Ed _ _)
  | ((with_reducible refine And.intro ?_ (And.intro ?_ (?_ : Ev _ _))); (· rfl); (· rfl))
  | ((with_reducible refine ed_ixT ?_ ?_ ?_); (· decide); (· rfl)) | ((with_reducible refine ed_ixL ?_ ?_ ?_); (· decide); (· rfl)) | ((with_reducible refine ed_at ?_ ?_ ?_); (· decide); (· rfl))
  | ((with_reducible refine ed_modI ?_ ?_); (· first | decide | omega))
  | with_reducible exact gives_nx | ((with_reducible refine gives_rt ?_); (· rfl)) | ((with_reducible refine And.intro ?_ ?_); (· exact rfl); (· with_reducible exact Eq.refl (_ : Sx))))
local macro_rules | `(tactic| walk_at "e") => `(tactic| repeat walk_at "e2")
/-- begin a def's spec -/
local macro_rules | `(tactic| walk_at "i") => `(tactic| simp only [initS, List.map_cons, List.map_nil, List.length_cons, List.length_nil, Nat.reduceAdd, Nat.reduceSub, List.replicate, List.cons_append, List.nil_append])
/-- a known truth decides -/
local macro_rules | `(tactic| walk_at "t") => `(tactic| first | ((with_reducible refine split_t ?_ ?_); (· walk_at "sd")) | ((with_reducible refine split_t' ?_ ?_); (· walk_at "sd")))
local macro_rules | `(tactic| walk_at "f") => `(tactic| first | ((with_reducible refine split_f ?_ ?_); (· walk_at "sd")) | ((with_reducible refine split_f' ?_ ?_); (· walk_at "sd")))
/-- all that is seen in a look -/
local macro_rules | `(tactic| walk_at "v") => `(tactic| (rw [sealAll_mk (by (simp only [List.set_cons_zero, List.set_cons_succ, List.map_cons, List.map_nil, sealS_none, sealS_dat, sealS_scr, sealS_own, List.getElem?_cons_zero, List.getElem?_cons_succ, sealC_lst]; rfl)) (by (simp only [List.set_cons_zero, List.set_cons_succ, List.map_cons, List.map_nil]; rfl))]))
namespace Sp
theorem ev_drawR {sl : List (Option R)} {os : List (Option Cell)} {i : Nat} {g : M (List D)} {Q : D → Sx → Prop}
    (h : ∃ j, sl[i]? = some (some (.own j)) ∧ Ev (g ⟨sl, os⟩) fun ds S1 => ∃ cs many c, S1.os[j]? = some (some (.lst cs)) ∧ ds = [.int many] ∧ Reel c cs ∧ 1 ≤ c ∧ 0 < many ∧ many ≤ 18446744073709551616 ∧ ∀ v cs', 0 ≤ v → v < many → Reel (c - 1) cs' → Q (.int v) ⟨S1.sl, S1.os.set j (some (.lst cs'))⟩) : Ev (gIO i 1 m__law_draw_k15 g ⟨sl, os⟩) Q := by
  obtain ⟨j, hi, h⟩ := h
  refine ev_IO ⟨j, hi, h.mono ?_⟩
  rintro ds S1 ⟨cs, many, c, hc, rfl, hR, c1, m0, m1, h⟩
  obtain ⟨d, cs', e, v, rfl, v0, v1, hR'⟩ := x_draw (b := c - 1) (hR.mono (by omega)) m0 m1
  exact ⟨cs, hc, rfl, _, cs', e, h v cs' v0 v1 hR'⟩
end Sp
theorem canLay_ints (ns : List Int) : PyData.canLayAll0 (ns.map PyData.int) = true := by
  induction ns with
  | nil => rfl
  | cons n ns ih => simp [PyData.canLayAll0, PyData.canLay0, ih]
theorem ed_countI {ns : List Int} {i : Int} {Q : D → Prop} (h : Q (.int (ns.count i : Nat))) : Ed (dCount (.list (ns.map PyData.int)) (.int i)) Q := by
  refine ⟨_, ?_, h⟩
  simp only [dCount]
  rw [if_pos ⟨canLay_ints ns, (fine_int i).1, by simp [PyData.depth]⟩, List.countP_map, List.count]
  have : (List.countP ((fun y => PyData.eqv y (.int i)) ∘ PyData.int) ns) = List.countP (fun x => x == i) ns := List.countP_congr fun x _ => by simp [PyData.eqv, Function.comp]
  rw [this]
theorem filter_nodup {ns : List Int} : (ns.filter fun i => decide ((1 : Int) < (ns.count i : Nat))) = [] ↔ ns.Nodup := by
  rw [List.filter_eq_nil_iff, List.nodup_iff_count]
  constructor
  · intro h a
    by_cases m : a ∈ ns
    · have := h a m
      simp at this; omega
    · rw [List.count_eq_zero_of_not_mem m]; omega
  · intro h a _
    have := h a
    simp; omega
theorem fine_en {d : D} {e : Int × Int} (s : IsEn d e) : Fine 1 d := by
  rcases s with rfl | rfl
  · exact fine_list (n := 0) fun x hx => by
      simp only [List.mem_cons, List.not_mem_nil, or_false] at hx
      rcases hx with rfl | rfl <;> exact fine_int _
  · exact fine_tup (n := 0) fun x hx => by
      simp only [List.mem_cons, List.not_mem_nil, or_false] at hx
      rcases hx with rfl | rfl <;> exact fine_int _
theorem filter_none {α : Type} {xs : List α} {f : α → Bool} : (xs.filter fun x => !f x) = [] ↔ xs.all f = true := by
  rw [List.filter_eq_nil_iff, List.all_eq_true]
  simp
theorem goes_idx (ls : List Ln) (es : List (Int × Int)) : ((es.zip es.tail).all fun p => goesB ls p.1 p.2) = true ↔ ∀ k, k < es.length - 1 → goesB ls (es.getD k (0, 0)) (es.getD (k + 1) (0, 0)) = true := by
  rw [List.all_eq_true]
  constructor
  · intro h k hk
    have g1 : es[k]? = some es[k] := List.getElem?_eq_getElem (by omega)
    have g2 : es[k + 1]? = some es[k + 1] := List.getElem?_eq_getElem (by omega)
    rw [List.getD_eq_getElem?_getD, List.getD_eq_getElem?_getD, g1, g2]
    refine h (es[k], es[k + 1]) (List.mem_iff_getElem?.mpr ⟨k, ?_⟩)
    rw [List.getElem?_zip_eq_some]
    exact ⟨g1, by rw [List.getElem?_tail, g2]⟩
  · rintro h ⟨a, b⟩ hm
    obtain ⟨k, hk⟩ := List.mem_iff_getElem?.mp hm
    rw [List.getElem?_zip_eq_some, List.getElem?_tail] at hk
    obtain ⟨g1, g2⟩ := hk
    have l2 := (List.getElem?_eq_some_iff.mp g2).1
    have := h k (by omega)
    rw [List.getD_eq_getElem?_getD, List.getD_eq_getElem?_getD, g1, g2] at this
    exact this
theorem x__law_is_ride {w : D} {p : Int} {ls : List Ln} (hw : Web w p ls) (h : WbOk p ls) {d : D} {es : List (Int × Int)} (hd : IsRide d es) (hz : es.length ≤ 4000000) : m__law_is_ride [w, d] = some (.bool (rideB ls es)) := by
  obtain ⟨ps, s, rfl, hp⟩ := hd
  have hz : ps.length ≤ 4000000 := by simpa using hz
  unfold m__law_is_ride; refine mF_of ?_; walk_at "i"; unfold g__law_is_ride
  walk_at "e"
  rw [isi_seq, s.of]
  refine ⟨fun _ => ?_, fun h => (nomatch h)⟩
  walk_at "e"
  refine ed_lenQ s ?_
  walk_at "e"
  refine ⟨fun hn => ?_, fun hn => ?_⟩
  · walk_at "e"
    have : ps = [] := by
      have := of_decide_eq_true hn
      exact List.length_eq_zero_iff.mp (by simpa using this)
    rw [gives_rtI, this]; rfl
  have hnn : ps.map (·.2) ≠ [] := by
    intro z
    have : ps = [] := List.map_eq_nil_iff.mp z
    rw [this] at hn; simp at hn
  walk_at "e"
  refine ev_lcX (xs := ps) (enc := (·.1)) (b := fun q => !decide (EndOk ls.length q.2)) (g := (·.1)) ?_
  walk_at "e"
  refine ed_itQ s ⟨rfl, fun q hq => ?_, ?_⟩
  · walk_at "e"
    refine Ed.of (x__law_is_end hw q.1 ((fine_en (hp q hq)).mono (by decide))) ?_
    rw [endD_of (hp q hq)]
    walk_at "e"
    refine ⟨rfl, rfl, fun _ => ?_⟩
    walk_at "e"
  walk_at "e"
  refine ed_ne_nil (n := 1) (fun x hx => ?_) ?_
  · obtain ⟨q, hq, rfl⟩ := List.mem_map.mp hx
    exact fine_en (hp q (List.mem_filter.mp hq).1)
  walk_at "e"
  have e1 : (ps.filter fun q => !decide (EndOk ls.length q.2)) = [] ↔ (ps.map (·.2)).all (fun e => decide (EndOk ls.length e)) = true := by
    rw [filter_none (f := fun q : D × (Int × Int) => decide (EndOk ls.length q.2)), List.all_map]; rfl
  refine ⟨fun h1 => ?_, fun h1 => ?_⟩
  · walk_at "e"
    rw [gives_rtI]
    unfold rideB
    have : ¬ ((ps.map (·.2)).all (fun e => decide (EndOk ls.length e)) = true) := by
      rw [← e1]
      simpa using h1
    rw [Bool.not_eq_true] at this
    rw [this]; simp
  have hall : (ps.map (·.2)).all (fun e => decide (EndOk ls.length e)) = true := by
    rw [← e1]
    simpa using h1
  unfold rideB
  rw [decide_eq_true hnn, hall, Bool.true_and, Bool.true_and]
  walk_at "e"
  refine ev_mapX (xs := ps) (enc := (·.1)) (g := fun q => .int q.2.1) ?_
  walk_at "e"
  refine ed_itQ s ⟨rfl, fun q hq => ?_, ?_⟩
  · walk_at "e"
    refine ed_ixQ (hp q hq) (by decide) rfl ⟨rfl, rfl⟩
  have e2 : ps.map (fun q => PyData.int q.2.1) = ((ps.map (·.2)).map Prod.fst).map PyData.int := by rw [List.map_map, List.map_map]; rfl
  rw [e2]
  walk_at "e"
  refine ev_lcX (xs := (ps.map (·.2)).map Prod.fst) (enc := PyData.int) (b := fun i => decide ((1 : Int) < (((ps.map (·.2)).map Prod.fst).count i : Nat))) (g := PyData.int) ?_
  walk_at "e"
  refine ⟨rfl, fun i hi => ?_, ?_⟩
  · walk_at "e"
    refine ed_countI ?_
    walk_at "e"
    refine ⟨rfl, rfl, fun _ => ?_⟩
    walk_at "e"
  walk_at "e"
  refine ed_ne_nil (n := 0) (fun x hx => ?_) ?_
  · obtain ⟨q, hq, rfl⟩ := List.mem_map.mp hx
    exact fine_int _
  walk_at "e"
  refine ⟨fun h2 => ?_, fun h2 => ?_⟩
  · walk_at "e"
    have : ¬ ((ps.map (·.2)).map Prod.fst).Nodup := by
      rw [← filter_nodup]
      simpa using h2
    rw [gives_rtI, decide_eq_false this]; rfl
  have hnd : ((ps.map (·.2)).map Prod.fst).Nodup := by
    rw [← filter_nodup]
    simpa using h2
  rw [decide_eq_true hnd, Bool.true_and]
  have goesAll : (ps.zip ps.tail).all (fun z => goesB ls z.1.2 z.2.2) = ((ps.map (·.2)).zip (ps.map (·.2)).tail).all fun p => goesB ls p.1 p.2 := by
    rw [← List.map_tail, List.zip_map, List.all_map]; rfl
  have plen : 1 ≤ ps.length := by
    cases ps with
    | nil => exact absurd rfl hnn
    | cons => simp
  walk_at "e"
  refine ev_lcX (xs := List.range (ps.length - 1)) (enc := fun k : Nat => .int (1 + (k : Int))) (b := fun k => !goesB ls ((ps.map (·.2)).getD k (0, 0)) ((ps.map (·.2)).getD (k + 1) (0, 0))) (g := fun k : Nat => .int (1 + (k : Int))) ?_
  walk_at "e"
  refine ed_lenQ s ?_
  walk_at "e"
  refine ⟨by decide, by decide, by omega, by simp; omega, by simp; omega, ?_, fun k hk => ?_, ?_⟩
  · rw [rng_map]; congr 2; simp
  · have hk : k < ps.length - 1 := List.mem_range.mp hk
    have g1 : ps[k]? = some ps[k] := List.getElem?_eq_getElem (by omega)
    have g2 : ps[k + 1]? = some ps[k + 1] := List.getElem?_eq_getElem (by omega)
    have m1 : ps[k] ∈ ps := List.getElem_mem _
    have m2 : ps[k + 1] ∈ ps := List.getElem_mem _
    have all2 : ∀ q ∈ ps, EndOk ls.length q.2 := fun q hq => by
      have := List.all_eq_true.mp hall q.2 (List.mem_map_of_mem (f := (·.2)) hq)
      simpa using this
    walk_at "e"
    refine ed_ixQ s (x := ps[k].1) (by omega) (by rw [show (1 + (k : Int) - 1).toNat = k by omega, List.getElem?_map, g1]; rfl) ?_
    walk_at "e"
    refine ed_ixQ s (x := ps[k + 1].1) (by omega) (by rw [show (1 + (k : Int)).toNat = k + 1 by omega, List.getElem?_map, g2]; rfl) ?_
    walk_at "e"
    refine Ed.of (x__law_goes hw h (hp _ m1) (hp _ m2) (all2 _ m1) (all2 _ m2)) ?_
    walk_at "e"
    refine ⟨rfl, ?_, fun _ => ?_⟩
    · rw [List.getD_eq_getElem?_getD, List.getD_eq_getElem?_getD, List.getElem?_map, List.getElem?_map, g1, g2]; rfl
    walk_at "e"
  walk_at "e"
  refine ed_eq_nil (n := 0) (fun x hx => ?_) ?_
  · obtain ⟨q, hq, rfl⟩ := List.mem_map.mp hx
    exact fine_int _
  rw [gives_rtI]
  congr 1
  rw [Bool.eq_iff_iff, decide_eq_true_eq, goes_idx, List.map_eq_nil_iff, filter_none (f := fun k => goesB ls ((ps.map (·.2)).getD k (0, 0)) ((ps.map (·.2)).getD (k + 1) (0, 0)))]
  simp only [List.all_eq_true, List.mem_range, List.length_map]
theorem x__law_is_round {w : D} {p : Int} {ls : List Ln} (hw : Web w p ls) (h : WbOk p ls) {d : D} {es : List (Int × Int)} (hd : IsRide d es) (hz : es.length ≤ 4000000) : m__law_is_round [w, d] = some (.bool (roundB ls es)) := by
  unfold m__law_is_round; refine mF_of ?_; walk_at "i"; unfold g__law_is_round
  walk_at "e"
  refine Ed.of (x__law_is_ride hw h hd hz) ?_
  walk_at "e"
  refine ⟨fun hr => ?_, fun hr => by unfold roundB; rw [hr]; rfl⟩
  obtain ⟨ps, s, rfl, hp⟩ := hd
  obtain ⟨hn, hall, _, _⟩ := rideB_ends hr
  have hn : ps ≠ [] := fun z => hn (by rw [z]; rfl)
  obtain ⟨a, ha, la, la2⟩ := last_map hn
  obtain ⟨b, hb, lb, lb2⟩ := head_map hn
  walk_at "e"
  refine ed_lastQ s la ?_
  walk_at "e"
  refine ed_ixQ s (by decide) lb ?_
  walk_at "e"
  refine Ed.of (x__law_goes hw h (hp _ ha) (hp _ hb) (hall _ (List.mem_map_of_mem ha)) (hall _ (List.mem_map_of_mem hb))) ?_
  walk_at "e"
  rw [gives_rtI]
  unfold roundB
  rw [hr, la2, lb2]; rfl
end Lw

set_option maxHeartbeats 4000000
namespace Lw
open PySem Fu
local macro_rules | `(tactic| walk_at "e1") => `(tactic| first
  | with_reducible refine eo_seq ?_ | (with_reducible refine then_nx' ?_; refine ⟨?_, ?_, ?_⟩; rotate_left; · (try dsimp only [List.set, List.length_cons, List.length_nil, List.cons_append, List.nil_append, Nat.zero_add, Nat.reduceAdd]); exact rfl) | with_reducible refine then_rt ?_ | with_reducible refine eo_if ?_ | with_reducible refine eo_ret ?_ | with_reducible refine eo_set ?_ | with_reducible refine eo_asg ?_ | with_reducible refine eo_drop ?_ | with_reducible refine eo_nx ?_ | with_reducible refine eo_par ?_ | with_reducible refine eo_own ?_ | with_reducible refine eo_retN ?_ | with_reducible refine eo_for ?_ | with_reducible refine eo_retO ?_
  | with_reducible refine ev_c ?_ | (with_reducible refine ev_var ?_; refine ⟨_, rfl, ?_⟩) | with_reducible refine ev_bin ?_ | with_reducible refine ev_un ?_ | with_reducible refine ev_nil ?_ | with_reducible refine ev_cons ?_
  | with_reducible refine ev_tup ?_ | with_reducible refine ev_lst ?_ | with_reducible refine ev_call ?_ | with_reducible refine ev_callF ?_ | with_reducible refine ev_isi ?_ | with_reducible refine ev_isi2 ?_ | with_reducible refine ev_andV ?_ | with_reducible refine ev_orV ?_ | with_reducible refine ev_notV ?_
  | with_reducible refine ev_B ?_ | with_reducible refine ev_and ?_ | with_reducible refine ev_or ?_ | with_reducible refine ev_not ?_ | with_reducible refine ev_yes ?_ | with_reducible refine ev_if ?_ | with_reducible refine ev_no ?_ | with_reducible refine ev_so ?_ | with_reducible refine ev_sl ?_ | with_reducible refine ev_items ?_
  | (with_reducible refine ev_ixO ?_; refine ⟨_, _, rfl, rfl, ?_⟩) | (with_reducible refine ev_varO ?_; refine ⟨_, _, rfl, rfl, ?_⟩) | (with_reducible refine ev_lenO ?_; refine ⟨_, _, rfl, rfl, ?_⟩) | (with_reducible refine ev_scrSl ?_; refine ⟨_, rfl, ?_⟩) | (with_reducible refine ev_scrLen ?_; refine ⟨_, rfl, ?_⟩) | (with_reducible refine ev_callScr ?_; refine ⟨_, rfl, ?_⟩) | (with_reducible refine ev_OL ?_; refine ⟨_, _, rfl, rfl, ?_⟩) | with_reducible refine ev_OR ?_ | with_reducible refine ev_rep ?_ | with_reducible refine ev_listRng1 ?_ | with_reducible refine eo_setO ?_
  | with_reducible refine es_name ?_ | with_reducible refine es_tup2 ?_ | with_reducible refine es_tup3 ?_
  | with_reducible refine ed_addI ?_ | with_reducible refine ed_subI ?_ | with_reducible refine ed_cmp ?_ | with_reducible refine ed_eqI ?_ | with_reducible refine ed_neI ?_ | with_reducible refine ed_slT ?_ | with_reducible refine ed_slL ?_ | with_reducible refine ed_lenT ?_ | with_reducible refine ed_lenL ?_ | with_reducible refine ed_lenS ?_ | with_reducible refine ed_inS ?_ | with_reducible refine ed_itT ?_ | with_reducible refine ed_itL ?_ | with_reducible refine ed_tupL ?_ | with_reducible refine ed_tupT ?_ | with_reducible refine ed_listL ?_ | with_reducible refine ed_listT ?_ | with_reducible refine ed_neg ?_ | with_reducible refine ed_max ?_ | with_reducible refine ed_min ?_ | with_reducible refine ed_intB ?_
  | with_reducible refine ev_rng1 ?_ | with_reducible refine ev_rng2 ?_)
local macro_rules | `(tactic| walk_at "sd") => `(tactic| first | rfl | assumption | (simp only [decide_eq_true_eq, decide_eq_false_iff_not, Bool.not_eq_true', Bool.not_eq_false', Bool.and_eq_true, Bool.or_eq_true, List.length_map, List.length_cons, List.length_nil, List.length_append, List.length_range] at *; omega))
local macro_rules | `(tactic| walk_at "e2") => `(tactic| first
  | walk_at "e1" | with_reducible refine ⟨_, rfl, ?_⟩ | with_reducible refine ⟨_, _, rfl, ?_⟩
  | with_reducible refine And.intro (Eq.refl (List.length _)) ?_ | with_reducible refine And.intro (Nat.le_of_ble_eq_true (n := List.length _) rfl) ?_
  | with_reducible refine And.intro (Eq.refl (_ : Sx)) (?_ : Ed _ _)
  | ((with_reducible refine And.intro ?_ (And.intro ?_ (?_ : Ev _ _))); (· rfl); (· rfl))
  | ((with_reducible refine ed_ixT ?_ ?_ ?_); (· decide); (· rfl)) | ((with_reducible refine ed_ixL ?_ ?_ ?_); (· decide); (· rfl)) | ((with_reducible refine ed_at ?_ ?_ ?_); (· decide); (· rfl))
  | ((with_reducible refine ed_modI ?_ ?_); (· first | decide | omega))
  | with_reducible exact gives_nx | ((with_reducible refine gives_rt ?_); (· rfl)) | ((with_reducible refine And.intro ?_ ?_); (· exact rfl); (· with_reducible exact Eq.refl (_ : Sx))))
local macro_rules | `(tactic| walk_at "e") => `(tactic| repeat walk_at "e2")
/-- begin a def's spec -/
local macro_rules | `(tactic| walk_at "i") => `(tactic| simp only [initS, List.map_cons, List.map_nil, List.length_cons, List.length_nil, Nat.reduceAdd, Nat.reduceSub, List.replicate, List.cons_append, List.nil_append])
/-- a known truth decides -/
local macro_rules | `(tactic| walk_at "t") => `(tactic| first | ((with_reducible refine split_t ?_ ?_); (· walk_at "sd")) | ((with_reducible refine split_t' ?_ ?_); (· walk_at "sd")))
local macro_rules | `(tactic| walk_at "f") => `(tactic| first | ((with_reducible refine split_f ?_ ?_); (· walk_at "sd")) | ((with_reducible refine split_f' ?_ ?_); (· walk_at "sd")))
/-- all that is seen in a look -/
local macro_rules | `(tactic| walk_at "v") => `(tactic| (rw [sealAll_mk (by (simp only [List.set_cons_zero, List.set_cons_succ, List.map_cons, List.map_nil, sealS_none, sealS_dat, sealS_scr, sealS_own, List.getElem?_cons_zero, List.getElem?_cons_succ, sealC_lst]; rfl)) (by (simp only [List.set_cons_zero, List.set_cons_succ, List.map_cons, List.map_nil]; rfl))]))
namespace Sp
end Sp
end Lw

set_option maxHeartbeats 4000000
namespace Lw
open PySem Fu
local macro_rules | `(tactic| walk_at "e1") => `(tactic| first
  | with_reducible refine eo_seq ?_ | (with_reducible refine then_nx' ?_; refine ⟨?_, ?_, ?_⟩; rotate_left; · (try dsimp only [List.set, List.length_cons, List.length_nil, List.cons_append, List.nil_append, Nat.zero_add, Nat.reduceAdd]); exact rfl) | with_reducible refine then_rt ?_ | with_reducible refine eo_if ?_ | with_reducible refine eo_ret ?_ | with_reducible refine eo_set ?_ | with_reducible refine eo_asg ?_ | with_reducible refine eo_drop ?_ | with_reducible refine eo_nx ?_ | with_reducible refine eo_par ?_ | with_reducible refine eo_own ?_ | with_reducible refine eo_retN ?_ | with_reducible refine eo_for ?_ | with_reducible refine eo_retO ?_
  | with_reducible refine ev_c ?_ | (with_reducible refine ev_var ?_; refine ⟨_, rfl, ?_⟩) | with_reducible refine ev_bin ?_ | with_reducible refine ev_un ?_ | with_reducible refine ev_nil ?_ | with_reducible refine ev_cons ?_
  | with_reducible refine ev_tup ?_ | with_reducible refine ev_lst ?_ | with_reducible refine ev_call ?_ | with_reducible refine ev_callF ?_ | with_reducible refine ev_isi ?_ | with_reducible refine ev_isi2 ?_ | with_reducible refine ev_andV ?_ | with_reducible refine ev_orV ?_ | with_reducible refine ev_notV ?_
  | with_reducible refine ev_B ?_ | with_reducible refine ev_and ?_ | with_reducible refine ev_or ?_ | with_reducible refine ev_not ?_ | with_reducible refine ev_yes ?_ | with_reducible refine ev_if ?_ | with_reducible refine ev_no ?_ | with_reducible refine ev_so ?_ | with_reducible refine ev_sl ?_ | with_reducible refine ev_items ?_
  | (with_reducible refine ev_ixO ?_; refine ⟨_, _, rfl, rfl, ?_⟩) | (with_reducible refine ev_varO ?_; refine ⟨_, _, rfl, rfl, ?_⟩) | (with_reducible refine ev_lenO ?_; refine ⟨_, _, rfl, rfl, ?_⟩) | (with_reducible refine ev_scrSl ?_; refine ⟨_, rfl, ?_⟩) | (with_reducible refine ev_scrLen ?_; refine ⟨_, rfl, ?_⟩) | (with_reducible refine ev_callScr ?_; refine ⟨_, rfl, ?_⟩) | (with_reducible refine ev_OL ?_; refine ⟨_, _, rfl, rfl, ?_⟩) | with_reducible refine ev_OR ?_ | with_reducible refine ev_rep ?_ | with_reducible refine ev_listRng1 ?_ | with_reducible refine eo_setO ?_
  | with_reducible refine es_name ?_ | with_reducible refine es_tup2 ?_ | with_reducible refine es_tup3 ?_
  | with_reducible refine ed_addI ?_ | with_reducible refine ed_subI ?_ | with_reducible refine ed_cmp ?_ | with_reducible refine ed_eqI ?_ | with_reducible refine ed_neI ?_ | with_reducible refine ed_slT ?_ | with_reducible refine ed_slL ?_ | with_reducible refine ed_lenT ?_ | with_reducible refine ed_lenL ?_ | with_reducible refine ed_lenS ?_ | with_reducible refine ed_inS ?_ | with_reducible refine ed_itT ?_ | with_reducible refine ed_itL ?_ | with_reducible refine ed_tupL ?_ | with_reducible refine ed_tupT ?_ | with_reducible refine ed_listL ?_ | with_reducible refine ed_listT ?_ | with_reducible refine ed_neg ?_ | with_reducible refine ed_max ?_ | with_reducible refine ed_min ?_ | with_reducible refine ed_intB ?_
  | with_reducible refine ev_rng1 ?_ | with_reducible refine ev_rng2 ?_)
local macro_rules | `(tactic| walk_at "sd") => `(tactic| first | rfl | assumption | (simp only [decide_eq_true_eq, decide_eq_false_iff_not, Bool.not_eq_true', Bool.not_eq_false', Bool.and_eq_true, Bool.or_eq_true, List.length_map, List.length_cons, List.length_nil, List.length_append, List.length_range] at *; omega))
local macro_rules | `(tactic| walk_at "e2") => `(tactic| first
  | walk_at "e1" | with_reducible refine ⟨_, rfl, ?_⟩ | with_reducible refine ⟨_, _, rfl, ?_⟩
  | with_reducible refine And.intro (Eq.refl (List.length _)) ?_ | with_reducible refine And.intro (Nat.le_of_ble_eq_true (n := List.length _) rfl) ?_
  | with_reducible refine And.intro (Eq.refl (_ : Sx)) (?_ : Ed _ _)
  | ((with_reducible refine And.intro ?_ (And.intro ?_ (?_ : Ev _ _))); (· rfl); (· rfl))
  | ((with_reducible refine ed_ixT ?_ ?_ ?_); (· decide); (· rfl)) | ((with_reducible refine ed_ixL ?_ ?_ ?_); (· decide); (· rfl)) | ((with_reducible refine ed_at ?_ ?_ ?_); (· decide); (· rfl))
  | ((with_reducible refine ed_modI ?_ ?_); (· first | decide | omega))
  | with_reducible exact gives_nx | ((with_reducible refine gives_rt ?_); (· rfl)) | ((with_reducible refine And.intro ?_ ?_); (· exact rfl); (· with_reducible exact Eq.refl (_ : Sx))))
local macro_rules | `(tactic| walk_at "e") => `(tactic| repeat walk_at "e2")
/-- begin a def's spec -/
local macro_rules | `(tactic| walk_at "i") => `(tactic| simp only [initS, List.map_cons, List.map_nil, List.length_cons, List.length_nil, Nat.reduceAdd, Nat.reduceSub, List.replicate, List.cons_append, List.nil_append])
/-- a known truth decides -/
local macro_rules | `(tactic| walk_at "t") => `(tactic| first | ((with_reducible refine split_t ?_ ?_); (· walk_at "sd")) | ((with_reducible refine split_t' ?_ ?_); (· walk_at "sd")))
local macro_rules | `(tactic| walk_at "f") => `(tactic| first | ((with_reducible refine split_f ?_ ?_); (· walk_at "sd")) | ((with_reducible refine split_f' ?_ ?_); (· walk_at "sd")))
/-- all that is seen in a look -/
local macro_rules | `(tactic| walk_at "v") => `(tactic| (rw [sealAll_mk (by (simp only [List.set_cons_zero, List.set_cons_succ, List.map_cons, List.map_nil, sealS_none, sealS_dat, sealS_scr, sealS_own, List.getElem?_cons_zero, List.getElem?_cons_succ, sealC_lst]; rfl)) (by (simp only [List.set_cons_zero, List.set_cons_succ, List.map_cons, List.map_nil]; rfl))]))
theorem ed_inI {ns : List Int} {i : Int} {Q : D → Prop} (h : Q (.bool (decide (i ∈ ns)))) : Ed (dIn (.int i) (.list (ns.map PyData.int))) Q := by
  refine ⟨_, ?_, h⟩
  dsimp only [dIn]
  rw [if_pos ⟨(fine_int i).shaped, (fine_list (n := 0) fun d hd => by obtain ⟨n, _, rfl⟩ := List.mem_map.mp hd; exact fine_int n).shaped⟩]
  congr 2
  rw [Bool.eq_iff_iff, List.any_map, List.any_eq_true, decide_eq_true_eq]
  constructor
  · rintro ⟨x, hx, e⟩
    have : x = i := by simpa [PyData.eqv] using e
    exact this ▸ hx
  · intro hx
    exact ⟨i, hx, by simp [PyData.eqv]⟩
namespace Sp
end Sp
end Lw

set_option maxHeartbeats 4000000
namespace Lw
open PySem Fu
local macro_rules | `(tactic| walk_at "e1") => `(tactic| first
  | with_reducible refine eo_seq ?_ | (with_reducible refine then_nx' ?_; refine ⟨?_, ?_, ?_⟩; rotate_left; · (try dsimp only [List.set, List.length_cons, List.length_nil, List.cons_append, List.nil_append, Nat.zero_add, Nat.reduceAdd]); exact rfl) | with_reducible refine then_rt ?_ | with_reducible refine eo_if ?_ | with_reducible refine eo_ret ?_ | with_reducible refine eo_set ?_ | with_reducible refine eo_asg ?_ | with_reducible refine eo_drop ?_ | with_reducible refine eo_nx ?_ | with_reducible refine eo_par ?_ | with_reducible refine eo_own ?_ | with_reducible refine eo_retN ?_ | with_reducible refine eo_for ?_ | with_reducible refine eo_retO ?_
  | with_reducible refine ev_c ?_ | (with_reducible refine ev_var ?_; refine ⟨_, rfl, ?_⟩) | with_reducible refine ev_bin ?_ | with_reducible refine ev_un ?_ | with_reducible refine ev_nil ?_ | with_reducible refine ev_cons ?_
  | with_reducible refine ev_tup ?_ | with_reducible refine ev_lst ?_ | with_reducible refine ev_call ?_ | with_reducible refine ev_callF ?_ | with_reducible refine ev_isi ?_ | with_reducible refine ev_isi2 ?_ | with_reducible refine ev_andV ?_ | with_reducible refine ev_orV ?_ | with_reducible refine ev_notV ?_
  | with_reducible refine ev_B ?_ | with_reducible refine ev_and ?_ | with_reducible refine ev_or ?_ | with_reducible refine ev_not ?_ | with_reducible refine ev_yes ?_ | with_reducible refine ev_if ?_ | with_reducible refine ev_no ?_ | with_reducible refine ev_so ?_ | with_reducible refine ev_sl ?_ | with_reducible refine ev_items ?_
  | (with_reducible refine ev_ixO ?_; refine ⟨_, _, rfl, rfl, ?_⟩) | (with_reducible refine ev_varO ?_; refine ⟨_, _, rfl, rfl, ?_⟩) | (with_reducible refine ev_lenO ?_; refine ⟨_, _, rfl, rfl, ?_⟩) | (with_reducible refine ev_scrSl ?_; refine ⟨_, rfl, ?_⟩) | (with_reducible refine ev_scrLen ?_; refine ⟨_, rfl, ?_⟩) | (with_reducible refine ev_callScr ?_; refine ⟨_, rfl, ?_⟩) | (with_reducible refine ev_OL ?_; refine ⟨_, _, rfl, rfl, ?_⟩) | with_reducible refine ev_OR ?_ | with_reducible refine ev_rep ?_ | with_reducible refine ev_listRng1 ?_ | with_reducible refine eo_setO ?_
  | with_reducible refine es_name ?_ | with_reducible refine es_tup2 ?_ | with_reducible refine es_tup3 ?_
  | with_reducible refine ed_addI ?_ | with_reducible refine ed_subI ?_ | with_reducible refine ed_cmp ?_ | with_reducible refine ed_eqI ?_ | with_reducible refine ed_neI ?_ | with_reducible refine ed_slT ?_ | with_reducible refine ed_slL ?_ | with_reducible refine ed_lenT ?_ | with_reducible refine ed_lenL ?_ | with_reducible refine ed_lenS ?_ | with_reducible refine ed_inS ?_ | with_reducible refine ed_itT ?_ | with_reducible refine ed_itL ?_ | with_reducible refine ed_tupL ?_ | with_reducible refine ed_tupT ?_ | with_reducible refine ed_listL ?_ | with_reducible refine ed_listT ?_ | with_reducible refine ed_neg ?_ | with_reducible refine ed_max ?_ | with_reducible refine ed_min ?_ | with_reducible refine ed_intB ?_
  | with_reducible refine ev_rng1 ?_ | with_reducible refine ev_rng2 ?_)
local macro_rules | `(tactic| walk_at "sd") => `(tactic| first | rfl | assumption | (simp only [decide_eq_true_eq, decide_eq_false_iff_not, Bool.not_eq_true', Bool.not_eq_false', Bool.and_eq_true, Bool.or_eq_true, List.length_map, List.length_cons, List.length_nil, List.length_append, List.length_range] at *; omega))
local macro_rules | `(tactic| walk_at "e2") => `(tactic| first
  | walk_at "e1" | with_reducible refine ⟨_, rfl, ?_⟩ | with_reducible refine ⟨_, _, rfl, ?_⟩
  | with_reducible refine And.intro (Eq.refl (List.length _)) ?_ | with_reducible refine And.intro (Nat.le_of_ble_eq_true (n := List.length _) rfl) ?_
  | with_reducible refine And.intro (Eq.refl (_ : Sx)) (?_ : Ed _ _)
  | ((with_reducible refine And.intro ?_ (And.intro ?_ (?_ : Ev _ _))); (· rfl); (· rfl))
  | ((with_reducible refine ed_ixT ?_ ?_ ?_); (· decide); (· rfl)) | ((with_reducible refine ed_ixL ?_ ?_ ?_); (· decide); (· rfl)) | ((with_reducible refine ed_at ?_ ?_ ?_); (· decide); (· rfl))
  | ((with_reducible refine ed_modI ?_ ?_); (· first | decide | omega))
  | with_reducible exact gives_nx | ((with_reducible refine gives_rt ?_); (· rfl)) | ((with_reducible refine And.intro ?_ ?_); (· exact rfl); (· with_reducible exact Eq.refl (_ : Sx))))
local macro_rules | `(tactic| walk_at "e") => `(tactic| repeat walk_at "e2")
/-- begin a def's spec -/
local macro_rules | `(tactic| walk_at "i") => `(tactic| simp only [initS, List.map_cons, List.map_nil, List.length_cons, List.length_nil, Nat.reduceAdd, Nat.reduceSub, List.replicate, List.cons_append, List.nil_append])
/-- a known truth decides -/
local macro_rules | `(tactic| walk_at "t") => `(tactic| first | ((with_reducible refine split_t ?_ ?_); (· walk_at "sd")) | ((with_reducible refine split_t' ?_ ?_); (· walk_at "sd")))
local macro_rules | `(tactic| walk_at "f") => `(tactic| first | ((with_reducible refine split_f ?_ ?_); (· walk_at "sd")) | ((with_reducible refine split_f' ?_ ?_); (· walk_at "sd")))
/-- all that is seen in a look -/
local macro_rules | `(tactic| walk_at "v") => `(tactic| (rw [sealAll_mk (by (simp only [List.set_cons_zero, List.set_cons_succ, List.map_cons, List.map_nil, sealS_none, sealS_dat, sealS_scr, sealS_own, List.getElem?_cons_zero, List.getElem?_cons_succ, sealC_lst]; rfl)) (by (simp only [List.set_cons_zero, List.set_cons_succ, List.map_cons, List.map_nil]; rfl))]))
namespace Sp
end Sp
end Lw

set_option maxHeartbeats 4000000
namespace Lw
open PySem Fu
local macro_rules | `(tactic| walk_at "e1") => `(tactic| first
  | with_reducible refine eo_seq ?_ | (with_reducible refine then_nx' ?_; refine ⟨?_, ?_, ?_⟩; rotate_left; · (try dsimp only [List.set, List.length_cons, List.length_nil, List.cons_append, List.nil_append, Nat.zero_add, Nat.reduceAdd]); exact rfl) | with_reducible refine then_rt ?_ | with_reducible refine eo_if ?_ | with_reducible refine eo_ret ?_ | with_reducible refine eo_set ?_ | with_reducible refine eo_asg ?_ | with_reducible refine eo_drop ?_ | with_reducible refine eo_nx ?_ | with_reducible refine eo_par ?_ | with_reducible refine eo_own ?_ | with_reducible refine eo_retN ?_ | with_reducible refine eo_for ?_ | with_reducible refine eo_retO ?_
  | with_reducible refine ev_c ?_ | (with_reducible refine ev_var ?_; refine ⟨_, rfl, ?_⟩) | with_reducible refine ev_bin ?_ | with_reducible refine ev_un ?_ | with_reducible refine ev_nil ?_ | with_reducible refine ev_cons ?_
  | with_reducible refine ev_tup ?_ | with_reducible refine ev_lst ?_ | with_reducible refine ev_call ?_ | with_reducible refine ev_callF ?_ | with_reducible refine ev_isi ?_ | with_reducible refine ev_isi2 ?_ | with_reducible refine ev_andV ?_ | with_reducible refine ev_orV ?_ | with_reducible refine ev_notV ?_
  | with_reducible refine ev_B ?_ | with_reducible refine ev_and ?_ | with_reducible refine ev_or ?_ | with_reducible refine ev_not ?_ | with_reducible refine ev_yes ?_ | with_reducible refine ev_if ?_ | with_reducible refine ev_no ?_ | with_reducible refine ev_so ?_ | with_reducible refine ev_sl ?_ | with_reducible refine ev_items ?_
  | (with_reducible refine ev_ixO ?_; refine ⟨_, _, rfl, rfl, ?_⟩) | (with_reducible refine ev_varO ?_; refine ⟨_, _, rfl, rfl, ?_⟩) | (with_reducible refine ev_lenO ?_; refine ⟨_, _, rfl, rfl, ?_⟩) | (with_reducible refine ev_scrSl ?_; refine ⟨_, rfl, ?_⟩) | (with_reducible refine ev_scrLen ?_; refine ⟨_, rfl, ?_⟩) | (with_reducible refine ev_callScr ?_; refine ⟨_, rfl, ?_⟩) | (with_reducible refine ev_OL ?_; refine ⟨_, _, rfl, rfl, ?_⟩) | with_reducible refine ev_OR ?_ | with_reducible refine ev_rep ?_ | with_reducible refine ev_listRng1 ?_ | with_reducible refine eo_setO ?_
  | with_reducible refine es_name ?_ | with_reducible refine es_tup2 ?_ | with_reducible refine es_tup3 ?_
  | with_reducible refine ed_addI ?_ | with_reducible refine ed_subI ?_ | with_reducible refine ed_cmp ?_ | with_reducible refine ed_eqI ?_ | with_reducible refine ed_neI ?_ | with_reducible refine ed_slT ?_ | with_reducible refine ed_slL ?_ | with_reducible refine ed_lenT ?_ | with_reducible refine ed_lenL ?_ | with_reducible refine ed_lenS ?_ | with_reducible refine ed_inS ?_ | with_reducible refine ed_itT ?_ | with_reducible refine ed_itL ?_ | with_reducible refine ed_tupL ?_ | with_reducible refine ed_tupT ?_ | with_reducible refine ed_listL ?_ | with_reducible refine ed_listT ?_ | with_reducible refine ed_neg ?_ | with_reducible refine ed_max ?_ | with_reducible refine ed_min ?_ | with_reducible refine ed_intB ?_
  | with_reducible refine ev_rng1 ?_ | with_reducible refine ev_rng2 ?_)
local macro_rules | `(tactic| walk_at "sd") => `(tactic| first | rfl | assumption | (simp only [decide_eq_true_eq, decide_eq_false_iff_not, Bool.not_eq_true', Bool.not_eq_false', Bool.and_eq_true, Bool.or_eq_true, List.length_map, List.length_cons, List.length_nil, List.length_append, List.length_range] at *; omega))
local macro_rules | `(tactic| walk_at "e2") => `(tactic| first
  | walk_at "e1" | with_reducible refine ⟨_, rfl, ?_⟩ | with_reducible refine ⟨_, _, rfl, ?_⟩
  | with_reducible refine And.intro (Eq.refl (List.length _)) ?_ | with_reducible refine And.intro (Nat.le_of_ble_eq_true (n := List.length _) rfl) ?_
  | with_reducible refine And.intro (Eq.refl (_ : Sx)) (?_ : Ed _ _)
  | ((with_reducible refine And.intro ?_ (And.intro ?_ (?_ : Ev _ _))); (· rfl); (· rfl))
  | ((with_reducible refine ed_ixT ?_ ?_ ?_); (· decide); (· rfl)) | ((with_reducible refine ed_ixL ?_ ?_ ?_); (· decide); (· rfl)) | ((with_reducible refine ed_at ?_ ?_ ?_); (· decide); (· rfl))
  | ((with_reducible refine ed_modI ?_ ?_); (· first | decide | omega))
  | with_reducible exact gives_nx | ((with_reducible refine gives_rt ?_); (· rfl)) | ((with_reducible refine And.intro ?_ ?_); (· exact rfl); (· with_reducible exact Eq.refl (_ : Sx))))
local macro_rules | `(tactic| walk_at "e") => `(tactic| repeat walk_at "e2")
/-- begin a def's spec -/
local macro_rules | `(tactic| walk_at "i") => `(tactic| simp only [initS, List.map_cons, List.map_nil, List.length_cons, List.length_nil, Nat.reduceAdd, Nat.reduceSub, List.replicate, List.cons_append, List.nil_append])
/-- a known truth decides -/
local macro_rules | `(tactic| walk_at "t") => `(tactic| first | ((with_reducible refine split_t ?_ ?_); (· walk_at "sd")) | ((with_reducible refine split_t' ?_ ?_); (· walk_at "sd")))
local macro_rules | `(tactic| walk_at "f") => `(tactic| first | ((with_reducible refine split_f ?_ ?_); (· walk_at "sd")) | ((with_reducible refine split_f' ?_ ?_); (· walk_at "sd")))
/-- all that is seen in a look -/
local macro_rules | `(tactic| walk_at "v") => `(tactic| (rw [sealAll_mk (by (simp only [List.set_cons_zero, List.set_cons_succ, List.map_cons, List.map_nil, sealS_none, sealS_dat, sealS_scr, sealS_own, List.getElem?_cons_zero, List.getElem?_cons_succ, sealC_lst]; rfl)) (by (simp only [List.set_cons_zero, List.set_cons_succ, List.map_cons, List.map_nil]; rfl))]))
theorem ends_small {ls : List Ln} {p : Int} {es : List (Int × Int)} (hk : WbOk p ls) (h : ∀ e ∈ es, EndOk ls.length e) : ∀ e ∈ es, e.1.natAbs < 10 ^ 12 ∧ e.2.natAbs < 10 ^ 12 := fun e he => by
  obtain ⟨a, b, c, d⟩ := h e he
  have := hk.len
  omega
namespace Sp
theorem x__law_handed {c : Nat} {cs : List D} {d : D} (hR : Reel c cs) (hc : 1 ≤ c) (hd : d.depth < 8) : ∃ z cs', m__law_handed cs [d] = some (z, cs') ∧ (z = d ∨ z = listsD d) ∧ Reel (c - 1) cs' := by
  unfold m__law_handed; refine mIO_of ?_; walk_at "i"; unfold g__law_handed
  walk_at "e"
  refine ev_drawR ⟨_, rfl, ?_⟩
  walk_at "e"
  refine ⟨_, _, _, rfl, rfl, hR, by omega, by decide, by decide, fun v cs a b hR => ?_⟩
  walk_at "e"
  refine ⟨fun _ => ?_, fun _ => ?_⟩
  · walk_at "e"
    exact ⟨cs, rfl, .inl rfl, hR⟩
  · walk_at "e"
    refine Ed.of (x_lists 8 d hd) ?_
    exact ⟨cs, rfl, .inr rfl, hR⟩
end Sp
end Lw

set_option maxHeartbeats 4000000
namespace Lw
open PySem Fu
local macro_rules | `(tactic| walk_at "e1") => `(tactic| first
  | with_reducible refine eo_seq ?_ | (with_reducible refine then_nx' ?_; refine ⟨?_, ?_, ?_⟩; rotate_left; · (try dsimp only [List.set, List.length_cons, List.length_nil, List.cons_append, List.nil_append, Nat.zero_add, Nat.reduceAdd]); exact rfl) | with_reducible refine then_rt ?_ | with_reducible refine eo_if ?_ | with_reducible refine eo_ret ?_ | with_reducible refine eo_set ?_ | with_reducible refine eo_asg ?_ | with_reducible refine eo_drop ?_ | with_reducible refine eo_nx ?_ | with_reducible refine eo_par ?_ | with_reducible refine eo_own ?_ | with_reducible refine eo_retN ?_ | with_reducible refine eo_for ?_ | with_reducible refine eo_retO ?_
  | with_reducible refine ev_c ?_ | (with_reducible refine ev_var ?_; refine ⟨_, rfl, ?_⟩) | with_reducible refine ev_bin ?_ | with_reducible refine ev_un ?_ | with_reducible refine ev_nil ?_ | with_reducible refine ev_cons ?_
  | with_reducible refine ev_tup ?_ | with_reducible refine ev_lst ?_ | with_reducible refine ev_call ?_ | with_reducible refine ev_callF ?_ | with_reducible refine ev_isi ?_ | with_reducible refine ev_isi2 ?_ | with_reducible refine ev_andV ?_ | with_reducible refine ev_orV ?_ | with_reducible refine ev_notV ?_
  | with_reducible refine ev_B ?_ | with_reducible refine ev_and ?_ | with_reducible refine ev_or ?_ | with_reducible refine ev_not ?_ | with_reducible refine ev_yes ?_ | with_reducible refine ev_if ?_ | with_reducible refine ev_no ?_ | with_reducible refine ev_so ?_ | with_reducible refine ev_sl ?_ | with_reducible refine ev_items ?_
  | (with_reducible refine ev_ixO ?_; refine ⟨_, _, rfl, rfl, ?_⟩) | (with_reducible refine ev_varO ?_; refine ⟨_, _, rfl, rfl, ?_⟩) | (with_reducible refine ev_lenO ?_; refine ⟨_, _, rfl, rfl, ?_⟩) | (with_reducible refine ev_scrSl ?_; refine ⟨_, rfl, ?_⟩) | (with_reducible refine ev_scrLen ?_; refine ⟨_, rfl, ?_⟩) | (with_reducible refine ev_callScr ?_; refine ⟨_, rfl, ?_⟩) | (with_reducible refine ev_OL ?_; refine ⟨_, _, rfl, rfl, ?_⟩) | with_reducible refine ev_OR ?_ | with_reducible refine ev_rep ?_ | with_reducible refine ev_listRng1 ?_ | with_reducible refine eo_setO ?_
  | with_reducible refine es_name ?_ | with_reducible refine es_tup2 ?_ | with_reducible refine es_tup3 ?_
  | with_reducible refine ed_addI ?_ | with_reducible refine ed_subI ?_ | with_reducible refine ed_cmp ?_ | with_reducible refine ed_eqI ?_ | with_reducible refine ed_neI ?_ | with_reducible refine ed_slT ?_ | with_reducible refine ed_slL ?_ | with_reducible refine ed_lenT ?_ | with_reducible refine ed_lenL ?_ | with_reducible refine ed_lenS ?_ | with_reducible refine ed_inS ?_ | with_reducible refine ed_itT ?_ | with_reducible refine ed_itL ?_ | with_reducible refine ed_tupL ?_ | with_reducible refine ed_tupT ?_ | with_reducible refine ed_listL ?_ | with_reducible refine ed_listT ?_ | with_reducible refine ed_neg ?_ | with_reducible refine ed_max ?_ | with_reducible refine ed_min ?_ | with_reducible refine ed_intB ?_
  | with_reducible refine ev_rng1 ?_ | with_reducible refine ev_rng2 ?_)
local macro_rules | `(tactic| walk_at "sd") => `(tactic| first | rfl | assumption | (simp only [decide_eq_true_eq, decide_eq_false_iff_not, Bool.not_eq_true', Bool.not_eq_false', Bool.and_eq_true, Bool.or_eq_true, List.length_map, List.length_cons, List.length_nil, List.length_append, List.length_range] at *; omega))
local macro_rules | `(tactic| walk_at "e2") => `(tactic| first
  | walk_at "e1" | with_reducible refine ⟨_, rfl, ?_⟩ | with_reducible refine ⟨_, _, rfl, ?_⟩
  | with_reducible refine And.intro (Eq.refl (List.length _)) ?_ | with_reducible refine And.intro (Nat.le_of_ble_eq_true (n := List.length _) rfl) ?_
  | with_reducible refine And.intro (Eq.refl (_ : Sx)) (?_ : Ed _ _)
  | ((with_reducible refine And.intro ?_ (And.intro ?_ (?_ : Ev _ _))); (· rfl); (· rfl))
  | ((with_reducible refine ed_ixT ?_ ?_ ?_); (· decide); (· rfl)) | ((with_reducible refine ed_ixL ?_ ?_ ?_); (· decide); (· rfl)) | ((with_reducible refine ed_at ?_ ?_ ?_); (· decide); (· rfl))
  | ((with_reducible refine ed_modI ?_ ?_); (· first | decide | omega))
  | with_reducible exact gives_nx | ((with_reducible refine gives_rt ?_); (· rfl)) | ((with_reducible refine And.intro ?_ ?_); (· exact rfl); (· with_reducible exact Eq.refl (_ : Sx))))
local macro_rules | `(tactic| walk_at "e") => `(tactic| repeat walk_at "e2")
/-- begin a def's spec -/
local macro_rules | `(tactic| walk_at "i") => `(tactic| simp only [initS, List.map_cons, List.map_nil, List.length_cons, List.length_nil, Nat.reduceAdd, Nat.reduceSub, List.replicate, List.cons_append, List.nil_append])
/-- a known truth decides -/
local macro_rules | `(tactic| walk_at "t") => `(tactic| first | ((with_reducible refine split_t ?_ ?_); (· walk_at "sd")) | ((with_reducible refine split_t' ?_ ?_); (· walk_at "sd")))
local macro_rules | `(tactic| walk_at "f") => `(tactic| first | ((with_reducible refine split_f ?_ ?_); (· walk_at "sd")) | ((with_reducible refine split_f' ?_ ?_); (· walk_at "sd")))
/-- all that is seen in a look -/
local macro_rules | `(tactic| walk_at "v") => `(tactic| (rw [sealAll_mk (by (simp only [List.set_cons_zero, List.set_cons_succ, List.map_cons, List.map_nil, sealS_none, sealS_dat, sealS_scr, sealS_own, List.getElem?_cons_zero, List.getElem?_cons_succ, sealC_lst]; rfl)) (by (simp only [List.set_cons_zero, List.set_cons_succ, List.map_cons, List.map_nil]; rfl))]))
namespace Bg
/-! ### the bag -/
structure Bag (b : Nat) (cs : List D) : Prop where
  ex : ∃ (ns : List Int) (pos : Nat) (rest cnt total : Int), cs = [.list (ns.map .int), .int pos, .int rest, .int cnt, .int total] ∧ ns.length ≤ 63 ∧ pos ≤ ns.length ∧ 0 ≤ rest ∧ 0 ≤ cnt ∧ cnt + b ≤ 4294967296 ∧ 0 ≤ total ∧ total < 2305843009213693951
theorem Bag.mono {a b : Nat} {cs : List D} (h : Bag a cs) (l : b ≤ a) : Bag b cs := by
  obtain ⟨f, s, n, t, u, h1, h2, h3, h4, h5, h6, h7⟩ := h
  exact ⟨f, s, n, t, u, h1, h2, h3, h4, h5, by omega, h7⟩
end Bg
end Lw

set_option maxHeartbeats 4000000
namespace Lw
open PySem Fu
local macro_rules | `(tactic| walk_at "e1") => `(tactic| first
  | with_reducible refine eo_seq ?_ | (with_reducible refine then_nx' ?_; refine ⟨?_, ?_, ?_⟩; rotate_left; · (try dsimp only [List.set, List.length_cons, List.length_nil, List.cons_append, List.nil_append, Nat.zero_add, Nat.reduceAdd]); exact rfl) | with_reducible refine then_rt ?_ | with_reducible refine eo_if ?_ | with_reducible refine eo_ret ?_ | with_reducible refine eo_set ?_ | with_reducible refine eo_asg ?_ | with_reducible refine eo_drop ?_ | with_reducible refine eo_nx ?_ | with_reducible refine eo_par ?_ | with_reducible refine eo_own ?_ | with_reducible refine eo_retN ?_ | with_reducible refine eo_for ?_ | with_reducible refine eo_retO ?_
  | with_reducible refine ev_c ?_ | (with_reducible refine ev_var ?_; refine ⟨_, rfl, ?_⟩) | with_reducible refine ev_bin ?_ | with_reducible refine ev_un ?_ | with_reducible refine ev_nil ?_ | with_reducible refine ev_cons ?_
  | with_reducible refine ev_tup ?_ | with_reducible refine ev_lst ?_ | with_reducible refine ev_call ?_ | with_reducible refine ev_callF ?_ | with_reducible refine ev_isi ?_ | with_reducible refine ev_isi2 ?_ | with_reducible refine ev_andV ?_ | with_reducible refine ev_orV ?_ | with_reducible refine ev_notV ?_
  | with_reducible refine ev_B ?_ | with_reducible refine ev_and ?_ | with_reducible refine ev_or ?_ | with_reducible refine ev_not ?_ | with_reducible refine ev_yes ?_ | with_reducible refine ev_if ?_ | with_reducible refine ev_no ?_ | with_reducible refine ev_so ?_ | with_reducible refine ev_sl ?_ | with_reducible refine ev_items ?_
  | (with_reducible refine ev_ixO ?_; refine ⟨_, _, rfl, rfl, ?_⟩) | (with_reducible refine ev_varO ?_; refine ⟨_, _, rfl, rfl, ?_⟩) | (with_reducible refine ev_lenO ?_; refine ⟨_, _, rfl, rfl, ?_⟩) | (with_reducible refine ev_scrSl ?_; refine ⟨_, rfl, ?_⟩) | (with_reducible refine ev_scrLen ?_; refine ⟨_, rfl, ?_⟩) | (with_reducible refine ev_callScr ?_; refine ⟨_, rfl, ?_⟩) | (with_reducible refine ev_OL ?_; refine ⟨_, _, rfl, rfl, ?_⟩) | with_reducible refine ev_OR ?_ | with_reducible refine ev_rep ?_ | with_reducible refine ev_listRng1 ?_ | with_reducible refine eo_setO ?_
  | with_reducible refine es_name ?_ | with_reducible refine es_tup2 ?_ | with_reducible refine es_tup3 ?_
  | with_reducible refine ed_addI ?_ | with_reducible refine ed_subI ?_ | with_reducible refine ed_cmp ?_ | with_reducible refine ed_eqI ?_ | with_reducible refine ed_neI ?_ | with_reducible refine ed_slT ?_ | with_reducible refine ed_slL ?_ | with_reducible refine ed_lenT ?_ | with_reducible refine ed_lenL ?_ | with_reducible refine ed_lenS ?_ | with_reducible refine ed_inS ?_ | with_reducible refine ed_itT ?_ | with_reducible refine ed_itL ?_ | with_reducible refine ed_tupL ?_ | with_reducible refine ed_tupT ?_ | with_reducible refine ed_listL ?_ | with_reducible refine ed_listT ?_ | with_reducible refine ed_neg ?_ | with_reducible refine ed_max ?_ | with_reducible refine ed_min ?_ | with_reducible refine ed_intB ?_
  | with_reducible refine ev_rng1 ?_ | with_reducible refine ev_rng2 ?_)
local macro_rules | `(tactic| walk_at "sd") => `(tactic| first | rfl | assumption | (simp only [decide_eq_true_eq, decide_eq_false_iff_not, Bool.not_eq_true', Bool.not_eq_false', Bool.and_eq_true, Bool.or_eq_true, List.length_map, List.length_cons, List.length_nil, List.length_append, List.length_range] at *; omega))
local macro_rules | `(tactic| walk_at "e2") => `(tactic| first
  | walk_at "e1" | with_reducible refine ⟨_, rfl, ?_⟩ | with_reducible refine ⟨_, _, rfl, ?_⟩
  | with_reducible refine And.intro (Eq.refl (List.length _)) ?_ | with_reducible refine And.intro (Nat.le_of_ble_eq_true (n := List.length _) rfl) ?_
  | with_reducible refine And.intro (Eq.refl (_ : Sx)) (?_ : Ed _ _)
  | ((with_reducible refine And.intro ?_ (And.intro ?_ (?_ : Ev _ _))); (· rfl); (· rfl))
  | ((with_reducible refine ed_ixT ?_ ?_ ?_); (· decide); (· rfl)) | ((with_reducible refine ed_ixL ?_ ?_ ?_); (· decide); (· rfl)) | ((with_reducible refine ed_at ?_ ?_ ?_); (· decide); (· rfl))
  | ((with_reducible refine ed_modI ?_ ?_); (· first | decide | omega))
  | with_reducible exact gives_nx | ((with_reducible refine gives_rt ?_); (· rfl)) | ((with_reducible refine And.intro ?_ ?_); (· exact rfl); (· with_reducible exact Eq.refl (_ : Sx))))
local macro_rules | `(tactic| walk_at "e") => `(tactic| repeat walk_at "e2")
/-- begin a def's spec -/
local macro_rules | `(tactic| walk_at "i") => `(tactic| simp only [initS, List.map_cons, List.map_nil, List.length_cons, List.length_nil, Nat.reduceAdd, Nat.reduceSub, List.replicate, List.cons_append, List.nil_append])
/-- a known truth decides -/
local macro_rules | `(tactic| walk_at "t") => `(tactic| first | ((with_reducible refine split_t ?_ ?_); (· walk_at "sd")) | ((with_reducible refine split_t' ?_ ?_); (· walk_at "sd")))
local macro_rules | `(tactic| walk_at "f") => `(tactic| first | ((with_reducible refine split_f ?_ ?_); (· walk_at "sd")) | ((with_reducible refine split_f' ?_ ?_); (· walk_at "sd")))
/-- all that is seen in a look -/
local macro_rules | `(tactic| walk_at "v") => `(tactic| (rw [sealAll_mk (by (simp only [List.set_cons_zero, List.set_cons_succ, List.map_cons, List.map_nil, sealS_none, sealS_dat, sealS_scr, sealS_own, List.getElem?_cons_zero, List.getElem?_cons_succ, sealC_lst]; rfl)) (by (simp only [List.set_cons_zero, List.set_cons_succ, List.map_cons, List.map_nil]; rfl))]))
theorem ev_enum {S : Sx} {g : M (List D)} {L : List D → Sx → Prop} (h : Ev (g S) fun ds S1 => ∃ xs, ds = [.list xs] ∧ L (enumD 0 xs) S1) : Ev (gEnumA g S) L := by
  obtain ⟨ds, S1, e, xs, rfl, q⟩ := h
  exact ⟨_, S1, by simp only [gEnumA, e, Option.bind_some], q⟩
theorem erase_perm {α : Type} : ∀ (l : List α) (i : Nat) (h : i < l.length), (l[i] :: l.eraseIdx i).Perm l
  | [], i, h => by simp at h
  | x :: l, 0, _ => by simp
  | x :: l, i + 1, h => by
    simp only [List.getElem_cons_succ, List.eraseIdx_cons_succ]
    exact (List.Perm.swap _ _ _).trans ((erase_perm l i (by simpa using h)).cons x)
namespace Bg
end Bg
end Lw

set_option maxHeartbeats 4000000
namespace Lw
open PySem Fu
local macro_rules | `(tactic| walk_at "e1") => `(tactic| first
  | with_reducible refine eo_seq ?_ | (with_reducible refine then_nx' ?_; refine ⟨?_, ?_, ?_⟩; rotate_left; · (try dsimp only [List.set, List.length_cons, List.length_nil, List.cons_append, List.nil_append, Nat.zero_add, Nat.reduceAdd]); exact rfl) | with_reducible refine then_rt ?_ | with_reducible refine eo_if ?_ | with_reducible refine eo_ret ?_ | with_reducible refine eo_set ?_ | with_reducible refine eo_asg ?_ | with_reducible refine eo_drop ?_ | with_reducible refine eo_nx ?_ | with_reducible refine eo_par ?_ | with_reducible refine eo_own ?_ | with_reducible refine eo_retN ?_ | with_reducible refine eo_for ?_ | with_reducible refine eo_retO ?_
  | with_reducible refine ev_c ?_ | (with_reducible refine ev_var ?_; refine ⟨_, rfl, ?_⟩) | with_reducible refine ev_bin ?_ | with_reducible refine ev_un ?_ | with_reducible refine ev_nil ?_ | with_reducible refine ev_cons ?_
  | with_reducible refine ev_tup ?_ | with_reducible refine ev_lst ?_ | with_reducible refine ev_call ?_ | with_reducible refine ev_callF ?_ | with_reducible refine ev_isi ?_ | with_reducible refine ev_isi2 ?_ | with_reducible refine ev_andV ?_ | with_reducible refine ev_orV ?_ | with_reducible refine ev_notV ?_
  | with_reducible refine ev_B ?_ | with_reducible refine ev_and ?_ | with_reducible refine ev_or ?_ | with_reducible refine ev_not ?_ | with_reducible refine ev_yes ?_ | with_reducible refine ev_if ?_ | with_reducible refine ev_no ?_ | with_reducible refine ev_so ?_ | with_reducible refine ev_sl ?_ | with_reducible refine ev_items ?_
  | (with_reducible refine ev_ixO ?_; refine ⟨_, _, rfl, rfl, ?_⟩) | (with_reducible refine ev_varO ?_; refine ⟨_, _, rfl, rfl, ?_⟩) | (with_reducible refine ev_lenO ?_; refine ⟨_, _, rfl, rfl, ?_⟩) | (with_reducible refine ev_scrSl ?_; refine ⟨_, rfl, ?_⟩) | (with_reducible refine ev_scrLen ?_; refine ⟨_, rfl, ?_⟩) | (with_reducible refine ev_callScr ?_; refine ⟨_, rfl, ?_⟩) | (with_reducible refine ev_OL ?_; refine ⟨_, _, rfl, rfl, ?_⟩) | with_reducible refine ev_OR ?_ | with_reducible refine ev_rep ?_ | with_reducible refine ev_listRng1 ?_ | with_reducible refine eo_setO ?_
  | with_reducible refine es_name ?_ | with_reducible refine es_tup2 ?_ | with_reducible refine es_tup3 ?_
  | with_reducible refine ed_addI ?_ | with_reducible refine ed_subI ?_ | with_reducible refine ed_cmp ?_ | with_reducible refine ed_eqI ?_ | with_reducible refine ed_neI ?_ | with_reducible refine ed_slT ?_ | with_reducible refine ed_slL ?_ | with_reducible refine ed_lenT ?_ | with_reducible refine ed_lenL ?_ | with_reducible refine ed_lenS ?_ | with_reducible refine ed_inS ?_ | with_reducible refine ed_itT ?_ | with_reducible refine ed_itL ?_ | with_reducible refine ed_tupL ?_ | with_reducible refine ed_tupT ?_ | with_reducible refine ed_listL ?_ | with_reducible refine ed_listT ?_ | with_reducible refine ed_neg ?_ | with_reducible refine ed_max ?_ | with_reducible refine ed_min ?_ | with_reducible refine ed_intB ?_
  | with_reducible refine ev_rng1 ?_ | with_reducible refine ev_rng2 ?_)
local macro_rules | `(tactic| walk_at "sd") => `(tactic| first | rfl | assumption | (simp only [decide_eq_true_eq, decide_eq_false_iff_not, Bool.not_eq_true', Bool.not_eq_false', Bool.and_eq_true, Bool.or_eq_true, List.length_map, List.length_cons, List.length_nil, List.length_append, List.length_range] at *; omega))
local macro_rules | `(tactic| walk_at "e2") => `(tactic| first
  | walk_at "e1" | with_reducible refine ⟨_, rfl, ?_⟩ | with_reducible refine ⟨_, _, rfl, ?_⟩
  | with_reducible refine And.intro (Eq.refl (List.length _)) ?_ | with_reducible refine And.intro (Nat.le_of_ble_eq_true (n := List.length _) rfl) ?_
  | with_reducible refine And.intro (Eq.refl (_ : Sx)) (?_ : Ed _ _)
  | ((with_reducible refine And.intro ?_ (And.intro ?_ (?_ : Ev _ _))); (· rfl); (· rfl))
  | ((with_reducible refine ed_ixT ?_ ?_ ?_); (· decide); (· rfl)) | ((with_reducible refine ed_ixL ?_ ?_ ?_); (· decide); (· rfl)) | ((with_reducible refine ed_at ?_ ?_ ?_); (· decide); (· rfl))
  | ((with_reducible refine ed_modI ?_ ?_); (· first | decide | omega))
  | with_reducible exact gives_nx | ((with_reducible refine gives_rt ?_); (· rfl)) | ((with_reducible refine And.intro ?_ ?_); (· exact rfl); (· with_reducible exact Eq.refl (_ : Sx))))
local macro_rules | `(tactic| walk_at "e") => `(tactic| repeat walk_at "e2")
/-- begin a def's spec -/
local macro_rules | `(tactic| walk_at "i") => `(tactic| simp only [initS, List.map_cons, List.map_nil, List.length_cons, List.length_nil, Nat.reduceAdd, Nat.reduceSub, List.replicate, List.cons_append, List.nil_append])
/-- a known truth decides -/
local macro_rules | `(tactic| walk_at "t") => `(tactic| first | ((with_reducible refine split_t ?_ ?_); (· walk_at "sd")) | ((with_reducible refine split_t' ?_ ?_); (· walk_at "sd")))
local macro_rules | `(tactic| walk_at "f") => `(tactic| first | ((with_reducible refine split_f ?_ ?_); (· walk_at "sd")) | ((with_reducible refine split_f' ?_ ?_); (· walk_at "sd")))
/-- all that is seen in a look -/
local macro_rules | `(tactic| walk_at "v") => `(tactic| (rw [sealAll_mk (by (simp only [List.set_cons_zero, List.set_cons_succ, List.map_cons, List.map_nil, sealS_none, sealS_dat, sealS_scr, sealS_own, List.getElem?_cons_zero, List.getElem?_cons_succ, sealC_lst]; rfl)) (by (simp only [List.set_cons_zero, List.set_cons_succ, List.map_cons, List.map_nil]; rfl))]))
namespace Bg
open Sp
/-! ### a walk's lines, plainly -/
def lnAt (sp : List Int) (sg : List Nat) (i : Nat) (s : Int) : Ln := if s = 0 then (sp.getD i 0, sp.getD (i + 1) 0, sg.getD i 0) else (sp.getD (i + 1) 0, sp.getD i 0, sg.getD i 0)
structure Wk (n k : Nat) (sp : List Int) (od sg : List Nat) (qs : List (Option Ln)) (es : List (Int × Int)) : Prop where
  qlen : qs.length = n
  elen : es.length = k
  glen : sg.length = k
  at' : ∀ i, i < k → ∃ m s, od[i]? = some m ∧ (s = 0 ∨ s = 1) ∧ es[i]? = some ((m : Int), s) ∧ qs[m]? = some (some (lnAt sp sg i s))
theorem getD_add {α : Type} {xs : List α} {x d : α} {i : Nat} (h : i < xs.length) : (xs ++ [x]).getD i d = xs.getD i d := by
  rw [List.getD_eq_getElem?_getD, List.getD_eq_getElem?_getD, List.getElem?_append_left h]
theorem Wk.zero (n : Nat) (sp : List Int) (od : List Nat) : Wk n 0 sp od [] (List.replicate n none) [] := ⟨by simp, rfl, rfl, fun i h => absurd h (Nat.not_lt_zero _)⟩
theorem Wk.step {n k m : Nat} {sp : List Int} {od sg : List Nat} {qs : List (Option Ln)} {es : List (Int × Int)} {s : Int} {c : Nat} (h : Wk n k sp od sg qs es) (hnd : od.Nodup) (hm : od[k]? = some m) (hmn : m < n) (hs : s = 0 ∨ s = 1) :
    Wk n (k + 1) sp od (sg ++ [c]) (qs.set m (some (lnAt sp (sg ++ [c]) k s))) (es ++ [((m : Int), s)]) := by
  have hlt : m < qs.length := by rw [h.qlen]; exact hmn
  refine ⟨by simp [h.qlen], by simp [h.elen], by simp [h.glen], fun i hi => ?_⟩
  rcases Nat.lt_succ_iff_lt_or_eq.mp hi with hi | rfl
  · obtain ⟨m2, s2, h1, h2, h3, h4⟩ := h.at' i hi
    refine ⟨m2, s2, h1, h2, by rw [List.getElem?_append_left (by rw [h.elen]; exact hi)]; exact h3, ?_⟩
    have hne : m ≠ m2 := by
      rintro rfl
      obtain ⟨l1, e1⟩ := List.getElem?_eq_some_iff.mp hm
      obtain ⟨l2, e2⟩ := List.getElem?_eq_some_iff.mp h1
      have := (List.getElem_inj hnd).mp (e1.trans e2.symm)
      omega
    rw [List.getElem?_set_ne hne, h4]
    unfold lnAt
    rw [getD_add (by rw [h.glen]; exact hi)]
  · exact ⟨m, s, hm, hs, by rw [List.getElem?_append_right (by rw [h.elen]; exact Nat.le_refl _), h.elen, Nat.sub_self]; rfl, by rw [List.getElem?_set_self hlt]⟩
/-- a walk's web and ride -/
structure Walked (n : Nat) (sp : List Int) (od sg : List Nat) (ls : List Ln) (es : List (Int × Int)) : Prop where
  llen : ls.length = n
  elen : es.length = n
  glen : sg.length = n
  nd : od.Nodup
  at' : ∀ i, i < n → ∃ m s, od[i]? = some m ∧ (s = 0 ∨ s = 1) ∧ es[i]? = some ((m : Int), s) ∧ ls[m]? = some (lnAt sp sg i s)
theorem Wk.done {n : Nat} {sp : List Int} {od sg : List Nat} {qs : List (Option Ln)} {es : List (Int × Int)} (h : Wk n n sp od sg qs es) (hp : od.Perm (List.range n)) : ∃ ls : List Ln, qs = ls.map some ∧ Walked n sp od sg ls es := by
  have hl : od.length = n := by simpa using hp.length_eq
  obtain ⟨ls, rfl⟩ := all_some (qs := qs) fun q hq => by
    obtain ⟨m, hm⟩ := List.mem_iff_getElem?.mp hq
    have hlt := (List.getElem?_eq_some_iff.mp hm).1
    rw [h.qlen] at hlt
    have : m ∈ od := hp.mem_iff.mpr (List.mem_range.mpr hlt)
    obtain ⟨i, hi⟩ := List.mem_iff_getElem?.mp this
    have hin := (List.getElem?_eq_some_iff.mp hi).1
    obtain ⟨m2, s, e1, _, _, e4⟩ := h.at' i (by omega)
    rw [hi] at e1; cases e1
    rw [hm] at e4; cases e4
    exact ⟨_, rfl⟩
  refine ⟨ls, rfl, by have := h.qlen; simpa using this, h.elen, h.glen, hp.nodup_iff.mpr List.nodup_range, fun i hi => ?_⟩
  obtain ⟨m, s, e1, e2, e3, e4⟩ := h.at' i hi
  rw [List.getElem?_map] at e4
  obtain ⟨l, e5, e6⟩ := Option.map_eq_some_iff.mp e4
  cases e6
  exact ⟨m, s, e1, e2, e3, e5⟩
theorem Walked.at {n : Nat} {sp : List Int} {od sg : List Nat} {ls : List Ln} {es : List (Int × Int)} (h : Walked n sp od sg ls es) {i : Nat} (hi : i < n) :
    ∃ e, es[i]? = some e ∧ EndOk ls.length e ∧ plc ls e = sp.getD i 0 ∧ plc ls (far e) = sp.getD (i + 1) 0 ∧ cmpy ls e = sg.getD i 0 := by
  obtain ⟨m, s, _, hs, h1, h2⟩ := h.at' i hi
  have hm := (List.getElem?_eq_some_iff.mp h2).1
  refine ⟨_, h1, ⟨by simp, by simpa using hm, by simp only; omega, by simp only; omega⟩, ?_, ?_, ?_⟩
  · unfold plc
    simp only [Int.toNat_natCast, h2]
    rcases hs with rfl | rfl <;> simp [sideOf, lnAt]
  · unfold plc far
    simp only [Int.toNat_natCast, h2]
    rcases hs with rfl | rfl <;> simp [sideOf, lnAt]
  · unfold cmpy
    simp only [Int.toNat_natCast, h2]
    rcases hs with rfl | rfl <;> simp [lnAt]
end Bg
end Lw

set_option maxHeartbeats 4000000
namespace Lw
open PySem Fu
local macro_rules | `(tactic| walk_at "e1") => `(tactic| first
  | with_reducible refine eo_seq ?_ | (with_reducible refine then_nx' ?_; refine ⟨?_, ?_, ?_⟩; rotate_left; · (try dsimp only [List.set, List.length_cons, List.length_nil, List.cons_append, List.nil_append, Nat.zero_add, Nat.reduceAdd]); exact rfl) | with_reducible refine then_rt ?_ | with_reducible refine eo_if ?_ | with_reducible refine eo_ret ?_ | with_reducible refine eo_set ?_ | with_reducible refine eo_asg ?_ | with_reducible refine eo_drop ?_ | with_reducible refine eo_nx ?_ | with_reducible refine eo_par ?_ | with_reducible refine eo_own ?_ | with_reducible refine eo_retN ?_ | with_reducible refine eo_for ?_ | with_reducible refine eo_retO ?_
  | with_reducible refine ev_c ?_ | (with_reducible refine ev_var ?_; refine ⟨_, rfl, ?_⟩) | with_reducible refine ev_bin ?_ | with_reducible refine ev_un ?_ | with_reducible refine ev_nil ?_ | with_reducible refine ev_cons ?_
  | with_reducible refine ev_tup ?_ | with_reducible refine ev_lst ?_ | with_reducible refine ev_call ?_ | with_reducible refine ev_callF ?_ | with_reducible refine ev_isi ?_ | with_reducible refine ev_isi2 ?_ | with_reducible refine ev_andV ?_ | with_reducible refine ev_orV ?_ | with_reducible refine ev_notV ?_
  | with_reducible refine ev_B ?_ | with_reducible refine ev_and ?_ | with_reducible refine ev_or ?_ | with_reducible refine ev_not ?_ | with_reducible refine ev_yes ?_ | with_reducible refine ev_if ?_ | with_reducible refine ev_no ?_ | with_reducible refine ev_so ?_ | with_reducible refine ev_sl ?_ | with_reducible refine ev_items ?_
  | (with_reducible refine ev_ixO ?_; refine ⟨_, _, rfl, rfl, ?_⟩) | (with_reducible refine ev_varO ?_; refine ⟨_, _, rfl, rfl, ?_⟩) | (with_reducible refine ev_lenO ?_; refine ⟨_, _, rfl, rfl, ?_⟩) | (with_reducible refine ev_scrSl ?_; refine ⟨_, rfl, ?_⟩) | (with_reducible refine ev_scrLen ?_; refine ⟨_, rfl, ?_⟩) | (with_reducible refine ev_callScr ?_; refine ⟨_, rfl, ?_⟩) | (with_reducible refine ev_OL ?_; refine ⟨_, _, rfl, rfl, ?_⟩) | with_reducible refine ev_OR ?_ | with_reducible refine ev_rep ?_ | with_reducible refine ev_listRng1 ?_ | with_reducible refine eo_setO ?_
  | with_reducible refine es_name ?_ | with_reducible refine es_tup2 ?_ | with_reducible refine es_tup3 ?_
  | with_reducible refine ed_addI ?_ | with_reducible refine ed_subI ?_ | with_reducible refine ed_cmp ?_ | with_reducible refine ed_eqI ?_ | with_reducible refine ed_neI ?_ | with_reducible refine ed_slT ?_ | with_reducible refine ed_slL ?_ | with_reducible refine ed_lenT ?_ | with_reducible refine ed_lenL ?_ | with_reducible refine ed_lenS ?_ | with_reducible refine ed_inS ?_ | with_reducible refine ed_itT ?_ | with_reducible refine ed_itL ?_ | with_reducible refine ed_tupL ?_ | with_reducible refine ed_tupT ?_ | with_reducible refine ed_listL ?_ | with_reducible refine ed_listT ?_ | with_reducible refine ed_neg ?_ | with_reducible refine ed_max ?_ | with_reducible refine ed_min ?_ | with_reducible refine ed_intB ?_
  | with_reducible refine ev_rng1 ?_ | with_reducible refine ev_rng2 ?_)
local macro_rules | `(tactic| walk_at "sd") => `(tactic| first | rfl | assumption | (simp only [decide_eq_true_eq, decide_eq_false_iff_not, Bool.not_eq_true', Bool.not_eq_false', Bool.and_eq_true, Bool.or_eq_true, List.length_map, List.length_cons, List.length_nil, List.length_append, List.length_range] at *; omega))
local macro_rules | `(tactic| walk_at "e2") => `(tactic| first
  | walk_at "e1" | with_reducible refine ⟨_, rfl, ?_⟩ | with_reducible refine ⟨_, _, rfl, ?_⟩
  | with_reducible refine And.intro (Eq.refl (List.length _)) ?_ | with_reducible refine And.intro (Nat.le_of_ble_eq_true (n := List.length _) rfl) ?_
  | with_reducible refine And.intro (Eq.refl (_ : Sx)) (?_ : Ed _ _)
  | ((with_reducible refine And.intro ?_ (And.intro ?_ (?_ : Ev _ _))); (· rfl); (· rfl))
  | ((with_reducible refine ed_ixT ?_ ?_ ?_); (· decide); (· rfl)) | ((with_reducible refine ed_ixL ?_ ?_ ?_); (· decide); (· rfl)) | ((with_reducible refine ed_at ?_ ?_ ?_); (· decide); (· rfl))
  | ((with_reducible refine ed_modI ?_ ?_); (· first | decide | omega))
  | with_reducible exact gives_nx | ((with_reducible refine gives_rt ?_); (· rfl)) | ((with_reducible refine And.intro ?_ ?_); (· exact rfl); (· with_reducible exact Eq.refl (_ : Sx))))
local macro_rules | `(tactic| walk_at "e") => `(tactic| repeat walk_at "e2")
/-- begin a def's spec -/
local macro_rules | `(tactic| walk_at "i") => `(tactic| simp only [initS, List.map_cons, List.map_nil, List.length_cons, List.length_nil, Nat.reduceAdd, Nat.reduceSub, List.replicate, List.cons_append, List.nil_append])
/-- a known truth decides -/
local macro_rules | `(tactic| walk_at "t") => `(tactic| first | ((with_reducible refine split_t ?_ ?_); (· walk_at "sd")) | ((with_reducible refine split_t' ?_ ?_); (· walk_at "sd")))
local macro_rules | `(tactic| walk_at "f") => `(tactic| first | ((with_reducible refine split_f ?_ ?_); (· walk_at "sd")) | ((with_reducible refine split_f' ?_ ?_); (· walk_at "sd")))
/-- all that is seen in a look -/
local macro_rules | `(tactic| walk_at "v") => `(tactic| (rw [sealAll_mk (by (simp only [List.set_cons_zero, List.set_cons_succ, List.map_cons, List.map_nil, sealS_none, sealS_dat, sealS_scr, sealS_own, List.getElem?_cons_zero, List.getElem?_cons_succ, sealC_lst]; rfl)) (by (simp only [List.set_cons_zero, List.set_cons_succ, List.map_cons, List.map_nil]; rfl))]))
namespace Bg
open Sp
end Bg
end Lw

set_option maxHeartbeats 4000000
namespace Lw
open PySem Fu
local macro_rules | `(tactic| walk_at "e1") => `(tactic| first
  | with_reducible refine eo_seq ?_ | (with_reducible refine then_nx' ?_; refine ⟨?_, ?_, ?_⟩; rotate_left; · (try dsimp only [List.set, List.length_cons, List.length_nil, List.cons_append, List.nil_append, Nat.zero_add, Nat.reduceAdd]); exact rfl) | with_reducible refine then_rt ?_ | with_reducible refine eo_if ?_ | with_reducible refine eo_ret ?_ | with_reducible refine eo_set ?_ | with_reducible refine eo_asg ?_ | with_reducible refine eo_drop ?_ | with_reducible refine eo_nx ?_ | with_reducible refine eo_par ?_ | with_reducible refine eo_own ?_ | with_reducible refine eo_retN ?_ | with_reducible refine eo_for ?_ | with_reducible refine eo_retO ?_
  | with_reducible refine ev_c ?_ | (with_reducible refine ev_var ?_; refine ⟨_, rfl, ?_⟩) | with_reducible refine ev_bin ?_ | with_reducible refine ev_un ?_ | with_reducible refine ev_nil ?_ | with_reducible refine ev_cons ?_
  | with_reducible refine ev_tup ?_ | with_reducible refine ev_lst ?_ | with_reducible refine ev_call ?_ | with_reducible refine ev_callF ?_ | with_reducible refine ev_isi ?_ | with_reducible refine ev_isi2 ?_ | with_reducible refine ev_andV ?_ | with_reducible refine ev_orV ?_ | with_reducible refine ev_notV ?_
  | with_reducible refine ev_B ?_ | with_reducible refine ev_and ?_ | with_reducible refine ev_or ?_ | with_reducible refine ev_not ?_ | with_reducible refine ev_yes ?_ | with_reducible refine ev_if ?_ | with_reducible refine ev_no ?_ | with_reducible refine ev_so ?_ | with_reducible refine ev_sl ?_ | with_reducible refine ev_items ?_
  | (with_reducible refine ev_ixO ?_; refine ⟨_, _, rfl, rfl, ?_⟩) | (with_reducible refine ev_varO ?_; refine ⟨_, _, rfl, rfl, ?_⟩) | (with_reducible refine ev_lenO ?_; refine ⟨_, _, rfl, rfl, ?_⟩) | (with_reducible refine ev_scrSl ?_; refine ⟨_, rfl, ?_⟩) | (with_reducible refine ev_scrLen ?_; refine ⟨_, rfl, ?_⟩) | (with_reducible refine ev_callScr ?_; refine ⟨_, rfl, ?_⟩) | (with_reducible refine ev_OL ?_; refine ⟨_, _, rfl, rfl, ?_⟩) | with_reducible refine ev_OR ?_ | with_reducible refine ev_rep ?_ | with_reducible refine ev_listRng1 ?_ | with_reducible refine eo_setO ?_
  | with_reducible refine es_name ?_ | with_reducible refine es_tup2 ?_ | with_reducible refine es_tup3 ?_
  | with_reducible refine ed_addI ?_ | with_reducible refine ed_subI ?_ | with_reducible refine ed_cmp ?_ | with_reducible refine ed_eqI ?_ | with_reducible refine ed_neI ?_ | with_reducible refine ed_slT ?_ | with_reducible refine ed_slL ?_ | with_reducible refine ed_lenT ?_ | with_reducible refine ed_lenL ?_ | with_reducible refine ed_lenS ?_ | with_reducible refine ed_inS ?_ | with_reducible refine ed_itT ?_ | with_reducible refine ed_itL ?_ | with_reducible refine ed_tupL ?_ | with_reducible refine ed_tupT ?_ | with_reducible refine ed_listL ?_ | with_reducible refine ed_listT ?_ | with_reducible refine ed_neg ?_ | with_reducible refine ed_max ?_ | with_reducible refine ed_min ?_ | with_reducible refine ed_intB ?_
  | with_reducible refine ev_rng1 ?_ | with_reducible refine ev_rng2 ?_)
local macro_rules | `(tactic| walk_at "sd") => `(tactic| first | rfl | assumption | (simp only [decide_eq_true_eq, decide_eq_false_iff_not, Bool.not_eq_true', Bool.not_eq_false', Bool.and_eq_true, Bool.or_eq_true, List.length_map, List.length_cons, List.length_nil, List.length_append, List.length_range] at *; omega))
local macro_rules | `(tactic| walk_at "e2") => `(tactic| first
  | walk_at "e1" | with_reducible refine ⟨_, rfl, ?_⟩ | with_reducible refine ⟨_, _, rfl, ?_⟩
  | with_reducible refine And.intro (Eq.refl (List.length _)) ?_ | with_reducible refine And.intro (Nat.le_of_ble_eq_true (n := List.length _) rfl) ?_
  | with_reducible refine And.intro (Eq.refl (_ : Sx)) (?_ : Ed _ _)
  | ((with_reducible refine And.intro ?_ (And.intro ?_ (?_ : Ev _ _))); (· rfl); (· rfl))
  | ((with_reducible refine ed_ixT ?_ ?_ ?_); (· decide); (· rfl)) | ((with_reducible refine ed_ixL ?_ ?_ ?_); (· decide); (· rfl)) | ((with_reducible refine ed_at ?_ ?_ ?_); (· decide); (· rfl))
  | ((with_reducible refine ed_modI ?_ ?_); (· first | decide | omega))
  | with_reducible exact gives_nx | ((with_reducible refine gives_rt ?_); (· rfl)) | ((with_reducible refine And.intro ?_ ?_); (· exact rfl); (· with_reducible exact Eq.refl (_ : Sx))))
local macro_rules | `(tactic| walk_at "e") => `(tactic| repeat walk_at "e2")
/-- begin a def's spec -/
local macro_rules | `(tactic| walk_at "i") => `(tactic| simp only [initS, List.map_cons, List.map_nil, List.length_cons, List.length_nil, Nat.reduceAdd, Nat.reduceSub, List.replicate, List.cons_append, List.nil_append])
/-- a known truth decides -/
local macro_rules | `(tactic| walk_at "t") => `(tactic| first | ((with_reducible refine split_t ?_ ?_); (· walk_at "sd")) | ((with_reducible refine split_t' ?_ ?_); (· walk_at "sd")))
local macro_rules | `(tactic| walk_at "f") => `(tactic| first | ((with_reducible refine split_f ?_ ?_); (· walk_at "sd")) | ((with_reducible refine split_f' ?_ ?_); (· walk_at "sd")))
/-- all that is seen in a look -/
local macro_rules | `(tactic| walk_at "v") => `(tactic| (rw [sealAll_mk (by (simp only [List.set_cons_zero, List.set_cons_succ, List.map_cons, List.map_nil, sealS_none, sealS_dat, sealS_scr, sealS_own, List.getElem?_cons_zero, List.getElem?_cons_succ, sealC_lst]; rfl)) (by (simp only [List.set_cons_zero, List.set_cons_succ, List.map_cons, List.map_nil]; rfl))]))
theorem mk_eq {a b : List (Option R)} {c d : List (Option Cell)} (h : a = b) (k : c = d) : (⟨a, c⟩ : Sx) = ⟨b, d⟩ := by rw [h, k]
namespace Bg
open Sp
end Bg
end Lw

set_option maxHeartbeats 4000000
namespace Lw
open PySem Fu
local macro_rules | `(tactic| walk_at "e1") => `(tactic| first
  | with_reducible refine eo_seq ?_ | (with_reducible refine then_nx' ?_; refine ⟨?_, ?_, ?_⟩; rotate_left; · (try dsimp only [List.set, List.length_cons, List.length_nil, List.cons_append, List.nil_append, Nat.zero_add, Nat.reduceAdd]); exact rfl) | with_reducible refine then_rt ?_ | with_reducible refine eo_if ?_ | with_reducible refine eo_ret ?_ | with_reducible refine eo_set ?_ | with_reducible refine eo_asg ?_ | with_reducible refine eo_drop ?_ | with_reducible refine eo_nx ?_ | with_reducible refine eo_par ?_ | with_reducible refine eo_own ?_ | with_reducible refine eo_retN ?_ | with_reducible refine eo_for ?_ | with_reducible refine eo_retO ?_
  | with_reducible refine ev_c ?_ | (with_reducible refine ev_var ?_; refine ⟨_, rfl, ?_⟩) | with_reducible refine ev_bin ?_ | with_reducible refine ev_un ?_ | with_reducible refine ev_nil ?_ | with_reducible refine ev_cons ?_
  | with_reducible refine ev_tup ?_ | with_reducible refine ev_lst ?_ | with_reducible refine ev_call ?_ | with_reducible refine ev_callF ?_ | with_reducible refine ev_isi ?_ | with_reducible refine ev_isi2 ?_ | with_reducible refine ev_andV ?_ | with_reducible refine ev_orV ?_ | with_reducible refine ev_notV ?_
  | with_reducible refine ev_B ?_ | with_reducible refine ev_and ?_ | with_reducible refine ev_or ?_ | with_reducible refine ev_not ?_ | with_reducible refine ev_yes ?_ | with_reducible refine ev_if ?_ | with_reducible refine ev_no ?_ | with_reducible refine ev_so ?_ | with_reducible refine ev_sl ?_ | with_reducible refine ev_items ?_
  | (with_reducible refine ev_ixO ?_; refine ⟨_, _, rfl, rfl, ?_⟩) | (with_reducible refine ev_varO ?_; refine ⟨_, _, rfl, rfl, ?_⟩) | (with_reducible refine ev_lenO ?_; refine ⟨_, _, rfl, rfl, ?_⟩) | (with_reducible refine ev_scrSl ?_; refine ⟨_, rfl, ?_⟩) | (with_reducible refine ev_scrLen ?_; refine ⟨_, rfl, ?_⟩) | (with_reducible refine ev_callScr ?_; refine ⟨_, rfl, ?_⟩) | (with_reducible refine ev_OL ?_; refine ⟨_, _, rfl, rfl, ?_⟩) | with_reducible refine ev_OR ?_ | with_reducible refine ev_rep ?_ | with_reducible refine ev_listRng1 ?_ | with_reducible refine eo_setO ?_
  | with_reducible refine es_name ?_ | with_reducible refine es_tup2 ?_ | with_reducible refine es_tup3 ?_
  | with_reducible refine ed_addI ?_ | with_reducible refine ed_subI ?_ | with_reducible refine ed_cmp ?_ | with_reducible refine ed_eqI ?_ | with_reducible refine ed_neI ?_ | with_reducible refine ed_slT ?_ | with_reducible refine ed_slL ?_ | with_reducible refine ed_lenT ?_ | with_reducible refine ed_lenL ?_ | with_reducible refine ed_lenS ?_ | with_reducible refine ed_inS ?_ | with_reducible refine ed_itT ?_ | with_reducible refine ed_itL ?_ | with_reducible refine ed_tupL ?_ | with_reducible refine ed_tupT ?_ | with_reducible refine ed_listL ?_ | with_reducible refine ed_listT ?_ | with_reducible refine ed_neg ?_ | with_reducible refine ed_max ?_ | with_reducible refine ed_min ?_ | with_reducible refine ed_intB ?_
  | with_reducible refine ev_rng1 ?_ | with_reducible refine ev_rng2 ?_)
local macro_rules | `(tactic| walk_at "sd") => `(tactic| first | rfl | assumption | (simp only [decide_eq_true_eq, decide_eq_false_iff_not, Bool.not_eq_true', Bool.not_eq_false', Bool.and_eq_true, Bool.or_eq_true, List.length_map, List.length_cons, List.length_nil, List.length_append, List.length_range] at *; omega))
local macro_rules | `(tactic| walk_at "e2") => `(tactic| first
  | walk_at "e1" | with_reducible refine ⟨_, rfl, ?_⟩ | with_reducible refine ⟨_, _, rfl, ?_⟩
  | with_reducible refine And.intro (Eq.refl (List.length _)) ?_ | with_reducible refine And.intro (Nat.le_of_ble_eq_true (n := List.length _) rfl) ?_
  | with_reducible refine And.intro (Eq.refl (_ : Sx)) (?_ : Ed _ _)
  | ((with_reducible refine And.intro ?_ (And.intro ?_ (?_ : Ev _ _))); (· rfl); (· rfl))
  | ((with_reducible refine ed_ixT ?_ ?_ ?_); (· decide); (· rfl)) | ((with_reducible refine ed_ixL ?_ ?_ ?_); (· decide); (· rfl)) | ((with_reducible refine ed_at ?_ ?_ ?_); (· decide); (· rfl))
  | ((with_reducible refine ed_modI ?_ ?_); (· first | decide | omega))
  | with_reducible exact gives_nx | ((with_reducible refine gives_rt ?_); (· rfl)) | ((with_reducible refine And.intro ?_ ?_); (· exact rfl); (· with_reducible exact Eq.refl (_ : Sx))))
local macro_rules | `(tactic| walk_at "e") => `(tactic| repeat walk_at "e2")
/-- begin a def's spec -/
local macro_rules | `(tactic| walk_at "i") => `(tactic| simp only [initS, List.map_cons, List.map_nil, List.length_cons, List.length_nil, Nat.reduceAdd, Nat.reduceSub, List.replicate, List.cons_append, List.nil_append])
/-- a known truth decides -/
local macro_rules | `(tactic| walk_at "t") => `(tactic| first | ((with_reducible refine split_t ?_ ?_); (· walk_at "sd")) | ((with_reducible refine split_t' ?_ ?_); (· walk_at "sd")))
local macro_rules | `(tactic| walk_at "f") => `(tactic| first | ((with_reducible refine split_f ?_ ?_); (· walk_at "sd")) | ((with_reducible refine split_f' ?_ ?_); (· walk_at "sd")))
/-- all that is seen in a look -/
local macro_rules | `(tactic| walk_at "v") => `(tactic| (rw [sealAll_mk (by (simp only [List.set_cons_zero, List.set_cons_succ, List.map_cons, List.map_nil, sealS_none, sealS_dat, sealS_scr, sealS_own, List.getElem?_cons_zero, List.getElem?_cons_succ, sealC_lst]; rfl)) (by (simp only [List.set_cons_zero, List.set_cons_succ, List.map_cons, List.map_nil]; rfl))]))
/-! ### rounds handed in, places, the other way about: of any data -/
theorem isEn_tup {d : D} {e : Int × Int} (s : IsEn d e) {Q : D → Prop} (q : Q (en e)) : Ed (dTuple [d]) Q := ed_tupQ s q
theorem x_faced_about {es : List (Int × Int)} : m_faced_about [lE es] = some (lE (rv es)) := by
  unfold m_faced_about lE; refine mF_of ?_; walk_at "i"; unfold g_faced_about
  walk_at "e"
  refine ev_mapX (xs := es.reverse) (enc := en) (g := fun e => en (far e)) ?_
  walk_at "e"
  refine ed_rev ?_
  walk_at "e"
  refine ⟨by rw [List.map_reverse], fun e he => ?_, ?_⟩
  · walk_at "e"
    exact Ed.of (x_far_end (isEn_en e)) ⟨rfl, rfl⟩
  · walk_at "e"
    rw [gives_rtI]
    unfold rv
    rw [List.map_map]; rfl
/-! ### turnings -/
def tD (t : List Nat) : D := .tuple (t.map fun i : Nat => PyData.int (i : Int))
/-! ### which turnings may be -/
def mates (ps : List Int) (i : Nat) : List Nat := ((List.range (ps.length - (i + 1))).map fun k => i + 1 + k).filter fun j => decide (ps.getD j 0 = ps.getD i 0)
def pairs (ps : List Int) (n : Nat) : List (List Nat) := (List.range n).flatMap fun i => (mates ps i).map fun j => [i, j]
end Lw

set_option maxHeartbeats 4000000
namespace Lw
open PySem Fu
local macro_rules | `(tactic| walk_at "e1") => `(tactic| first
  | with_reducible refine eo_seq ?_ | (with_reducible refine then_nx' ?_; refine ⟨?_, ?_, ?_⟩; rotate_left; · (try dsimp only [List.set, List.length_cons, List.length_nil, List.cons_append, List.nil_append, Nat.zero_add, Nat.reduceAdd]); exact rfl) | with_reducible refine then_rt ?_ | with_reducible refine eo_if ?_ | with_reducible refine eo_ret ?_ | with_reducible refine eo_set ?_ | with_reducible refine eo_asg ?_ | with_reducible refine eo_drop ?_ | with_reducible refine eo_nx ?_ | with_reducible refine eo_par ?_ | with_reducible refine eo_own ?_ | with_reducible refine eo_retN ?_ | with_reducible refine eo_for ?_ | with_reducible refine eo_retO ?_
  | with_reducible refine ev_c ?_ | (with_reducible refine ev_var ?_; refine ⟨_, rfl, ?_⟩) | with_reducible refine ev_bin ?_ | with_reducible refine ev_un ?_ | with_reducible refine ev_nil ?_ | with_reducible refine ev_cons ?_
  | with_reducible refine ev_tup ?_ | with_reducible refine ev_lst ?_ | with_reducible refine ev_call ?_ | with_reducible refine ev_callF ?_ | with_reducible refine ev_isi ?_ | with_reducible refine ev_isi2 ?_ | with_reducible refine ev_andV ?_ | with_reducible refine ev_orV ?_ | with_reducible refine ev_notV ?_
  | with_reducible refine ev_B ?_ | with_reducible refine ev_and ?_ | with_reducible refine ev_or ?_ | with_reducible refine ev_not ?_ | with_reducible refine ev_yes ?_ | with_reducible refine ev_if ?_ | with_reducible refine ev_no ?_ | with_reducible refine ev_so ?_ | with_reducible refine ev_sl ?_ | with_reducible refine ev_items ?_
  | (with_reducible refine ev_ixO ?_; refine ⟨_, _, rfl, rfl, ?_⟩) | (with_reducible refine ev_varO ?_; refine ⟨_, _, rfl, rfl, ?_⟩) | (with_reducible refine ev_lenO ?_; refine ⟨_, _, rfl, rfl, ?_⟩) | (with_reducible refine ev_scrSl ?_; refine ⟨_, rfl, ?_⟩) | (with_reducible refine ev_scrLen ?_; refine ⟨_, rfl, ?_⟩) | (with_reducible refine ev_callScr ?_; refine ⟨_, rfl, ?_⟩) | (with_reducible refine ev_OL ?_; refine ⟨_, _, rfl, rfl, ?_⟩) | with_reducible refine ev_OR ?_ | with_reducible refine ev_rep ?_ | with_reducible refine ev_listRng1 ?_ | with_reducible refine eo_setO ?_
  | with_reducible refine es_name ?_ | with_reducible refine es_tup2 ?_ | with_reducible refine es_tup3 ?_
  | with_reducible refine ed_addI ?_ | with_reducible refine ed_subI ?_ | with_reducible refine ed_cmp ?_ | with_reducible refine ed_eqI ?_ | with_reducible refine ed_neI ?_ | with_reducible refine ed_slT ?_ | with_reducible refine ed_slL ?_ | with_reducible refine ed_lenT ?_ | with_reducible refine ed_lenL ?_ | with_reducible refine ed_lenS ?_ | with_reducible refine ed_inS ?_ | with_reducible refine ed_itT ?_ | with_reducible refine ed_itL ?_ | with_reducible refine ed_tupL ?_ | with_reducible refine ed_tupT ?_ | with_reducible refine ed_listL ?_ | with_reducible refine ed_listT ?_ | with_reducible refine ed_neg ?_ | with_reducible refine ed_max ?_ | with_reducible refine ed_min ?_ | with_reducible refine ed_intB ?_
  | with_reducible refine ev_rng1 ?_ | with_reducible refine ev_rng2 ?_)
local macro_rules | `(tactic| walk_at "sd") => `(tactic| first | rfl | assumption | (simp only [decide_eq_true_eq, decide_eq_false_iff_not, Bool.not_eq_true', Bool.not_eq_false', Bool.and_eq_true, Bool.or_eq_true, List.length_map, List.length_cons, List.length_nil, List.length_append, List.length_range] at *; omega))
local macro_rules | `(tactic| walk_at "e2") => `(tactic| first
  | walk_at "e1" | with_reducible refine ⟨_, rfl, ?_⟩ | with_reducible refine ⟨_, _, rfl, ?_⟩
  | with_reducible refine And.intro (Eq.refl (List.length _)) ?_ | with_reducible refine And.intro (Nat.le_of_ble_eq_true (n := List.length _) rfl) ?_
  | with_reducible refine And.intro (Eq.refl (_ : Sx)) (?_ : Ed _ _)
  | ((with_reducible refine And.intro ?_ (And.intro ?_ (?_ : Ev _ _))); (· rfl); (· rfl))
  | ((with_reducible refine ed_ixT ?_ ?_ ?_); (· decide); (· rfl)) | ((with_reducible refine ed_ixL ?_ ?_ ?_); (· decide); (· rfl)) | ((with_reducible refine ed_at ?_ ?_ ?_); (· decide); (· rfl))
  | ((with_reducible refine ed_modI ?_ ?_); (· first | decide | omega))
  | with_reducible exact gives_nx | ((with_reducible refine gives_rt ?_); (· rfl)) | ((with_reducible refine And.intro ?_ ?_); (· exact rfl); (· with_reducible exact Eq.refl (_ : Sx))))
local macro_rules | `(tactic| walk_at "e") => `(tactic| repeat walk_at "e2")
/-- begin a def's spec -/
local macro_rules | `(tactic| walk_at "i") => `(tactic| simp only [initS, List.map_cons, List.map_nil, List.length_cons, List.length_nil, Nat.reduceAdd, Nat.reduceSub, List.replicate, List.cons_append, List.nil_append])
/-- a known truth decides -/
local macro_rules | `(tactic| walk_at "t") => `(tactic| first | ((with_reducible refine split_t ?_ ?_); (· walk_at "sd")) | ((with_reducible refine split_t' ?_ ?_); (· walk_at "sd")))
local macro_rules | `(tactic| walk_at "f") => `(tactic| first | ((with_reducible refine split_f ?_ ?_); (· walk_at "sd")) | ((with_reducible refine split_f' ?_ ?_); (· walk_at "sd")))
/-- all that is seen in a look -/
local macro_rules | `(tactic| walk_at "v") => `(tactic| (rw [sealAll_mk (by (simp only [List.set_cons_zero, List.set_cons_succ, List.map_cons, List.map_nil, sealS_none, sealS_dat, sealS_scr, sealS_own, List.getElem?_cons_zero, List.getElem?_cons_succ, sealC_lst]; rfl)) (by (simp only [List.set_cons_zero, List.set_cons_succ, List.map_cons, List.map_nil]; rfl))]))
/-! ### what may raise -/
section
variable {α : Type} {S : Sx} {g h : Sx → Option (Zr Out)} {Z : Zr Out → Prop}
def Oz {α : Type} (x : Option (Zr α)) (Z : Zr α → Prop) : Prop := ∃ r, x = some r ∧ Z r
theorem oz_S {g : Sx → Option Out} (h : Eo (g S) fun o => Z (.ok o)) : Oz (zS g S) Z := by
  obtain ⟨o, e, q⟩ := h
  exact ⟨_, by simp only [zS, e, Option.map_some], q⟩
theorem oz_seq (h1 : Oz (g S) fun r => ∃ S1, r = .ok (.nx S1) ∧ Oz (h S1) Z) : Oz (zSeq g h S) Z := by
  obtain ⟨_, e, S1, rfl, r, e2, q⟩ := h1
  exact ⟨r, by simp only [zSeq, e, Option.bind_some, e2], q⟩
theorem oz_seqE (h1 : Oz (g S) fun r => ∃ e, r = .error e ∧ Z (.error e)) : Oz (zSeq g h S) Z := by
  obtain ⟨_, e, er, rfl, q⟩ := h1
  exact ⟨_, by simp only [zSeq, e, Option.bind_some], q⟩
theorem oz_if {t : M Bool} (h1 : Ev (t S) fun b S1 => (b = true → Oz (g S1) Z) ∧ (b = false → Oz (h S1) Z)) : Oz (zIf t g h S) Z := by
  obtain ⟨b, S1, e, h2, h3⟩ := h1
  cases b with
  | true => obtain ⟨r, e2, q⟩ := h2 rfl; exact ⟨r, by simp only [zIf, e, Option.bind_some, if_true, e2], q⟩
  | false => obtain ⟨r, e2, q⟩ := h3 rfl; exact ⟨r, by simp only [zIf, e, Option.bind_some, Bool.false_eq_true, if_false, e2], q⟩
theorem oz_raise {c : Str} (q : Z (.error (c, S))) : Oz (zRaise c S) Z := ⟨_, rfl, q⟩
theorem oz_beE {f : D → Sx → Option Out} {ge : Sx → Option (Zr (D × Sx))} (h : Oz (ge S) fun r => ∃ e, r = .error e ∧ Z (.error e)) : Oz (zBe ge f S) Z := by
  obtain ⟨_, e, er, rfl, q⟩ := h
  exact ⟨_, by simp only [zBe, e, Option.bind_some], q⟩
theorem oz_set {i : Nat} {ge : Sx → Option (Zr (D × Sx))} (h : Oz (ge S) fun r => ∃ d S1, r = .ok (d, S1) ∧ Z (.ok (.nx ⟨S1.sl.set i (some (.dat d)), S1.os⟩))) : Oz (zSet i ge S) Z := by
  obtain ⟨_, e, d, S1, rfl, q⟩ := h
  exact ⟨_, by simp only [zSet, zBe, e, Option.bind_some, Option.map_some], q⟩
theorem oz_call {n : Nat} {m : List D → Option (Except Str D)} {gs : M (List D)} {Q : Zr (D × Sx) → Prop} (h : Ev (gs S) fun ds S1 => ds.length = n ∧ ∃ r, m ds = some r ∧ (∀ z, r = .ok z → Q (.ok (z, S1))) ∧ (∀ c, r = .error c → Q (.error (c, S1)))) : Oz (zCall n m gs S) Q := by
  obtain ⟨ds, S1, e, hn, r, e2, h1, h2⟩ := h
  cases r with
  | ok z => exact ⟨_, by simp only [zCall, e, Option.bind_some, if_pos hn, e2, Option.map_some], h1 z rfl⟩
  | error c => exact ⟨_, by simp only [zCall, e, Option.bind_some, if_pos hn, e2, Option.map_some], h2 c rfl⟩
/-- what a def's end hands on -/
def ZGives (Q : Except Str D → Prop) : Zr Out → Prop
  | .error e => Q (.error e.1)
  | .ok (.nx _) => Q (.ok .none)
  | .ok (.rt d _) => Q (.ok d)
  | _ => False
theorem mZ_of {n : Nat} {ds : List D} {Q : Except Str D → Prop} (h : Oz (g ⟨initS n ds, []⟩) (ZGives Q)) : ∃ r, mZ n g ds = some r ∧ Q r := by
  obtain ⟨r, e, q⟩ := h
  unfold mZ
  rw [e]
  cases r with
  | error er => exact ⟨_, rfl, q⟩
  | ok o =>
    cases o with
    | nx S => exact ⟨_, rfl, q⟩
    | rt d S => exact ⟨_, rfl, q⟩
    | _ => exact q.elim
theorem eo_try {cs : List Str} {i j : Nat} {Y : Out → Prop} (h : Oz (g S) fun r => (∃ o, r = .ok o ∧ Y o) ∨ ∃ c S1, r = .error (c, S1) ∧ c ∈ cs ∧ i < S1.sl.length ∧ Y (.nx ⟨(S1.sl.set j (some (.exc c))).set i none, S1.os⟩)) : Eo (qTry cs i j g S) Y := by
  obtain ⟨_, e, ⟨o, rfl, q⟩ | ⟨c, S1, rfl, hc, hl, q⟩⟩ := h
  · exact ⟨o, by simp only [qTry, e, Option.bind_some], q⟩
  · exact ⟨_, by simp only [qTry, e, Option.bind_some]; rw [if_pos ⟨hc, hl⟩], q⟩
theorem ev_callX {i : Nat} {c : Str} {z : D} {m : Str → Option D} {Q : D → Sx → Prop} (h : S.sl[i]? = some (some (.exc c))) (e : m c = some z) (q : Q z S) : Ev (gCallX i m S) Q := ⟨_, _, by simp only [gCallX, h, e, Option.map_some], q⟩
end
/-! ### the refusals -/
end Lw

set_option maxHeartbeats 4000000
namespace Lw
open PySem Fu
local macro_rules | `(tactic| walk_at "e1") => `(tactic| first
  | with_reducible refine eo_seq ?_ | (with_reducible refine then_nx' ?_; refine ⟨?_, ?_, ?_⟩; rotate_left; · (try dsimp only [List.set, List.length_cons, List.length_nil, List.cons_append, List.nil_append, Nat.zero_add, Nat.reduceAdd]); exact rfl) | with_reducible refine then_rt ?_ | with_reducible refine eo_if ?_ | with_reducible refine eo_ret ?_ | with_reducible refine eo_set ?_ | with_reducible refine eo_asg ?_ | with_reducible refine eo_drop ?_ | with_reducible refine eo_nx ?_ | with_reducible refine eo_par ?_ | with_reducible refine eo_own ?_ | with_reducible refine eo_retN ?_ | with_reducible refine eo_for ?_ | with_reducible refine eo_retO ?_
  | with_reducible refine ev_c ?_ | (with_reducible refine ev_var ?_; refine ⟨_, rfl, ?_⟩) | with_reducible refine ev_bin ?_ | with_reducible refine ev_un ?_ | with_reducible refine ev_nil ?_ | with_reducible refine ev_cons ?_
  | with_reducible refine ev_tup ?_ | with_reducible refine ev_lst ?_ | with_reducible refine ev_call ?_ | with_reducible refine ev_callF ?_ | with_reducible refine ev_isi ?_ | with_reducible refine ev_isi2 ?_ | with_reducible refine ev_andV ?_ | with_reducible refine ev_orV ?_ | with_reducible refine ev_notV ?_
  | with_reducible refine ev_B ?_ | with_reducible refine ev_and ?_ | with_reducible refine ev_or ?_ | with_reducible refine ev_not ?_ | with_reducible refine ev_yes ?_ | with_reducible refine ev_if ?_ | with_reducible refine ev_no ?_ | with_reducible refine ev_so ?_ | with_reducible refine ev_sl ?_ | with_reducible refine ev_items ?_
  | (with_reducible refine ev_ixO ?_; refine ⟨_, _, rfl, rfl, ?_⟩) | (with_reducible refine ev_varO ?_; refine ⟨_, _, rfl, rfl, ?_⟩) | (with_reducible refine ev_lenO ?_; refine ⟨_, _, rfl, rfl, ?_⟩) | (with_reducible refine ev_scrSl ?_; refine ⟨_, rfl, ?_⟩) | (with_reducible refine ev_scrLen ?_; refine ⟨_, rfl, ?_⟩) | (with_reducible refine ev_callScr ?_; refine ⟨_, rfl, ?_⟩) | (with_reducible refine ev_OL ?_; refine ⟨_, _, rfl, rfl, ?_⟩) | with_reducible refine ev_OR ?_ | with_reducible refine ev_rep ?_ | with_reducible refine ev_listRng1 ?_ | with_reducible refine eo_setO ?_
  | with_reducible refine es_name ?_ | with_reducible refine es_tup2 ?_ | with_reducible refine es_tup3 ?_
  | with_reducible refine ed_addI ?_ | with_reducible refine ed_subI ?_ | with_reducible refine ed_cmp ?_ | with_reducible refine ed_eqI ?_ | with_reducible refine ed_neI ?_ | with_reducible refine ed_slT ?_ | with_reducible refine ed_slL ?_ | with_reducible refine ed_lenT ?_ | with_reducible refine ed_lenL ?_ | with_reducible refine ed_lenS ?_ | with_reducible refine ed_inS ?_ | with_reducible refine ed_itT ?_ | with_reducible refine ed_itL ?_ | with_reducible refine ed_tupL ?_ | with_reducible refine ed_tupT ?_ | with_reducible refine ed_listL ?_ | with_reducible refine ed_listT ?_ | with_reducible refine ed_neg ?_ | with_reducible refine ed_max ?_ | with_reducible refine ed_min ?_ | with_reducible refine ed_intB ?_
  | with_reducible refine ev_rng1 ?_ | with_reducible refine ev_rng2 ?_)
local macro_rules | `(tactic| walk_at "sd") => `(tactic| first | rfl | assumption | (simp only [decide_eq_true_eq, decide_eq_false_iff_not, Bool.not_eq_true', Bool.not_eq_false', Bool.and_eq_true, Bool.or_eq_true, List.length_map, List.length_cons, List.length_nil, List.length_append, List.length_range] at *; omega))
local macro_rules | `(tactic| walk_at "e2") => `(tactic| first
  | walk_at "e1" | with_reducible refine ⟨_, rfl, ?_⟩ | with_reducible refine ⟨_, _, rfl, ?_⟩
  | with_reducible refine And.intro (Eq.refl (List.length _)) ?_ | with_reducible refine And.intro (Nat.le_of_ble_eq_true (n := List.length _) rfl) ?_
  | with_reducible refine And.intro (Eq.refl (_ : Sx)) (?_ : Ed _ _)
  | ((with_reducible refine And.intro ?_ (And.intro ?_ (?_ : Ev _ _))); (· rfl); (· rfl))
  | ((with_reducible refine ed_ixT ?_ ?_ ?_); (· decide); (· rfl)) | ((with_reducible refine ed_ixL ?_ ?_ ?_); (· decide); (· rfl)) | ((with_reducible refine ed_at ?_ ?_ ?_); (· decide); (· rfl))
  | ((with_reducible refine ed_modI ?_ ?_); (· first | decide | omega))
  | with_reducible exact gives_nx | ((with_reducible refine gives_rt ?_); (· rfl)) | ((with_reducible refine And.intro ?_ ?_); (· exact rfl); (· with_reducible exact Eq.refl (_ : Sx))))
local macro_rules | `(tactic| walk_at "e") => `(tactic| repeat walk_at "e2")
/-- begin a def's spec -/
local macro_rules | `(tactic| walk_at "i") => `(tactic| simp only [initS, List.map_cons, List.map_nil, List.length_cons, List.length_nil, Nat.reduceAdd, Nat.reduceSub, List.replicate, List.cons_append, List.nil_append])
/-- a known truth decides -/
local macro_rules | `(tactic| walk_at "t") => `(tactic| first | ((with_reducible refine split_t ?_ ?_); (· walk_at "sd")) | ((with_reducible refine split_t' ?_ ?_); (· walk_at "sd")))
local macro_rules | `(tactic| walk_at "f") => `(tactic| first | ((with_reducible refine split_f ?_ ?_); (· walk_at "sd")) | ((with_reducible refine split_f' ?_ ?_); (· walk_at "sd")))
/-- all that is seen in a look -/
local macro_rules | `(tactic| walk_at "v") => `(tactic| (rw [sealAll_mk (by (simp only [List.set_cons_zero, List.set_cons_succ, List.map_cons, List.map_nil, sealS_none, sealS_dat, sealS_scr, sealS_own, List.getElem?_cons_zero, List.getElem?_cons_succ, sealC_lst]; rfl)) (by (simp only [List.set_cons_zero, List.set_cons_succ, List.map_cons, List.map_nil]; rfl))]))
/-! ### the five deeds -/
end Lw

set_option maxHeartbeats 4000000
namespace Lw
open PySem Fu
local macro_rules | `(tactic| walk_at "e1") => `(tactic| first
  | with_reducible refine eo_seq ?_ | (with_reducible refine then_nx' ?_; refine ⟨?_, ?_, ?_⟩; rotate_left; · (try dsimp only [List.set, List.length_cons, List.length_nil, List.cons_append, List.nil_append, Nat.zero_add, Nat.reduceAdd]); exact rfl) | with_reducible refine then_rt ?_ | with_reducible refine eo_if ?_ | with_reducible refine eo_ret ?_ | with_reducible refine eo_set ?_ | with_reducible refine eo_asg ?_ | with_reducible refine eo_drop ?_ | with_reducible refine eo_nx ?_ | with_reducible refine eo_par ?_ | with_reducible refine eo_own ?_ | with_reducible refine eo_retN ?_ | with_reducible refine eo_for ?_ | with_reducible refine eo_retO ?_
  | with_reducible refine ev_c ?_ | (with_reducible refine ev_var ?_; refine ⟨_, rfl, ?_⟩) | with_reducible refine ev_bin ?_ | with_reducible refine ev_un ?_ | with_reducible refine ev_nil ?_ | with_reducible refine ev_cons ?_
  | with_reducible refine ev_tup ?_ | with_reducible refine ev_lst ?_ | with_reducible refine ev_call ?_ | with_reducible refine ev_callF ?_ | with_reducible refine ev_isi ?_ | with_reducible refine ev_isi2 ?_ | with_reducible refine ev_andV ?_ | with_reducible refine ev_orV ?_ | with_reducible refine ev_notV ?_
  | with_reducible refine ev_B ?_ | with_reducible refine ev_and ?_ | with_reducible refine ev_or ?_ | with_reducible refine ev_not ?_ | with_reducible refine ev_yes ?_ | with_reducible refine ev_if ?_ | with_reducible refine ev_no ?_ | with_reducible refine ev_so ?_ | with_reducible refine ev_sl ?_ | with_reducible refine ev_items ?_
  | (with_reducible refine ev_ixO ?_; refine ⟨_, _, rfl, rfl, ?_⟩) | (with_reducible refine ev_varO ?_; refine ⟨_, _, rfl, rfl, ?_⟩) | (with_reducible refine ev_lenO ?_; refine ⟨_, _, rfl, rfl, ?_⟩) | (with_reducible refine ev_scrSl ?_; refine ⟨_, rfl, ?_⟩) | (with_reducible refine ev_scrLen ?_; refine ⟨_, rfl, ?_⟩) | (with_reducible refine ev_callScr ?_; refine ⟨_, rfl, ?_⟩) | (with_reducible refine ev_OL ?_; refine ⟨_, _, rfl, rfl, ?_⟩) | with_reducible refine ev_OR ?_ | with_reducible refine ev_rep ?_ | with_reducible refine ev_listRng1 ?_ | with_reducible refine eo_setO ?_
  | with_reducible refine es_name ?_ | with_reducible refine es_tup2 ?_ | with_reducible refine es_tup3 ?_
  | with_reducible refine ed_addI ?_ | with_reducible refine ed_subI ?_ | with_reducible refine ed_cmp ?_ | with_reducible refine ed_eqI ?_ | with_reducible refine ed_neI ?_ | with_reducible refine ed_slT ?_ | with_reducible refine ed_slL ?_ | with_reducible refine ed_lenT ?_ | with_reducible refine ed_lenL ?_ | with_reducible refine ed_lenS ?_ | with_reducible refine ed_inS ?_ | with_reducible refine ed_itT ?_ | with_reducible refine ed_itL ?_ | with_reducible refine ed_tupL ?_ | with_reducible refine ed_tupT ?_ | with_reducible refine ed_listL ?_ | with_reducible refine ed_listT ?_ | with_reducible refine ed_neg ?_ | with_reducible refine ed_max ?_ | with_reducible refine ed_min ?_ | with_reducible refine ed_intB ?_
  | with_reducible refine ev_rng1 ?_ | with_reducible refine ev_rng2 ?_)
local macro_rules | `(tactic| walk_at "sd") => `(tactic| first | rfl | assumption | (simp only [decide_eq_true_eq, decide_eq_false_iff_not, Bool.not_eq_true', Bool.not_eq_false', Bool.and_eq_true, Bool.or_eq_true, List.length_map, List.length_cons, List.length_nil, List.length_append, List.length_range] at *; omega))
local macro_rules | `(tactic| walk_at "e2") => `(tactic| first
  | walk_at "e1" | with_reducible refine ⟨_, rfl, ?_⟩ | with_reducible refine ⟨_, _, rfl, ?_⟩
  | with_reducible refine And.intro (Eq.refl (List.length _)) ?_ | with_reducible refine And.intro (Nat.le_of_ble_eq_true (n := List.length _) rfl) ?_
  | with_reducible refine And.intro (Eq.refl (_ : Sx)) (?_ : Ed _ _)
  | ((with_reducible refine And.intro ?_ (And.intro ?_ (?_ : Ev _ _))); (· rfl); (· rfl))
  | ((with_reducible refine ed_ixT ?_ ?_ ?_); (· decide); (· rfl)) | ((with_reducible refine ed_ixL ?_ ?_ ?_); (· decide); (· rfl)) | ((with_reducible refine ed_at ?_ ?_ ?_); (· decide); (· rfl))
  | ((with_reducible refine ed_modI ?_ ?_); (· first | decide | omega))
  | with_reducible exact gives_nx | ((with_reducible refine gives_rt ?_); (· rfl)) | ((with_reducible refine And.intro ?_ ?_); (· exact rfl); (· with_reducible exact Eq.refl (_ : Sx))))
local macro_rules | `(tactic| walk_at "e") => `(tactic| repeat walk_at "e2")
/-- begin a def's spec -/
local macro_rules | `(tactic| walk_at "i") => `(tactic| simp only [initS, List.map_cons, List.map_nil, List.length_cons, List.length_nil, Nat.reduceAdd, Nat.reduceSub, List.replicate, List.cons_append, List.nil_append])
/-- a known truth decides -/
local macro_rules | `(tactic| walk_at "t") => `(tactic| first | ((with_reducible refine split_t ?_ ?_); (· walk_at "sd")) | ((with_reducible refine split_t' ?_ ?_); (· walk_at "sd")))
local macro_rules | `(tactic| walk_at "f") => `(tactic| first | ((with_reducible refine split_f ?_ ?_); (· walk_at "sd")) | ((with_reducible refine split_f' ?_ ?_); (· walk_at "sd")))
/-- all that is seen in a look -/
local macro_rules | `(tactic| walk_at "v") => `(tactic| (rw [sealAll_mk (by (simp only [List.set_cons_zero, List.set_cons_succ, List.map_cons, List.map_nil, sealS_none, sealS_dat, sealS_scr, sealS_own, List.getElem?_cons_zero, List.getElem?_cons_succ, sealC_lst]; rfl)) (by (simp only [List.set_cons_zero, List.set_cons_succ, List.map_cons, List.map_nil]; rfl))]))
/-! ### the deeds, refused or not -/
theorem erz_of {x : Option (Except Str D)} {c : Str} (h : ∃ r, x = some r ∧ r = .error c) : x = some (.error c) := by
  obtain ⟨_, e, rfl⟩ := h
  exact e
section
variable {α : Type} {S : Sx} {g h : Sx → Option (Zr Out)} {Z : Zr Out → Prop}
end
section
variable {w : D} {p : Int} {ls : List Ln} {a b c : D}
theorem place_of {n : Int} {d : D} (h : placeD n d = true) : ∃ i : Int, d = .int i ∧ 0 ≤ i ∧ i < n := by
  cases d <;> simp [placeD] at h
  exact ⟨_, rfl, h.1, h.2⟩
end
end Lw

set_option maxHeartbeats 4000000
namespace Lw
open PySem Fu
local macro_rules | `(tactic| walk_at "e1") => `(tactic| first
  | with_reducible refine eo_seq ?_ | (with_reducible refine then_nx' ?_; refine ⟨?_, ?_, ?_⟩; rotate_left; · (try dsimp only [List.set, List.length_cons, List.length_nil, List.cons_append, List.nil_append, Nat.zero_add, Nat.reduceAdd]); exact rfl) | with_reducible refine then_rt ?_ | with_reducible refine eo_if ?_ | with_reducible refine eo_ret ?_ | with_reducible refine eo_set ?_ | with_reducible refine eo_asg ?_ | with_reducible refine eo_drop ?_ | with_reducible refine eo_nx ?_ | with_reducible refine eo_par ?_ | with_reducible refine eo_own ?_ | with_reducible refine eo_retN ?_ | with_reducible refine eo_for ?_ | with_reducible refine eo_retO ?_
  | with_reducible refine ev_c ?_ | (with_reducible refine ev_var ?_; refine ⟨_, rfl, ?_⟩) | with_reducible refine ev_bin ?_ | with_reducible refine ev_un ?_ | with_reducible refine ev_nil ?_ | with_reducible refine ev_cons ?_
  | with_reducible refine ev_tup ?_ | with_reducible refine ev_lst ?_ | with_reducible refine ev_call ?_ | with_reducible refine ev_callF ?_ | with_reducible refine ev_isi ?_ | with_reducible refine ev_isi2 ?_ | with_reducible refine ev_andV ?_ | with_reducible refine ev_orV ?_ | with_reducible refine ev_notV ?_
  | with_reducible refine ev_B ?_ | with_reducible refine ev_and ?_ | with_reducible refine ev_or ?_ | with_reducible refine ev_not ?_ | with_reducible refine ev_yes ?_ | with_reducible refine ev_if ?_ | with_reducible refine ev_no ?_ | with_reducible refine ev_so ?_ | with_reducible refine ev_sl ?_ | with_reducible refine ev_items ?_
  | (with_reducible refine ev_ixO ?_; refine ⟨_, _, rfl, rfl, ?_⟩) | (with_reducible refine ev_varO ?_; refine ⟨_, _, rfl, rfl, ?_⟩) | (with_reducible refine ev_lenO ?_; refine ⟨_, _, rfl, rfl, ?_⟩) | (with_reducible refine ev_scrSl ?_; refine ⟨_, rfl, ?_⟩) | (with_reducible refine ev_scrLen ?_; refine ⟨_, rfl, ?_⟩) | (with_reducible refine ev_callScr ?_; refine ⟨_, rfl, ?_⟩) | (with_reducible refine ev_OL ?_; refine ⟨_, _, rfl, rfl, ?_⟩) | with_reducible refine ev_OR ?_ | with_reducible refine ev_rep ?_ | with_reducible refine ev_listRng1 ?_ | with_reducible refine eo_setO ?_
  | with_reducible refine es_name ?_ | with_reducible refine es_tup2 ?_ | with_reducible refine es_tup3 ?_
  | with_reducible refine ed_addI ?_ | with_reducible refine ed_subI ?_ | with_reducible refine ed_cmp ?_ | with_reducible refine ed_eqI ?_ | with_reducible refine ed_neI ?_ | with_reducible refine ed_slT ?_ | with_reducible refine ed_slL ?_ | with_reducible refine ed_lenT ?_ | with_reducible refine ed_lenL ?_ | with_reducible refine ed_lenS ?_ | with_reducible refine ed_inS ?_ | with_reducible refine ed_itT ?_ | with_reducible refine ed_itL ?_ | with_reducible refine ed_tupL ?_ | with_reducible refine ed_tupT ?_ | with_reducible refine ed_listL ?_ | with_reducible refine ed_listT ?_ | with_reducible refine ed_neg ?_ | with_reducible refine ed_max ?_ | with_reducible refine ed_min ?_ | with_reducible refine ed_intB ?_
  | with_reducible refine ev_rng1 ?_ | with_reducible refine ev_rng2 ?_)
local macro_rules | `(tactic| walk_at "sd") => `(tactic| first | rfl | assumption | (simp only [decide_eq_true_eq, decide_eq_false_iff_not, Bool.not_eq_true', Bool.not_eq_false', Bool.and_eq_true, Bool.or_eq_true, List.length_map, List.length_cons, List.length_nil, List.length_append, List.length_range] at *; omega))
local macro_rules | `(tactic| walk_at "e2") => `(tactic| first
  | walk_at "e1" | with_reducible refine ⟨_, rfl, ?_⟩ | with_reducible refine ⟨_, _, rfl, ?_⟩
  | with_reducible refine And.intro (Eq.refl (List.length _)) ?_ | with_reducible refine And.intro (Nat.le_of_ble_eq_true (n := List.length _) rfl) ?_
  | with_reducible refine And.intro (Eq.refl (_ : Sx)) (?_ : Ed _ _)
  | ((with_reducible refine And.intro ?_ (And.intro ?_ (?_ : Ev _ _))); (· rfl); (· rfl))
  | ((with_reducible refine ed_ixT ?_ ?_ ?_); (· decide); (· rfl)) | ((with_reducible refine ed_ixL ?_ ?_ ?_); (· decide); (· rfl)) | ((with_reducible refine ed_at ?_ ?_ ?_); (· decide); (· rfl))
  | ((with_reducible refine ed_modI ?_ ?_); (· first | decide | omega))
  | with_reducible exact gives_nx | ((with_reducible refine gives_rt ?_); (· rfl)) | ((with_reducible refine And.intro ?_ ?_); (· exact rfl); (· with_reducible exact Eq.refl (_ : Sx))))
local macro_rules | `(tactic| walk_at "e") => `(tactic| repeat walk_at "e2")
/-- begin a def's spec -/
local macro_rules | `(tactic| walk_at "i") => `(tactic| simp only [initS, List.map_cons, List.map_nil, List.length_cons, List.length_nil, Nat.reduceAdd, Nat.reduceSub, List.replicate, List.cons_append, List.nil_append])
/-- a known truth decides -/
local macro_rules | `(tactic| walk_at "t") => `(tactic| first | ((with_reducible refine split_t ?_ ?_); (· walk_at "sd")) | ((with_reducible refine split_t' ?_ ?_); (· walk_at "sd")))
local macro_rules | `(tactic| walk_at "f") => `(tactic| first | ((with_reducible refine split_f ?_ ?_); (· walk_at "sd")) | ((with_reducible refine split_f' ?_ ?_); (· walk_at "sd")))
/-- all that is seen in a look -/
local macro_rules | `(tactic| walk_at "v") => `(tactic| (rw [sealAll_mk (by (simp only [List.set_cons_zero, List.set_cons_succ, List.map_cons, List.map_nil, sealS_none, sealS_dat, sealS_scr, sealS_own, List.getElem?_cons_zero, List.getElem?_cons_succ, sealC_lst]; rfl)) (by (simp only [List.set_cons_zero, List.set_cons_succ, List.map_cons, List.map_nil]; rfl))]))
namespace Rl
open Lw
def isS (x : Option D) (s : Str) : Bool := match x with
  | some (.str z) => decide (z = s)
  | _ => false
theorem isS_of {x : Option D} {s : Str} (h : isS x s = true) : x = some (.str s) := by
  unfold isS at h
  split at h
  · rw [of_decide_eq_true h]
  · cases h
def told : Except Str D → Str
  | .ok _ => "none"
  | .error c => c
end Rl
end Lw

set_option maxHeartbeats 4000000
namespace Lw
open PySem Fu
local macro_rules | `(tactic| walk_at "e1") => `(tactic| first
  | with_reducible refine eo_seq ?_ | (with_reducible refine then_nx' ?_; refine ⟨?_, ?_, ?_⟩; rotate_left; · (try dsimp only [List.set, List.length_cons, List.length_nil, List.cons_append, List.nil_append, Nat.zero_add, Nat.reduceAdd]); exact rfl) | with_reducible refine then_rt ?_ | with_reducible refine eo_if ?_ | with_reducible refine eo_ret ?_ | with_reducible refine eo_set ?_ | with_reducible refine eo_asg ?_ | with_reducible refine eo_drop ?_ | with_reducible refine eo_nx ?_ | with_reducible refine eo_par ?_ | with_reducible refine eo_own ?_ | with_reducible refine eo_retN ?_ | with_reducible refine eo_for ?_ | with_reducible refine eo_retO ?_
  | with_reducible refine ev_c ?_ | (with_reducible refine ev_var ?_; refine ⟨_, rfl, ?_⟩) | with_reducible refine ev_bin ?_ | with_reducible refine ev_un ?_ | with_reducible refine ev_nil ?_ | with_reducible refine ev_cons ?_
  | with_reducible refine ev_tup ?_ | with_reducible refine ev_lst ?_ | with_reducible refine ev_call ?_ | with_reducible refine ev_callF ?_ | with_reducible refine ev_isi ?_ | with_reducible refine ev_isi2 ?_ | with_reducible refine ev_andV ?_ | with_reducible refine ev_orV ?_ | with_reducible refine ev_notV ?_
  | with_reducible refine ev_B ?_ | with_reducible refine ev_and ?_ | with_reducible refine ev_or ?_ | with_reducible refine ev_not ?_ | with_reducible refine ev_yes ?_ | with_reducible refine ev_if ?_ | with_reducible refine ev_no ?_ | with_reducible refine ev_so ?_ | with_reducible refine ev_sl ?_ | with_reducible refine ev_items ?_
  | (with_reducible refine ev_ixO ?_; refine ⟨_, _, rfl, rfl, ?_⟩) | (with_reducible refine ev_varO ?_; refine ⟨_, _, rfl, rfl, ?_⟩) | (with_reducible refine ev_lenO ?_; refine ⟨_, _, rfl, rfl, ?_⟩) | (with_reducible refine ev_scrSl ?_; refine ⟨_, rfl, ?_⟩) | (with_reducible refine ev_scrLen ?_; refine ⟨_, rfl, ?_⟩) | (with_reducible refine ev_callScr ?_; refine ⟨_, rfl, ?_⟩) | (with_reducible refine ev_OL ?_; refine ⟨_, _, rfl, rfl, ?_⟩) | with_reducible refine ev_OR ?_ | with_reducible refine ev_rep ?_ | with_reducible refine ev_listRng1 ?_ | with_reducible refine eo_setO ?_
  | with_reducible refine es_name ?_ | with_reducible refine es_tup2 ?_ | with_reducible refine es_tup3 ?_
  | with_reducible refine ed_addI ?_ | with_reducible refine ed_subI ?_ | with_reducible refine ed_cmp ?_ | with_reducible refine ed_eqI ?_ | with_reducible refine ed_neI ?_ | with_reducible refine ed_slT ?_ | with_reducible refine ed_slL ?_ | with_reducible refine ed_lenT ?_ | with_reducible refine ed_lenL ?_ | with_reducible refine ed_lenS ?_ | with_reducible refine ed_inS ?_ | with_reducible refine ed_itT ?_ | with_reducible refine ed_itL ?_ | with_reducible refine ed_tupL ?_ | with_reducible refine ed_tupT ?_ | with_reducible refine ed_listL ?_ | with_reducible refine ed_listT ?_ | with_reducible refine ed_neg ?_ | with_reducible refine ed_max ?_ | with_reducible refine ed_min ?_ | with_reducible refine ed_intB ?_
  | with_reducible refine ev_rng1 ?_ | with_reducible refine ev_rng2 ?_)
local macro_rules | `(tactic| walk_at "sd") => `(tactic| first | rfl | assumption | (simp only [decide_eq_true_eq, decide_eq_false_iff_not, Bool.not_eq_true', Bool.not_eq_false', Bool.and_eq_true, Bool.or_eq_true, List.length_map, List.length_cons, List.length_nil, List.length_append, List.length_range] at *; omega))
local macro_rules | `(tactic| walk_at "e2") => `(tactic| first
  | walk_at "e1" | with_reducible refine ⟨_, rfl, ?_⟩ | with_reducible refine ⟨_, _, rfl, ?_⟩
  | with_reducible refine And.intro (Eq.refl (List.length _)) ?_ | with_reducible refine And.intro (Nat.le_of_ble_eq_true (n := List.length _) rfl) ?_
  | with_reducible refine And.intro (Eq.refl (_ : Sx)) (?_ : Ed _ _)
  | ((with_reducible refine And.intro ?_ (And.intro ?_ (?_ : Ev _ _))); (· rfl); (· rfl))
  | ((with_reducible refine ed_ixT ?_ ?_ ?_); (· decide); (· rfl)) | ((with_reducible refine ed_ixL ?_ ?_ ?_); (· decide); (· rfl)) | ((with_reducible refine ed_at ?_ ?_ ?_); (· decide); (· rfl))
  | ((with_reducible refine ed_modI ?_ ?_); (· first | decide | omega))
  | with_reducible exact gives_nx | ((with_reducible refine gives_rt ?_); (· rfl)) | ((with_reducible refine And.intro ?_ ?_); (· exact rfl); (· with_reducible exact Eq.refl (_ : Sx))))
local macro_rules | `(tactic| walk_at "e") => `(tactic| repeat walk_at "e2")
/-- begin a def's spec -/
local macro_rules | `(tactic| walk_at "i") => `(tactic| simp only [initS, List.map_cons, List.map_nil, List.length_cons, List.length_nil, Nat.reduceAdd, Nat.reduceSub, List.replicate, List.cons_append, List.nil_append])
/-- a known truth decides -/
local macro_rules | `(tactic| walk_at "t") => `(tactic| first | ((with_reducible refine split_t ?_ ?_); (· walk_at "sd")) | ((with_reducible refine split_t' ?_ ?_); (· walk_at "sd")))
local macro_rules | `(tactic| walk_at "f") => `(tactic| first | ((with_reducible refine split_f ?_ ?_); (· walk_at "sd")) | ((with_reducible refine split_f' ?_ ?_); (· walk_at "sd")))
/-- all that is seen in a look -/
local macro_rules | `(tactic| walk_at "v") => `(tactic| (rw [sealAll_mk (by (simp only [List.set_cons_zero, List.set_cons_succ, List.map_cons, List.map_nil, sealS_none, sealS_dat, sealS_scr, sealS_own, List.getElem?_cons_zero, List.getElem?_cons_succ, sealC_lst]; rfl)) (by (simp only [List.set_cons_zero, List.set_cons_succ, List.map_cons, List.map_nil]; rfl))]))
/-! ### what is no ride is refused -/
theorem oz_callE {n : Nat} {m : List D → Option (Except Str D)} {gs : M (List D)} {S : Sx} {c : Str} {Q : Zr (D × Sx) → Prop} (h : Ev (gs S) fun ds S1 => ds.length = n ∧ m ds = some (.error c) ∧ Q (.error (c, S1))) : Oz (zCall n m gs S) Q := by
  obtain ⟨ds, S1, e, hn, hm, q⟩ := h
  exact oz_call ⟨ds, S1, e, hn, _, hm, (fun z e' => nomatch e'), fun c' e' => by cases e'; exact q⟩
end Lw

set_option maxHeartbeats 4000000
namespace Lw
open PySem Fu
local macro_rules | `(tactic| walk_at "e1") => `(tactic| first
  | with_reducible refine eo_seq ?_ | (with_reducible refine then_nx' ?_; refine ⟨?_, ?_, ?_⟩; rotate_left; · (try dsimp only [List.set, List.length_cons, List.length_nil, List.cons_append, List.nil_append, Nat.zero_add, Nat.reduceAdd]); exact rfl) | with_reducible refine then_rt ?_ | with_reducible refine eo_if ?_ | with_reducible refine eo_ret ?_ | with_reducible refine eo_set ?_ | with_reducible refine eo_asg ?_ | with_reducible refine eo_drop ?_ | with_reducible refine eo_nx ?_ | with_reducible refine eo_par ?_ | with_reducible refine eo_own ?_ | with_reducible refine eo_retN ?_ | with_reducible refine eo_for ?_ | with_reducible refine eo_retO ?_
  | with_reducible refine ev_c ?_ | (with_reducible refine ev_var ?_; refine ⟨_, rfl, ?_⟩) | with_reducible refine ev_bin ?_ | with_reducible refine ev_un ?_ | with_reducible refine ev_nil ?_ | with_reducible refine ev_cons ?_
  | with_reducible refine ev_tup ?_ | with_reducible refine ev_lst ?_ | with_reducible refine ev_call ?_ | with_reducible refine ev_callF ?_ | with_reducible refine ev_isi ?_ | with_reducible refine ev_isi2 ?_ | with_reducible refine ev_andV ?_ | with_reducible refine ev_orV ?_ | with_reducible refine ev_notV ?_
  | with_reducible refine ev_B ?_ | with_reducible refine ev_and ?_ | with_reducible refine ev_or ?_ | with_reducible refine ev_not ?_ | with_reducible refine ev_yes ?_ | with_reducible refine ev_if ?_ | with_reducible refine ev_no ?_ | with_reducible refine ev_so ?_ | with_reducible refine ev_sl ?_ | with_reducible refine ev_items ?_
  | (with_reducible refine ev_ixO ?_; refine ⟨_, _, rfl, rfl, ?_⟩) | (with_reducible refine ev_varO ?_; refine ⟨_, _, rfl, rfl, ?_⟩) | (with_reducible refine ev_lenO ?_; refine ⟨_, _, rfl, rfl, ?_⟩) | (with_reducible refine ev_scrSl ?_; refine ⟨_, rfl, ?_⟩) | (with_reducible refine ev_scrLen ?_; refine ⟨_, rfl, ?_⟩) | (with_reducible refine ev_callScr ?_; refine ⟨_, rfl, ?_⟩) | (with_reducible refine ev_OL ?_; refine ⟨_, _, rfl, rfl, ?_⟩) | with_reducible refine ev_OR ?_ | with_reducible refine ev_rep ?_ | with_reducible refine ev_listRng1 ?_ | with_reducible refine eo_setO ?_
  | with_reducible refine es_name ?_ | with_reducible refine es_tup2 ?_ | with_reducible refine es_tup3 ?_
  | with_reducible refine ed_addI ?_ | with_reducible refine ed_subI ?_ | with_reducible refine ed_cmp ?_ | with_reducible refine ed_eqI ?_ | with_reducible refine ed_neI ?_ | with_reducible refine ed_slT ?_ | with_reducible refine ed_slL ?_ | with_reducible refine ed_lenT ?_ | with_reducible refine ed_lenL ?_ | with_reducible refine ed_lenS ?_ | with_reducible refine ed_inS ?_ | with_reducible refine ed_itT ?_ | with_reducible refine ed_itL ?_ | with_reducible refine ed_tupL ?_ | with_reducible refine ed_tupT ?_ | with_reducible refine ed_listL ?_ | with_reducible refine ed_listT ?_ | with_reducible refine ed_neg ?_ | with_reducible refine ed_max ?_ | with_reducible refine ed_min ?_ | with_reducible refine ed_intB ?_
  | with_reducible refine ev_rng1 ?_ | with_reducible refine ev_rng2 ?_)
local macro_rules | `(tactic| walk_at "sd") => `(tactic| first | rfl | assumption | (simp only [decide_eq_true_eq, decide_eq_false_iff_not, Bool.not_eq_true', Bool.not_eq_false', Bool.and_eq_true, Bool.or_eq_true, List.length_map, List.length_cons, List.length_nil, List.length_append, List.length_range] at *; omega))
local macro_rules | `(tactic| walk_at "e2") => `(tactic| first
  | walk_at "e1" | with_reducible refine ⟨_, rfl, ?_⟩ | with_reducible refine ⟨_, _, rfl, ?_⟩
  | with_reducible refine And.intro (Eq.refl (List.length _)) ?_ | with_reducible refine And.intro (Nat.le_of_ble_eq_true (n := List.length _) rfl) ?_
  | with_reducible refine And.intro (Eq.refl (_ : Sx)) (?_ : Ed _ _)
  | ((with_reducible refine And.intro ?_ (And.intro ?_ (?_ : Ev _ _))); (· rfl); (· rfl))
  | ((with_reducible refine ed_ixT ?_ ?_ ?_); (· decide); (· rfl)) | ((with_reducible refine ed_ixL ?_ ?_ ?_); (· decide); (· rfl)) | ((with_reducible refine ed_at ?_ ?_ ?_); (· decide); (· rfl))
  | ((with_reducible refine ed_modI ?_ ?_); (· first | decide | omega))
  | with_reducible exact gives_nx | ((with_reducible refine gives_rt ?_); (· rfl)) | ((with_reducible refine And.intro ?_ ?_); (· exact rfl); (· with_reducible exact Eq.refl (_ : Sx))))
local macro_rules | `(tactic| walk_at "e") => `(tactic| repeat walk_at "e2")
/-- begin a def's spec -/
local macro_rules | `(tactic| walk_at "i") => `(tactic| simp only [initS, List.map_cons, List.map_nil, List.length_cons, List.length_nil, Nat.reduceAdd, Nat.reduceSub, List.replicate, List.cons_append, List.nil_append])
/-- a known truth decides -/
local macro_rules | `(tactic| walk_at "t") => `(tactic| first | ((with_reducible refine split_t ?_ ?_); (· walk_at "sd")) | ((with_reducible refine split_t' ?_ ?_); (· walk_at "sd")))
local macro_rules | `(tactic| walk_at "f") => `(tactic| first | ((with_reducible refine split_f ?_ ?_); (· walk_at "sd")) | ((with_reducible refine split_f' ?_ ?_); (· walk_at "sd")))
/-- all that is seen in a look -/
local macro_rules | `(tactic| walk_at "v") => `(tactic| (rw [sealAll_mk (by (simp only [List.set_cons_zero, List.set_cons_succ, List.map_cons, List.map_nil, sealS_none, sealS_dat, sealS_scr, sealS_own, List.getElem?_cons_zero, List.getElem?_cons_succ, sealC_lst]; rfl)) (by (simp only [List.set_cons_zero, List.set_cons_succ, List.map_cons, List.map_nil]; rfl))]))
def rotD (es : List (Int × Int)) : D → D
  | .int k => lE (rot k.toNat es)
  | d => d
def rots (fs : List (Int × Int)) : List (List (Int × Int)) := (List.range fs.length).map fun k => rot k fs
theorem rots_data (fs : List (Int × Int)) (n : Nat) (hn : n = fs.length) : (rng 0 n).map (rotD fs) = (rots fs).map lE := by
  subst hn
  unfold rng rots
  rw [List.map_map, List.map_map]
  apply List.map_congr_left
  intro k _
  show lE (rot ((0 : Int) + (k : Int)).toNat fs) = lE (rot k fs)
  rw [show ((0 : Int) + (k : Int)).toNat = k by omega]
theorem x_all_ways {es : List (Int × Int)} (hz : es.length ≤ 4000) : m_all_ways [lE es] = some (.list ((ways es).map lE)) := by
  have hrl := rv_len es
  unfold m_all_ways; refine mF_of ?_; walk_at "i"; unfold g_all_ways
  walk_at "e"
  refine Ed.of x_faced_about ?_
  walk_at "e"
  refine eo_loopX (xs := [es, rv es]) (enc := lE) (fun i S => ∃ x2 x3 acc, S = ⟨[some (.dat (lE es)), some (.own 0), x2, x3], [some (.lst (acc.map lE))]⟩ ∧ ((i = 0 ∧ acc = []) ∨ (i = 1 ∧ acc = rots es) ∨ (i = 2 ∧ acc = rots es ++ rots (rv es)))) ⟨_, _, [], rfl, .inl ⟨rfl, rfl⟩⟩ ?_ ?_
  · rintro i fs S hx ⟨x2, x3, acc, rfl, hi⟩
    have hf : fs.length = es.length ∧ ((i = 0 ∧ fs = es) ∨ (i = 1 ∧ fs = rv es)) := by
      match i, hx with
      | 0, h => simp at h; subst h; exact ⟨rfl, .inl ⟨rfl, rfl⟩⟩
      | 1, h => simp at h; subst h; exact ⟨hrl, .inr ⟨rfl, rfl⟩⟩
    have ha : acc.length ≤ 4000 := by
      rcases hi with ⟨_, rfl⟩ | ⟨_, rfl⟩ | ⟨h2, rfl⟩
      · simp
      · simp [rots]; exact hz
      · rcases hf.2 with ⟨h, _⟩ | ⟨h, _⟩ <;> omega
    walk_at "e"
    refine ev_ext ⟨_, _, rfl, rfl, ?_⟩
    refine ev_map (rotD fs) ?_
    walk_at "e"
    refine ed_lenQ (sq_l _) ?_
    walk_at "e"
    rw [List.length_map]
    refine ⟨by omega, by omega, fun d hd => ?_, ?_⟩
    · obtain ⟨k, hk, rfl⟩ := rng_mem hd
      walk_at "e"
      show Ed (dSl (.list (fs.map en)) _ _) _
      walk_at "e"
      show Ed (dSl (.list (fs.map en)) _ _) _
      walk_at "e"
      rw [cut_from (by omega), cut_to (by omega)]
      refine ed_addL (by simp; omega) ⟨?_, rfl⟩
      simp only [rotD, lE, rot, List.map_append, List.map_drop, List.map_take]
    · rw [rots_data fs _ (by simp)]
      have hac : (acc ++ rots fs).map lE = acc.map lE ++ (rots fs).map lE := List.map_append
      refine ⟨_, rfl, _, rfl, by simp [rots]; omega, _, rfl, some (.dat (lE fs)), x3, acc ++ rots fs, mk_eq rfl (by rw [hac]; rfl), ?_⟩
      rcases hi with ⟨rfl, rfl⟩ | ⟨rfl, rfl⟩ | ⟨rfl, _⟩
      · rcases hf.2 with ⟨_, rfl⟩ | ⟨h, _⟩
        · exact .inr (.inl ⟨rfl, rfl⟩)
        · omega
      · rcases hf.2 with ⟨h, _⟩ | ⟨_, rfl⟩
        · omega
        · exact .inr (.inr ⟨rfl, rfl⟩)
      · rcases hf.2 with ⟨h, _⟩ | ⟨h, _⟩ <;> omega
  · rintro S ⟨x2, x3, acc, rfl, hi⟩
    have : acc = ways es := by
      rcases hi with ⟨h, _⟩ | ⟨h, _⟩ | ⟨_, rfl⟩
      · simp at h
      · simp at h
      · unfold rots ways; rw [hrl]
    subst this
    walk_at "e"
end Lw

set_option maxHeartbeats 4000000
namespace Lw
open PySem Fu
local macro_rules | `(tactic| walk_at "e1") => `(tactic| first
  | with_reducible refine eo_seq ?_ | (with_reducible refine then_nx' ?_; refine ⟨?_, ?_, ?_⟩; rotate_left; · (try dsimp only [List.set, List.length_cons, List.length_nil, List.cons_append, List.nil_append, Nat.zero_add, Nat.reduceAdd]); exact rfl) | with_reducible refine then_rt ?_ | with_reducible refine eo_if ?_ | with_reducible refine eo_ret ?_ | with_reducible refine eo_set ?_ | with_reducible refine eo_asg ?_ | with_reducible refine eo_drop ?_ | with_reducible refine eo_nx ?_ | with_reducible refine eo_par ?_ | with_reducible refine eo_own ?_ | with_reducible refine eo_retN ?_ | with_reducible refine eo_for ?_ | with_reducible refine eo_retO ?_
  | with_reducible refine ev_c ?_ | (with_reducible refine ev_var ?_; refine ⟨_, rfl, ?_⟩) | with_reducible refine ev_bin ?_ | with_reducible refine ev_un ?_ | with_reducible refine ev_nil ?_ | with_reducible refine ev_cons ?_
  | with_reducible refine ev_tup ?_ | with_reducible refine ev_lst ?_ | with_reducible refine ev_call ?_ | with_reducible refine ev_callF ?_ | with_reducible refine ev_isi ?_ | with_reducible refine ev_isi2 ?_ | with_reducible refine ev_andV ?_ | with_reducible refine ev_orV ?_ | with_reducible refine ev_notV ?_
  | with_reducible refine ev_B ?_ | with_reducible refine ev_and ?_ | with_reducible refine ev_or ?_ | with_reducible refine ev_not ?_ | with_reducible refine ev_yes ?_ | with_reducible refine ev_if ?_ | with_reducible refine ev_no ?_ | with_reducible refine ev_so ?_ | with_reducible refine ev_sl ?_ | with_reducible refine ev_items ?_
  | (with_reducible refine ev_ixO ?_; refine ⟨_, _, rfl, rfl, ?_⟩) | (with_reducible refine ev_varO ?_; refine ⟨_, _, rfl, rfl, ?_⟩) | (with_reducible refine ev_lenO ?_; refine ⟨_, _, rfl, rfl, ?_⟩) | (with_reducible refine ev_scrSl ?_; refine ⟨_, rfl, ?_⟩) | (with_reducible refine ev_scrLen ?_; refine ⟨_, rfl, ?_⟩) | (with_reducible refine ev_callScr ?_; refine ⟨_, rfl, ?_⟩) | (with_reducible refine ev_OL ?_; refine ⟨_, _, rfl, rfl, ?_⟩) | with_reducible refine ev_OR ?_ | with_reducible refine ev_rep ?_ | with_reducible refine ev_listRng1 ?_ | with_reducible refine eo_setO ?_
  | with_reducible refine es_name ?_ | with_reducible refine es_tup2 ?_ | with_reducible refine es_tup3 ?_
  | with_reducible refine ed_addI ?_ | with_reducible refine ed_subI ?_ | with_reducible refine ed_cmp ?_ | with_reducible refine ed_eqI ?_ | with_reducible refine ed_neI ?_ | with_reducible refine ed_slT ?_ | with_reducible refine ed_slL ?_ | with_reducible refine ed_lenT ?_ | with_reducible refine ed_lenL ?_ | with_reducible refine ed_lenS ?_ | with_reducible refine ed_inS ?_ | with_reducible refine ed_itT ?_ | with_reducible refine ed_itL ?_ | with_reducible refine ed_tupL ?_ | with_reducible refine ed_tupT ?_ | with_reducible refine ed_listL ?_ | with_reducible refine ed_listT ?_ | with_reducible refine ed_neg ?_ | with_reducible refine ed_max ?_ | with_reducible refine ed_min ?_ | with_reducible refine ed_intB ?_
  | with_reducible refine ev_rng1 ?_ | with_reducible refine ev_rng2 ?_)
local macro_rules | `(tactic| walk_at "sd") => `(tactic| first | rfl | assumption | (simp only [decide_eq_true_eq, decide_eq_false_iff_not, Bool.not_eq_true', Bool.not_eq_false', Bool.and_eq_true, Bool.or_eq_true, List.length_map, List.length_cons, List.length_nil, List.length_append, List.length_range] at *; omega))
local macro_rules | `(tactic| walk_at "e2") => `(tactic| first
  | walk_at "e1" | with_reducible refine ⟨_, rfl, ?_⟩ | with_reducible refine ⟨_, _, rfl, ?_⟩
  | with_reducible refine And.intro (Eq.refl (List.length _)) ?_ | with_reducible refine And.intro (Nat.le_of_ble_eq_true (n := List.length _) rfl) ?_
  | with_reducible refine And.intro (Eq.refl (_ : Sx)) (?_ : Ed _ _)
  | ((with_reducible refine And.intro ?_ (And.intro ?_ (?_ : Ev _ _))); (· rfl); (· rfl))
  | ((with_reducible refine ed_ixT ?_ ?_ ?_); (· decide); (· rfl)) | ((with_reducible refine ed_ixL ?_ ?_ ?_); (· decide); (· rfl)) | ((with_reducible refine ed_at ?_ ?_ ?_); (· decide); (· rfl))
  | ((with_reducible refine ed_modI ?_ ?_); (· first | decide | omega))
  | with_reducible exact gives_nx | ((with_reducible refine gives_rt ?_); (· rfl)) | ((with_reducible refine And.intro ?_ ?_); (· exact rfl); (· with_reducible exact Eq.refl (_ : Sx))))
local macro_rules | `(tactic| walk_at "e") => `(tactic| repeat walk_at "e2")
/-- begin a def's spec -/
local macro_rules | `(tactic| walk_at "i") => `(tactic| simp only [initS, List.map_cons, List.map_nil, List.length_cons, List.length_nil, Nat.reduceAdd, Nat.reduceSub, List.replicate, List.cons_append, List.nil_append])
/-- a known truth decides -/
local macro_rules | `(tactic| walk_at "t") => `(tactic| first | ((with_reducible refine split_t ?_ ?_); (· walk_at "sd")) | ((with_reducible refine split_t' ?_ ?_); (· walk_at "sd")))
local macro_rules | `(tactic| walk_at "f") => `(tactic| first | ((with_reducible refine split_f ?_ ?_); (· walk_at "sd")) | ((with_reducible refine split_f' ?_ ?_); (· walk_at "sd")))
/-- all that is seen in a look -/
local macro_rules | `(tactic| walk_at "v") => `(tactic| (rw [sealAll_mk (by (simp only [List.set_cons_zero, List.set_cons_succ, List.map_cons, List.map_nil, sealS_none, sealS_dat, sealS_scr, sealS_own, List.getElem?_cons_zero, List.getElem?_cons_succ, sealC_lst]; rfl)) (by (simp only [List.set_cons_zero, List.set_cons_succ, List.map_cons, List.map_nil]; rfl))]))
/-! ### rides and rounds refused, whatever is handed in -/
theorem okv_of {x : Option (Except Str D)} {z : D} (h : ∃ r, x = some r ∧ r = .ok z) : x = some (.ok z) := by
  obtain ⟨_, e, rfl⟩ := h
  exact e
theorem z_nd_ok {w d : D} {p : Int} {ls : List Ln} {es : List (Int × Int)} (hw : Web w p ls) (h : WbOk p ls) (hd : IsRide d es) (hz : es.length ≤ 4000) (hr : roundB ls es = true) : m_need_round_Z [w, d] = some (.ok (lE es)) := by
  have hr' : roundD ls d = true := by rw [roundD_of hd]; exact hr
  obtain ⟨ps, s, rfl, hp⟩ := hd
  have hl : lenD d ≤ 4000 := by rw [lenD_of s]; simpa using hz
  unfold m_need_round_Z; refine okv_of (mZ_of ?_); walk_at "i"; unfold g_need_round_Z
  refine oz_seq (oz_if ?_)
  walk_at "e"
  refine Ed.of (x_round_is hw h d hl) ?_
  rw [hr']
  walk_at "e"
  refine split_f rfl (oz_S ?_)
  walk_at "e"
  refine oz_S ?_
  walk_at "e"
  refine ev_mapX (xs := ps) (enc := (·.1)) (g := fun q => en q.2) ?_
  walk_at "e"
  refine ed_itQ s ⟨rfl, fun q hq => ?_, ?_⟩
  · walk_at "e"
    exact isEn_tup (hp q hq) ⟨rfl, rfl⟩
  · walk_at "e"
    show Except.ok _ = Except.ok _
    unfold lE; rw [List.map_map]; rfl
section
variable {S : Sx}
theorem oz_callK {n : Nat} {m : List D → Option (Except Str D)} {gs : M (List D)} {z : D} {Q : Zr (D × Sx) → Prop} (h : Ev (gs S) fun ds S1 => ds.length = n ∧ m ds = some (.ok z) ∧ Q (.ok (z, S1))) : Oz (zCall n m gs S) Q := by
  obtain ⟨ds, S1, e, hn, hm, q⟩ := h
  exact oz_call ⟨ds, S1, e, hn, _, hm, (fun z' e' => by cases e'; exact q), (fun c e' => nomatch e')⟩
end
section
variable {w d s : D} {p : Int} {ls : List Ln} {es : List (Int × Int)}
end
end Lw

set_option maxHeartbeats 4000000
namespace Lw
open PySem Fu
local macro_rules | `(tactic| walk_at "e1") => `(tactic| first
  | with_reducible refine eo_seq ?_ | (with_reducible refine then_nx' ?_; refine ⟨?_, ?_, ?_⟩; rotate_left; · (try dsimp only [List.set, List.length_cons, List.length_nil, List.cons_append, List.nil_append, Nat.zero_add, Nat.reduceAdd]); exact rfl) | with_reducible refine then_rt ?_ | with_reducible refine eo_if ?_ | with_reducible refine eo_ret ?_ | with_reducible refine eo_set ?_ | with_reducible refine eo_asg ?_ | with_reducible refine eo_drop ?_ | with_reducible refine eo_nx ?_ | with_reducible refine eo_par ?_ | with_reducible refine eo_own ?_ | with_reducible refine eo_retN ?_ | with_reducible refine eo_for ?_ | with_reducible refine eo_retO ?_
  | with_reducible refine ev_c ?_ | (with_reducible refine ev_var ?_; refine ⟨_, rfl, ?_⟩) | with_reducible refine ev_bin ?_ | with_reducible refine ev_un ?_ | with_reducible refine ev_nil ?_ | with_reducible refine ev_cons ?_
  | with_reducible refine ev_tup ?_ | with_reducible refine ev_lst ?_ | with_reducible refine ev_call ?_ | with_reducible refine ev_callF ?_ | with_reducible refine ev_isi ?_ | with_reducible refine ev_isi2 ?_ | with_reducible refine ev_andV ?_ | with_reducible refine ev_orV ?_ | with_reducible refine ev_notV ?_
  | with_reducible refine ev_B ?_ | with_reducible refine ev_and ?_ | with_reducible refine ev_or ?_ | with_reducible refine ev_not ?_ | with_reducible refine ev_yes ?_ | with_reducible refine ev_if ?_ | with_reducible refine ev_no ?_ | with_reducible refine ev_so ?_ | with_reducible refine ev_sl ?_ | with_reducible refine ev_items ?_
  | (with_reducible refine ev_ixO ?_; refine ⟨_, _, rfl, rfl, ?_⟩) | (with_reducible refine ev_varO ?_; refine ⟨_, _, rfl, rfl, ?_⟩) | (with_reducible refine ev_lenO ?_; refine ⟨_, _, rfl, rfl, ?_⟩) | (with_reducible refine ev_scrSl ?_; refine ⟨_, rfl, ?_⟩) | (with_reducible refine ev_scrLen ?_; refine ⟨_, rfl, ?_⟩) | (with_reducible refine ev_callScr ?_; refine ⟨_, rfl, ?_⟩) | (with_reducible refine ev_OL ?_; refine ⟨_, _, rfl, rfl, ?_⟩) | with_reducible refine ev_OR ?_ | with_reducible refine ev_rep ?_ | with_reducible refine ev_listRng1 ?_ | with_reducible refine eo_setO ?_
  | with_reducible refine es_name ?_ | with_reducible refine es_tup2 ?_ | with_reducible refine es_tup3 ?_
  | with_reducible refine ed_addI ?_ | with_reducible refine ed_subI ?_ | with_reducible refine ed_cmp ?_ | with_reducible refine ed_eqI ?_ | with_reducible refine ed_neI ?_ | with_reducible refine ed_slT ?_ | with_reducible refine ed_slL ?_ | with_reducible refine ed_lenT ?_ | with_reducible refine ed_lenL ?_ | with_reducible refine ed_lenS ?_ | with_reducible refine ed_inS ?_ | with_reducible refine ed_itT ?_ | with_reducible refine ed_itL ?_ | with_reducible refine ed_tupL ?_ | with_reducible refine ed_tupT ?_ | with_reducible refine ed_listL ?_ | with_reducible refine ed_listT ?_ | with_reducible refine ed_neg ?_ | with_reducible refine ed_max ?_ | with_reducible refine ed_min ?_ | with_reducible refine ed_intB ?_
  | with_reducible refine ev_rng1 ?_ | with_reducible refine ev_rng2 ?_)
local macro_rules | `(tactic| walk_at "sd") => `(tactic| first | rfl | assumption | (simp only [decide_eq_true_eq, decide_eq_false_iff_not, Bool.not_eq_true', Bool.not_eq_false', Bool.and_eq_true, Bool.or_eq_true, List.length_map, List.length_cons, List.length_nil, List.length_append, List.length_range] at *; omega))
local macro_rules | `(tactic| walk_at "e2") => `(tactic| first
  | walk_at "e1" | with_reducible refine ⟨_, rfl, ?_⟩ | with_reducible refine ⟨_, _, rfl, ?_⟩
  | with_reducible refine And.intro (Eq.refl (List.length _)) ?_ | with_reducible refine And.intro (Nat.le_of_ble_eq_true (n := List.length _) rfl) ?_
  | with_reducible refine And.intro (Eq.refl (_ : Sx)) (?_ : Ed _ _)
  | ((with_reducible refine And.intro ?_ (And.intro ?_ (?_ : Ev _ _))); (· rfl); (· rfl))
  | ((with_reducible refine ed_ixT ?_ ?_ ?_); (· decide); (· rfl)) | ((with_reducible refine ed_ixL ?_ ?_ ?_); (· decide); (· rfl)) | ((with_reducible refine ed_at ?_ ?_ ?_); (· decide); (· rfl))
  | ((with_reducible refine ed_modI ?_ ?_); (· first | decide | omega))
  | with_reducible exact gives_nx | ((with_reducible refine gives_rt ?_); (· rfl)) | ((with_reducible refine And.intro ?_ ?_); (· exact rfl); (· with_reducible exact Eq.refl (_ : Sx))))
local macro_rules | `(tactic| walk_at "e") => `(tactic| repeat walk_at "e2")
/-- begin a def's spec -/
local macro_rules | `(tactic| walk_at "i") => `(tactic| simp only [initS, List.map_cons, List.map_nil, List.length_cons, List.length_nil, Nat.reduceAdd, Nat.reduceSub, List.replicate, List.cons_append, List.nil_append])
/-- a known truth decides -/
local macro_rules | `(tactic| walk_at "t") => `(tactic| first | ((with_reducible refine split_t ?_ ?_); (· walk_at "sd")) | ((with_reducible refine split_t' ?_ ?_); (· walk_at "sd")))
local macro_rules | `(tactic| walk_at "f") => `(tactic| first | ((with_reducible refine split_f ?_ ?_); (· walk_at "sd")) | ((with_reducible refine split_f' ?_ ?_); (· walk_at "sd")))
/-- all that is seen in a look -/
local macro_rules | `(tactic| walk_at "v") => `(tactic| (rw [sealAll_mk (by (simp only [List.set_cons_zero, List.set_cons_succ, List.map_cons, List.map_nil, sealS_none, sealS_dat, sealS_scr, sealS_own, List.getElem?_cons_zero, List.getElem?_cons_succ, sealC_lst]; rfl)) (by (simp only [List.set_cons_zero, List.set_cons_succ, List.map_cons, List.map_nil]; rfl))]))
open Rl
section
variable {w d : D} {p : Int} {ls : List Ln} {es : List (Int × Int)}
end
end Lw

set_option maxHeartbeats 4000000
namespace Lw
open PySem Fu
local macro_rules | `(tactic| walk_at "e1") => `(tactic| first
  | with_reducible refine eo_seq ?_ | (with_reducible refine then_nx' ?_; refine ⟨?_, ?_, ?_⟩; rotate_left; · (try dsimp only [List.set, List.length_cons, List.length_nil, List.cons_append, List.nil_append, Nat.zero_add, Nat.reduceAdd]); exact rfl) | with_reducible refine then_rt ?_ | with_reducible refine eo_if ?_ | with_reducible refine eo_ret ?_ | with_reducible refine eo_set ?_ | with_reducible refine eo_asg ?_ | with_reducible refine eo_drop ?_ | with_reducible refine eo_nx ?_ | with_reducible refine eo_par ?_ | with_reducible refine eo_own ?_ | with_reducible refine eo_retN ?_ | with_reducible refine eo_for ?_ | with_reducible refine eo_retO ?_
  | with_reducible refine ev_c ?_ | (with_reducible refine ev_var ?_; refine ⟨_, rfl, ?_⟩) | with_reducible refine ev_bin ?_ | with_reducible refine ev_un ?_ | with_reducible refine ev_nil ?_ | with_reducible refine ev_cons ?_
  | with_reducible refine ev_tup ?_ | with_reducible refine ev_lst ?_ | with_reducible refine ev_call ?_ | with_reducible refine ev_callF ?_ | with_reducible refine ev_isi ?_ | with_reducible refine ev_isi2 ?_ | with_reducible refine ev_andV ?_ | with_reducible refine ev_orV ?_ | with_reducible refine ev_notV ?_
  | with_reducible refine ev_B ?_ | with_reducible refine ev_and ?_ | with_reducible refine ev_or ?_ | with_reducible refine ev_not ?_ | with_reducible refine ev_yes ?_ | with_reducible refine ev_if ?_ | with_reducible refine ev_no ?_ | with_reducible refine ev_so ?_ | with_reducible refine ev_sl ?_ | with_reducible refine ev_items ?_
  | (with_reducible refine ev_ixO ?_; refine ⟨_, _, rfl, rfl, ?_⟩) | (with_reducible refine ev_varO ?_; refine ⟨_, _, rfl, rfl, ?_⟩) | (with_reducible refine ev_lenO ?_; refine ⟨_, _, rfl, rfl, ?_⟩) | (with_reducible refine ev_scrSl ?_; refine ⟨_, rfl, ?_⟩) | (with_reducible refine ev_scrLen ?_; refine ⟨_, rfl, ?_⟩) | (with_reducible refine ev_callScr ?_; refine ⟨_, rfl, ?_⟩) | (with_reducible refine ev_OL ?_; refine ⟨_, _, rfl, rfl, ?_⟩) | with_reducible refine ev_OR ?_ | with_reducible refine ev_rep ?_ | with_reducible refine ev_listRng1 ?_ | with_reducible refine eo_setO ?_
  | with_reducible refine es_name ?_ | with_reducible refine es_tup2 ?_ | with_reducible refine es_tup3 ?_
  | with_reducible refine ed_addI ?_ | with_reducible refine ed_subI ?_ | with_reducible refine ed_cmp ?_ | with_reducible refine ed_eqI ?_ | with_reducible refine ed_neI ?_ | with_reducible refine ed_slT ?_ | with_reducible refine ed_slL ?_ | with_reducible refine ed_lenT ?_ | with_reducible refine ed_lenL ?_ | with_reducible refine ed_lenS ?_ | with_reducible refine ed_inS ?_ | with_reducible refine ed_itT ?_ | with_reducible refine ed_itL ?_ | with_reducible refine ed_tupL ?_ | with_reducible refine ed_tupT ?_ | with_reducible refine ed_listL ?_ | with_reducible refine ed_listT ?_ | with_reducible refine ed_neg ?_ | with_reducible refine ed_max ?_ | with_reducible refine ed_min ?_ | with_reducible refine ed_intB ?_
  | with_reducible refine ev_rng1 ?_ | with_reducible refine ev_rng2 ?_)
local macro_rules | `(tactic| walk_at "sd") => `(tactic| first | rfl | assumption | (simp only [decide_eq_true_eq, decide_eq_false_iff_not, Bool.not_eq_true', Bool.not_eq_false', Bool.and_eq_true, Bool.or_eq_true, List.length_map, List.length_cons, List.length_nil, List.length_append, List.length_range] at *; omega))
local macro_rules | `(tactic| walk_at "e2") => `(tactic| first
  | walk_at "e1" | with_reducible refine ⟨_, rfl, ?_⟩ | with_reducible refine ⟨_, _, rfl, ?_⟩
  | with_reducible refine And.intro (Eq.refl (List.length _)) ?_ | with_reducible refine And.intro (Nat.le_of_ble_eq_true (n := List.length _) rfl) ?_
  | with_reducible refine And.intro (Eq.refl (_ : Sx)) (?_ : Ed _ _)
  | ((with_reducible refine And.intro ?_ (And.intro ?_ (?_ : Ev _ _))); (· rfl); (· rfl))
  | ((with_reducible refine ed_ixT ?_ ?_ ?_); (· decide); (· rfl)) | ((with_reducible refine ed_ixL ?_ ?_ ?_); (· decide); (· rfl)) | ((with_reducible refine ed_at ?_ ?_ ?_); (· decide); (· rfl))
  | ((with_reducible refine ed_modI ?_ ?_); (· first | decide | omega))
  | with_reducible exact gives_nx | ((with_reducible refine gives_rt ?_); (· rfl)) | ((with_reducible refine And.intro ?_ ?_); (· exact rfl); (· with_reducible exact Eq.refl (_ : Sx))))
local macro_rules | `(tactic| walk_at "e") => `(tactic| repeat walk_at "e2")
/-- begin a def's spec -/
local macro_rules | `(tactic| walk_at "i") => `(tactic| simp only [initS, List.map_cons, List.map_nil, List.length_cons, List.length_nil, Nat.reduceAdd, Nat.reduceSub, List.replicate, List.cons_append, List.nil_append])
/-- a known truth decides -/
local macro_rules | `(tactic| walk_at "t") => `(tactic| first | ((with_reducible refine split_t ?_ ?_); (· walk_at "sd")) | ((with_reducible refine split_t' ?_ ?_); (· walk_at "sd")))
local macro_rules | `(tactic| walk_at "f") => `(tactic| first | ((with_reducible refine split_f ?_ ?_); (· walk_at "sd")) | ((with_reducible refine split_f' ?_ ?_); (· walk_at "sd")))
/-- all that is seen in a look -/
local macro_rules | `(tactic| walk_at "v") => `(tactic| (rw [sealAll_mk (by (simp only [List.set_cons_zero, List.set_cons_succ, List.map_cons, List.map_nil, sealS_none, sealS_dat, sealS_scr, sealS_own, List.getElem?_cons_zero, List.getElem?_cons_succ, sealC_lst]; rfl)) (by (simp only [List.set_cons_zero, List.set_cons_succ, List.map_cons, List.map_nil]; rfl))]))
/-! ### two rounds made one -/
def fits (ls : List Ln) (a v : List (Int × Int)) : Bool := goesB ls (lastE a) (headE v) && goesB ls (lastE v) (headE a)
def apart (es fs : List (Int × Int)) : Prop := ∀ e ∈ es, ∀ f ∈ fs, e.1 ≠ f.1
theorem rot_perm (k : Nat) (es : List (Int × Int)) : (rot k es).Perm es := by
  unfold rot
  refine List.perm_append_comm.trans ?_
  rw [List.take_append_drop]
theorem ways_fst {es w : List (Int × Int)} (h : w ∈ ways es) : (w.map Prod.fst).Perm (es.map Prod.fst) := by
  obtain ⟨k, _, rfl | rfl⟩ := mem_ways.mp h
  · exact (rot_perm k es).map _
  · refine ((rot_perm k (rv es)).map _).trans ?_
    have : (rv es).map Prod.fst = (es.map Prod.fst).reverse := by
      unfold rv
      rw [List.map_map, List.map_reverse]; rfl
    rw [this]
    exact List.reverse_perm _
theorem lastE_ap2 {a v : List (Int × Int)} (h : v ≠ []) : lastE (a ++ v) = lastE v := by
  unfold lastE
  rw [List.getLast?_append]
  obtain ⟨h1, _⟩ := last_mem h
  rw [h1]; rfl
theorem headE_ap2 {a v : List (Int × Int)} (h : a ≠ []) : headE (a ++ v) = headE a := by
  cases a with
  | nil => exact absurd rfl h
  | cons => rfl
theorem chain_ap2 {ls : List Ln} : ∀ {a v : List (Int × Int)}, v ≠ [] → chain ls a = true → chain ls v = true → (a ≠ [] → goesB ls (lastE a) (headE v) = true) → chain ls (a ++ v) = true
  | [], v, _, _, h, _ => h
  | [e], v, hv, _, h, g => by
    cases v with
    | nil => exact absurd rfl hv
    | cons f r =>
      have := g (by simp)
      rw [List.cons_append, List.nil_append, chain, Bool.and_eq_true]
      exact ⟨this, h⟩
  | e :: f :: r, v, hv, ha, h, g => by
    have h2 : goesB ls e f = true ∧ chain ls (f :: r) = true := by simpa [chain] using ha
    have := chain_ap2 (a := f :: r) hv h2.2 h (fun _ => by
      have := g (by simp)
      have e1 : lastE (e :: f :: r) = lastE (f :: r) := by unfold lastE; simp
      rwa [e1] at this)
    rw [List.cons_append, List.cons_append, chain, Bool.and_eq_true]
    exact ⟨h2.1, this⟩
theorem join_round {ls : List Ln} {a v : List (Int × Int)} (ha : roundB ls a = true) (hv : roundB ls v = true) (hd : apart a v) (hf : fits ls a v = true) : roundB ls (a ++ v) = true := by
  obtain ⟨f1, f2⟩ := Bool.and_eq_true_iff.mp hf
  obtain ⟨r1, g1⟩ := roundB_iff.mp ha
  obtain ⟨r2, g2⟩ := roundB_iff.mp hv
  obtain ⟨a1, a2, a3, a4⟩ := rideB_iff.mp r1
  obtain ⟨b1, b2, b3, b4⟩ := rideB_iff.mp r2
  rw [roundB_iff, rideB_iff, lastE_ap2 b1, headE_ap2 a1]
  refine ⟨⟨by simp [a1], fun e he => ?_, ?_, chain_ap2 b1 a4 b4 fun _ => f1⟩, f2⟩
  · rcases List.mem_append.mp he with he | he
    · exact a2 e he
    · exact b2 e he
  · rw [List.map_append, List.nodup_append]
    refine ⟨a3, b3, fun x hx y hy z => ?_⟩
    obtain ⟨e, he, rfl⟩ := List.mem_map.mp hx
    obtain ⟨f, hf, rfl⟩ := List.mem_map.mp hy
    exact hd e he f hf z
theorem rot_head {es : List (Int × Int)} {k : Nat} (hk : k < es.length) : headE (rot k es) = es[k] ∧ rot k es ≠ [] := by
  have hn : rot k es ≠ [] := fun z => by
    have := rot_len k es
    rw [z] at this
    simp at this; omega
  refine ⟨?_, hn⟩
  have h1 := (head_mem hn).1
  rw [rot_get (by omega) (by omega)] at h1
  rw [Nat.zero_add, if_pos hk, List.getElem?_eq_getElem hk] at h1
  exact (Option.some.inj h1).symm
/-- where two rounds come to a place together they can be joined there -/
theorem join_there {ls : List Ln} {es fs : List (Int × Int)} (he : roundB ls es = true) (hf : roundB ls fs = true) {e f : Int × Int} (h1 : e ∈ es) (h2 : f ∈ fs) (h : plc ls e = plc ls f) :
    ∃ k, k < es.length ∧ es[k]? = some e ∧ ∃ v ∈ ways fs, plc ls e = plc ls (headE v) ∧ fits ls (rot k es) v = true := by
  obtain ⟨k, hk, rfl⟩ := List.mem_iff_getElem.mp h1
  obtain ⟨i, hi, rfl⟩ := List.mem_iff_getElem.mp h2
  refine ⟨k, hk, List.getElem?_eq_getElem hk, ?_⟩
  obtain ⟨a1, a2⟩ := rot_head hk
  obtain ⟨u1, u2⟩ := rot_head hi
  have ra := (roundB_iff.mp (round_rot k he)).2
  have ru := (roundB_iff.mp (round_rot i hf)).2
  have wu : rot i fs ∈ ways fs := mem_ways.mpr ⟨i, hi, .inl rfl⟩
  have wr : rv (rot i fs) ∈ ways fs := by
    rw [← ways_rot (k := i) hi, ← ways_rv]
    exact mem_ways.mpr ⟨0, by rw [rv_len, rot_len]; omega, .inl (by rw [rot_zero])⟩
  generalize rot i fs = u at u1 u2 ru wu wr
  generalize rot k es = a at a1 a2 ra
  have L := lastE_rv u2
  have Hd := headE_rv u2
  rw [a1] at ra
  rw [u1] at ru
  generalize es[k] = e at *
  generalize fs[i] = f at *
  unfold goesB at ra ru
  simp only [Bool.and_eq_true, decide_eq_true_eq, Bool.not_eq_true', decide_eq_false_iff_not] at ra ru
  by_cases c : cmpy ls (lastE a) = cmpy ls f ∨ cmpy ls (lastE u) = cmpy ls e
  · refine ⟨rv u, wr, ?_, ?_⟩
    · rw [Hd, ru.1]; exact h
    · unfold fits
      rw [L, Hd, a1, u1]
      have cf : ∀ x : Int × Int, cmpy ls (far x) = cmpy ls x := fun x => rfl
      unfold goesB
      rw [far_far, cf, cf]
      simp only [Bool.and_eq_true, decide_eq_true_eq, Bool.not_eq_true', decide_eq_false_iff_not]
      refine ⟨⟨by rw [ra.1, ru.1]; exact h, ?_⟩, by rw [h], ?_⟩
      · rcases c with c | c
        · rw [c]; exact fun z => ru.2 z.symm
        · rw [c]; exact ra.2
      · rcases c with c | c
        · rw [← c]; exact ra.2
        · rw [← c]; exact fun z => ru.2 z.symm
  · refine ⟨u, wu, by rw [u1]; exact h, ?_⟩
    unfold fits
    rw [a1, u1]
    unfold goesB
    simp only [Bool.and_eq_true, decide_eq_true_eq, Bool.not_eq_true', decide_eq_false_iff_not]
    exact ⟨⟨by rw [ra.1]; exact h, fun z => c (.inl z)⟩, by rw [ru.1]; exact h.symm, fun z => c (.inr z)⟩
end Lw

set_option maxHeartbeats 4000000
namespace Lw
open PySem Fu
local macro_rules | `(tactic| walk_at "e1") => `(tactic| first
  | with_reducible refine eo_seq ?_ | (with_reducible refine then_nx' ?_; refine ⟨?_, ?_, ?_⟩; rotate_left; · (try dsimp only [List.set, List.length_cons, List.length_nil, List.cons_append, List.nil_append, Nat.zero_add, Nat.reduceAdd]); exact rfl) | with_reducible refine then_rt ?_ | with_reducible refine eo_if ?_ | with_reducible refine eo_ret ?_ | with_reducible refine eo_set ?_ | with_reducible refine eo_asg ?_ | with_reducible refine eo_drop ?_ | with_reducible refine eo_nx ?_ | with_reducible refine eo_par ?_ | with_reducible refine eo_own ?_ | with_reducible refine eo_retN ?_ | with_reducible refine eo_for ?_ | with_reducible refine eo_retO ?_
  | with_reducible refine ev_c ?_ | (with_reducible refine ev_var ?_; refine ⟨_, rfl, ?_⟩) | with_reducible refine ev_bin ?_ | with_reducible refine ev_un ?_ | with_reducible refine ev_nil ?_ | with_reducible refine ev_cons ?_
  | with_reducible refine ev_tup ?_ | with_reducible refine ev_lst ?_ | with_reducible refine ev_call ?_ | with_reducible refine ev_callF ?_ | with_reducible refine ev_isi ?_ | with_reducible refine ev_isi2 ?_ | with_reducible refine ev_andV ?_ | with_reducible refine ev_orV ?_ | with_reducible refine ev_notV ?_
  | with_reducible refine ev_B ?_ | with_reducible refine ev_and ?_ | with_reducible refine ev_or ?_ | with_reducible refine ev_not ?_ | with_reducible refine ev_yes ?_ | with_reducible refine ev_if ?_ | with_reducible refine ev_no ?_ | with_reducible refine ev_so ?_ | with_reducible refine ev_sl ?_ | with_reducible refine ev_items ?_
  | (with_reducible refine ev_ixO ?_; refine ⟨_, _, rfl, rfl, ?_⟩) | (with_reducible refine ev_varO ?_; refine ⟨_, _, rfl, rfl, ?_⟩) | (with_reducible refine ev_lenO ?_; refine ⟨_, _, rfl, rfl, ?_⟩) | (with_reducible refine ev_scrSl ?_; refine ⟨_, rfl, ?_⟩) | (with_reducible refine ev_scrLen ?_; refine ⟨_, rfl, ?_⟩) | (with_reducible refine ev_callScr ?_; refine ⟨_, rfl, ?_⟩) | (with_reducible refine ev_OL ?_; refine ⟨_, _, rfl, rfl, ?_⟩) | with_reducible refine ev_OR ?_ | with_reducible refine ev_rep ?_ | with_reducible refine ev_listRng1 ?_ | with_reducible refine eo_setO ?_
  | with_reducible refine es_name ?_ | with_reducible refine es_tup2 ?_ | with_reducible refine es_tup3 ?_
  | with_reducible refine ed_addI ?_ | with_reducible refine ed_subI ?_ | with_reducible refine ed_cmp ?_ | with_reducible refine ed_eqI ?_ | with_reducible refine ed_neI ?_ | with_reducible refine ed_slT ?_ | with_reducible refine ed_slL ?_ | with_reducible refine ed_lenT ?_ | with_reducible refine ed_lenL ?_ | with_reducible refine ed_lenS ?_ | with_reducible refine ed_inS ?_ | with_reducible refine ed_itT ?_ | with_reducible refine ed_itL ?_ | with_reducible refine ed_tupL ?_ | with_reducible refine ed_tupT ?_ | with_reducible refine ed_listL ?_ | with_reducible refine ed_listT ?_ | with_reducible refine ed_neg ?_ | with_reducible refine ed_max ?_ | with_reducible refine ed_min ?_ | with_reducible refine ed_intB ?_
  | with_reducible refine ev_rng1 ?_ | with_reducible refine ev_rng2 ?_)
local macro_rules | `(tactic| walk_at "sd") => `(tactic| first | rfl | assumption | (simp only [decide_eq_true_eq, decide_eq_false_iff_not, Bool.not_eq_true', Bool.not_eq_false', Bool.and_eq_true, Bool.or_eq_true, List.length_map, List.length_cons, List.length_nil, List.length_append, List.length_range] at *; omega))
local macro_rules | `(tactic| walk_at "e2") => `(tactic| first
  | walk_at "e1" | with_reducible refine ⟨_, rfl, ?_⟩ | with_reducible refine ⟨_, _, rfl, ?_⟩
  | with_reducible refine And.intro (Eq.refl (List.length _)) ?_ | with_reducible refine And.intro (Nat.le_of_ble_eq_true (n := List.length _) rfl) ?_
  | with_reducible refine And.intro (Eq.refl (_ : Sx)) (?_ : Ed _ _)
  | ((with_reducible refine And.intro ?_ (And.intro ?_ (?_ : Ev _ _))); (· rfl); (· rfl))
  | ((with_reducible refine ed_ixT ?_ ?_ ?_); (· decide); (· rfl)) | ((with_reducible refine ed_ixL ?_ ?_ ?_); (· decide); (· rfl)) | ((with_reducible refine ed_at ?_ ?_ ?_); (· decide); (· rfl))
  | ((with_reducible refine ed_modI ?_ ?_); (· first | decide | omega))
  | with_reducible exact gives_nx | ((with_reducible refine gives_rt ?_); (· rfl)) | ((with_reducible refine And.intro ?_ ?_); (· exact rfl); (· with_reducible exact Eq.refl (_ : Sx))))
local macro_rules | `(tactic| walk_at "e") => `(tactic| repeat walk_at "e2")
/-- begin a def's spec -/
local macro_rules | `(tactic| walk_at "i") => `(tactic| simp only [initS, List.map_cons, List.map_nil, List.length_cons, List.length_nil, Nat.reduceAdd, Nat.reduceSub, List.replicate, List.cons_append, List.nil_append])
/-- a known truth decides -/
local macro_rules | `(tactic| walk_at "t") => `(tactic| first | ((with_reducible refine split_t ?_ ?_); (· walk_at "sd")) | ((with_reducible refine split_t' ?_ ?_); (· walk_at "sd")))
local macro_rules | `(tactic| walk_at "f") => `(tactic| first | ((with_reducible refine split_f ?_ ?_); (· walk_at "sd")) | ((with_reducible refine split_f' ?_ ?_); (· walk_at "sd")))
/-- all that is seen in a look -/
local macro_rules | `(tactic| walk_at "v") => `(tactic| (rw [sealAll_mk (by (simp only [List.set_cons_zero, List.set_cons_succ, List.map_cons, List.map_nil, sealS_none, sealS_dat, sealS_scr, sealS_own, List.getElem?_cons_zero, List.getElem?_cons_succ, sealC_lst]; rfl)) (by (simp only [List.set_cons_zero, List.set_cons_succ, List.map_cons, List.map_nil]; rfl))]))
theorem mF_ex {n : Nat} {g : Sx → Option Out} {ds : List D} {P : D → Prop} (h : Eo (g ⟨initS n ds, []⟩) fun o => ∃ d S, o = .rt d S ∧ P d) : ∃ d, mF n g ds = some d ∧ P d := by
  obtain ⟨_, e, d, S, rfl, p⟩ := h
  exact ⟨d, by unfold mF; rw [e]; rfl, p⟩
def Join (ls : List Ln) (es fs : List (Int × Int)) (d : D) : Prop :=
  (d = .none ∧ ∀ e ∈ es, ∀ f ∈ fs, plc ls e ≠ plc ls f) ∨ ∃ k v, k < es.length ∧ v ∈ ways fs ∧ fits ls (rot k es) v = true ∧ (∃ e ∈ es, e = headE (rot k es) ∧ plc ls e = plc ls (headE v)) ∧ d = lE (rot k es ++ v)
theorem ways_ne {ls : List Ln} {fs v : List (Int × Int)} (hf : roundB ls fs = true) (hv : v ∈ ways fs) : v ≠ [] ∧ (∀ e ∈ v, EndOk ls.length e) ∧ v.length = fs.length := by
  have := (roundB_iff.mp (ways_round hf hv)).1
  obtain ⟨h1, h2, _⟩ := rideB_iff.mp this
  refine ⟨h1, h2, ?_⟩
  have := (ways_fst hv).length_eq
  simpa using this
theorem x_joined {w : D} {p : Int} {ls : List Ln} {es fs : List (Int × Int)} (hw : Web w p ls) (h : WbOk p ls) (hz : es.length ≤ 1000) (hz2 : fs.length ≤ 1000) (he : roundB ls es = true) (hf : roundB ls fs = true) :
    ∃ d, m_joined [w, lE es, lE fs] = some d ∧ Join ls es fs d := by
  obtain ⟨e1, e2, _⟩ := rideB_iff.mp (roundB_iff.mp he).1
  unfold m_joined; refine mF_ex ?_; walk_at "i"; unfold g_joined
  walk_at "e"
  refine ev_enum ?_
  walk_at "e"
  unfold lE
  refine loop_end (fun i S => ∃ x3 x4 x5 x6, S = ⟨[some (.dat w), some (.dat (.list (es.map en))), some (.dat (.list (fs.map en))), x3, x4, x5, x6], []⟩ ∧ ∀ k < i, ∀ v ∈ ways fs, ¬ ((∃ e, es[k]? = some e ∧ plc ls e = plc ls (headE v)) ∧ fits ls (rot k es) v = true)) _ 0 _ ⟨_, _, _, _, rfl, fun k hk => absurd hk (Nat.not_lt_zero _)⟩ ?_ ?_
  · rintro i d S hd ⟨x3, x4, x5, x6, rfl, hno⟩
    rw [Nat.zero_add] at hno
    rw [enumD_at, List.getElem?_map, Option.map_map] at hd
    obtain ⟨e, hei, rfl⟩ := Option.map_eq_some_iff.mp hd
    have hi := (List.getElem?_eq_some_iff.mp hei).1
    have hem : e ∈ es := List.mem_of_getElem? hei
    have hrt : rot i es ≠ [] := (rot_head hi).2
    have hrh : headE (rot i es) = e := by
      rw [(rot_head hi).1]
      rw [List.getElem?_eq_getElem hi] at hei
      exact Option.some.inj hei
    have hrall : ∀ x ∈ rot i es, EndOk ls.length x := fun x hx => e2 x ((rot_perm i es).mem_iff.mp hx)
    simp only [Function.comp, Nat.zero_add]
    walk_at "e"
    rw [cut_from (by omega), cut_to (by omega)]
    refine ed_addL (by simp; omega) ?_
    rw [show (es.map en).drop ((i : Int)).toNat ++ (es.map en).take ((i : Int)).toNat = (rot i es).map en by unfold rot; rw [List.map_append, List.map_drop, List.map_take]; rfl]
    walk_at "e"
    refine Ed.of (x_all_ways (by omega)) ?_
    walk_at "e"
    refine eo_loopE (xs := ways fs) (enc := lE) (fun j S => ∃ x6, S = ⟨[some (.dat w), some (.dat (.list (es.map en))), some (.dat (.list (fs.map en))), some (.dat (.int (i : Int))), some (.dat (en e)), some (.dat (.list ((rot i es).map en))), x6], []⟩ ∧ ∀ q < j, ∀ v, (ways fs)[q]? = some v → ¬ (plc ls e = plc ls (headE v) ∧ fits ls (rot i es) v = true)) ⟨_, rfl, fun q hq => absurd hq (Nat.not_lt_zero _)⟩ ?_ ?_
    · rintro j v S hv ⟨x6, rfl, hno2⟩
      have hvm := List.mem_of_getElem? hv
      obtain ⟨vn, vall, vl⟩ := ways_ne hf hvm
      have hvh : (v.map en)[(0 : Int).toNat]? = some (en (headE v)) := by
        show (v.map en)[0]? = _
        rw [List.getElem?_map, (head_mem vn).1]; rfl
      have hah : ((rot i es).map en)[(0 : Int).toNat]? = some (en (headE (rot i es))) := by
        show ((rot i es).map en)[0]? = _
        rw [List.getElem?_map, (head_mem hrt).1]; rfl
      have next : ¬ (plc ls e = plc ls (headE v) ∧ fits ls (rot i es) v = true) → ∀ q < j + 1, ∀ v, (ways fs)[q]? = some v → ¬ (plc ls e = plc ls (headE v) ∧ fits ls (rot i es) v = true) := fun hn q hq u hu => by
        by_cases hqj : q = j
        · subst hqj
          rw [hv] at hu; cases hu
          exact hn
        · exact hno2 q (by omega) u hu
      refine es_name ?_
      unfold lE
      walk_at "e"
      refine Ed.of (x_place_of hw (isEn_en e) (e2 e hem)) ?_
      walk_at "e"
      refine ed_ixQ (sq_l _) (by decide) hvh ?_
      walk_at "e"
      refine Ed.of (x_place_of hw (isEn_en _) (vall _ (head_mem vn).2)) ?_
      walk_at "e"
      refine ⟨fun hp => ?_, fun hp => ?_⟩
      · have hp := of_decide_eq_true hp
        walk_at "e"
        refine ed_lastQ (sq_l _) (x := en (lastE (rot i es))) (by rw [List.getLast?_map, (last_mem hrt).1]; rfl) ?_
        walk_at "e"
        refine ed_ixQ (sq_l _) (by decide) hvh ?_
        walk_at "e"
        refine Ed.of (x_can_go_on hw h (isEn_en _) (isEn_en _) (hrall _ (last_mem hrt).2) (vall _ (head_mem vn).2)) ?_
        walk_at "e"
        refine ⟨fun g1 => ?_, fun g1 => ?_⟩
        · walk_at "e"
          refine ed_lastQ (sq_l _) (x := en (lastE v)) (by rw [List.getLast?_map, (last_mem vn).1]; rfl) ?_
          walk_at "e"
          refine ed_ixQ (sq_l _) (by decide) hah ?_
          walk_at "e"
          refine Ed.of (x_can_go_on hw h (isEn_en _) (isEn_en _) (vall _ (last_mem vn).2) (hrall _ (head_mem hrt).2)) ?_
          walk_at "e"
          refine ⟨fun g2 => ?_, fun g2 => ?_⟩
          · walk_at "e"
            refine ed_addL (by simp [rot_len]; omega) ?_
            exact .inr (.inr (.inl ⟨_, _, rfl, .inr (.inr (.inl ⟨_, _, rfl, ⟨_, _, rfl, .inr ⟨i, v, hi, hvm, by unfold fits; rw [g1, g2]; rfl, ⟨e, hem, hrh.symm, hp⟩, by unfold lE; rw [List.map_append]⟩⟩⟩))⟩))
          · walk_at "e"
            exact .inl ⟨_, .inl rfl, _, rfl, next fun z => by
              have := z.2
              unfold fits at this
              rw [g2, Bool.and_false] at this
              cases this⟩
        · refine ⟨(fun z => nomatch z), fun _ => ?_⟩
          walk_at "e"
          exact .inl ⟨_, .inl rfl, _, rfl, next fun z => by
            have := z.2
            unfold fits at this
            rw [g1, Bool.false_and] at this
            cases this⟩
      · walk_at "e"
        exact .inl ⟨_, .inl rfl, _, rfl, next fun z => of_decide_eq_false hp z.1⟩
    · rintro S ⟨x6, rfl, hno2⟩
      refine .inl ⟨_, .inl rfl, _, _, _, _, rfl, fun k hk v hv => ?_⟩
      by_cases hki : k = i
      · subst hki
        obtain ⟨q, hq⟩ := List.mem_iff_getElem?.mp hv
        have := hno2 q (List.getElem?_eq_some_iff.mp hq).1 v hq
        rintro ⟨⟨e', h1, h2⟩, h3⟩
        rw [hei] at h1; cases h1
        exact this ⟨h2, h3⟩
      · exact hno k (by omega) v hv
  · rintro S ⟨x3, x4, x5, x6, rfl, hno⟩
    rw [enumD_len, List.length_map, Nat.zero_add] at hno
    walk_at "e"
    refine .inl ⟨rfl, fun e h1 f h2 h3 => ?_⟩
    obtain ⟨k, hk, hke, v, hv, h4, h5⟩ := join_there he hf h1 h2 h3
    exact hno k hk v hv ⟨⟨e, hke, h4⟩, h5⟩
end Lw

set_option maxHeartbeats 4000000
namespace Lw
open PySem Fu
local macro_rules | `(tactic| walk_at "e1") => `(tactic| first
  | with_reducible refine eo_seq ?_ | (with_reducible refine then_nx' ?_; refine ⟨?_, ?_, ?_⟩; rotate_left; · (try dsimp only [List.set, List.length_cons, List.length_nil, List.cons_append, List.nil_append, Nat.zero_add, Nat.reduceAdd]); exact rfl) | with_reducible refine then_rt ?_ | with_reducible refine eo_if ?_ | with_reducible refine eo_ret ?_ | with_reducible refine eo_set ?_ | with_reducible refine eo_asg ?_ | with_reducible refine eo_drop ?_ | with_reducible refine eo_nx ?_ | with_reducible refine eo_par ?_ | with_reducible refine eo_own ?_ | with_reducible refine eo_retN ?_ | with_reducible refine eo_for ?_ | with_reducible refine eo_retO ?_
  | with_reducible refine ev_c ?_ | (with_reducible refine ev_var ?_; refine ⟨_, rfl, ?_⟩) | with_reducible refine ev_bin ?_ | with_reducible refine ev_un ?_ | with_reducible refine ev_nil ?_ | with_reducible refine ev_cons ?_
  | with_reducible refine ev_tup ?_ | with_reducible refine ev_lst ?_ | with_reducible refine ev_call ?_ | with_reducible refine ev_callF ?_ | with_reducible refine ev_isi ?_ | with_reducible refine ev_isi2 ?_ | with_reducible refine ev_andV ?_ | with_reducible refine ev_orV ?_ | with_reducible refine ev_notV ?_
  | with_reducible refine ev_B ?_ | with_reducible refine ev_and ?_ | with_reducible refine ev_or ?_ | with_reducible refine ev_not ?_ | with_reducible refine ev_yes ?_ | with_reducible refine ev_if ?_ | with_reducible refine ev_no ?_ | with_reducible refine ev_so ?_ | with_reducible refine ev_sl ?_ | with_reducible refine ev_items ?_
  | (with_reducible refine ev_ixO ?_; refine ⟨_, _, rfl, rfl, ?_⟩) | (with_reducible refine ev_varO ?_; refine ⟨_, _, rfl, rfl, ?_⟩) | (with_reducible refine ev_lenO ?_; refine ⟨_, _, rfl, rfl, ?_⟩) | (with_reducible refine ev_scrSl ?_; refine ⟨_, rfl, ?_⟩) | (with_reducible refine ev_scrLen ?_; refine ⟨_, rfl, ?_⟩) | (with_reducible refine ev_callScr ?_; refine ⟨_, rfl, ?_⟩) | (with_reducible refine ev_OL ?_; refine ⟨_, _, rfl, rfl, ?_⟩) | with_reducible refine ev_OR ?_ | with_reducible refine ev_rep ?_ | with_reducible refine ev_listRng1 ?_ | with_reducible refine eo_setO ?_
  | with_reducible refine es_name ?_ | with_reducible refine es_tup2 ?_ | with_reducible refine es_tup3 ?_
  | with_reducible refine ed_addI ?_ | with_reducible refine ed_subI ?_ | with_reducible refine ed_cmp ?_ | with_reducible refine ed_eqI ?_ | with_reducible refine ed_neI ?_ | with_reducible refine ed_slT ?_ | with_reducible refine ed_slL ?_ | with_reducible refine ed_lenT ?_ | with_reducible refine ed_lenL ?_ | with_reducible refine ed_lenS ?_ | with_reducible refine ed_inS ?_ | with_reducible refine ed_itT ?_ | with_reducible refine ed_itL ?_ | with_reducible refine ed_tupL ?_ | with_reducible refine ed_tupT ?_ | with_reducible refine ed_listL ?_ | with_reducible refine ed_listT ?_ | with_reducible refine ed_neg ?_ | with_reducible refine ed_max ?_ | with_reducible refine ed_min ?_ | with_reducible refine ed_intB ?_
  | with_reducible refine ev_rng1 ?_ | with_reducible refine ev_rng2 ?_)
local macro_rules | `(tactic| walk_at "sd") => `(tactic| first | rfl | assumption | (simp only [decide_eq_true_eq, decide_eq_false_iff_not, Bool.not_eq_true', Bool.not_eq_false', Bool.and_eq_true, Bool.or_eq_true, List.length_map, List.length_cons, List.length_nil, List.length_append, List.length_range] at *; omega))
local macro_rules | `(tactic| walk_at "e2") => `(tactic| first
  | walk_at "e1" | with_reducible refine ⟨_, rfl, ?_⟩ | with_reducible refine ⟨_, _, rfl, ?_⟩
  | with_reducible refine And.intro (Eq.refl (List.length _)) ?_ | with_reducible refine And.intro (Nat.le_of_ble_eq_true (n := List.length _) rfl) ?_
  | with_reducible refine And.intro (Eq.refl (_ : Sx)) (?_ : Ed _ _)
  | ((with_reducible refine And.intro ?_ (And.intro ?_ (?_ : Ev _ _))); (· rfl); (· rfl))
  | ((with_reducible refine ed_ixT ?_ ?_ ?_); (· decide); (· rfl)) | ((with_reducible refine ed_ixL ?_ ?_ ?_); (· decide); (· rfl)) | ((with_reducible refine ed_at ?_ ?_ ?_); (· decide); (· rfl))
  | ((with_reducible refine ed_modI ?_ ?_); (· first | decide | omega))
  | with_reducible exact gives_nx | ((with_reducible refine gives_rt ?_); (· rfl)) | ((with_reducible refine And.intro ?_ ?_); (· exact rfl); (· with_reducible exact Eq.refl (_ : Sx))))
local macro_rules | `(tactic| walk_at "e") => `(tactic| repeat walk_at "e2")
/-- begin a def's spec -/
local macro_rules | `(tactic| walk_at "i") => `(tactic| simp only [initS, List.map_cons, List.map_nil, List.length_cons, List.length_nil, Nat.reduceAdd, Nat.reduceSub, List.replicate, List.cons_append, List.nil_append])
/-- a known truth decides -/
local macro_rules | `(tactic| walk_at "t") => `(tactic| first | ((with_reducible refine split_t ?_ ?_); (· walk_at "sd")) | ((with_reducible refine split_t' ?_ ?_); (· walk_at "sd")))
local macro_rules | `(tactic| walk_at "f") => `(tactic| first | ((with_reducible refine split_f ?_ ?_); (· walk_at "sd")) | ((with_reducible refine split_f' ?_ ?_); (· walk_at "sd")))
/-- all that is seen in a look -/
local macro_rules | `(tactic| walk_at "v") => `(tactic| (rw [sealAll_mk (by (simp only [List.set_cons_zero, List.set_cons_succ, List.map_cons, List.map_nil, sealS_none, sealS_dat, sealS_scr, sealS_own, List.getElem?_cons_zero, List.getElem?_cons_succ, sealC_lst]; rfl)) (by (simp only [List.set_cons_zero, List.set_cons_succ, List.map_cons, List.map_nil]; rfl))]))
namespace Sp
end Sp
end Lw

set_option maxHeartbeats 4000000
namespace Lw
open PySem Fu
local macro_rules | `(tactic| walk_at "e1") => `(tactic| first
  | with_reducible refine eo_seq ?_ | (with_reducible refine then_nx' ?_; refine ⟨?_, ?_, ?_⟩; rotate_left; · (try dsimp only [List.set, List.length_cons, List.length_nil, List.cons_append, List.nil_append, Nat.zero_add, Nat.reduceAdd]); exact rfl) | with_reducible refine then_rt ?_ | with_reducible refine eo_if ?_ | with_reducible refine eo_ret ?_ | with_reducible refine eo_set ?_ | with_reducible refine eo_asg ?_ | with_reducible refine eo_drop ?_ | with_reducible refine eo_nx ?_ | with_reducible refine eo_par ?_ | with_reducible refine eo_own ?_ | with_reducible refine eo_retN ?_ | with_reducible refine eo_for ?_ | with_reducible refine eo_retO ?_
  | with_reducible refine ev_c ?_ | (with_reducible refine ev_var ?_; refine ⟨_, rfl, ?_⟩) | with_reducible refine ev_bin ?_ | with_reducible refine ev_un ?_ | with_reducible refine ev_nil ?_ | with_reducible refine ev_cons ?_
  | with_reducible refine ev_tup ?_ | with_reducible refine ev_lst ?_ | with_reducible refine ev_call ?_ | with_reducible refine ev_callF ?_ | with_reducible refine ev_isi ?_ | with_reducible refine ev_isi2 ?_ | with_reducible refine ev_andV ?_ | with_reducible refine ev_orV ?_ | with_reducible refine ev_notV ?_
  | with_reducible refine ev_B ?_ | with_reducible refine ev_and ?_ | with_reducible refine ev_or ?_ | with_reducible refine ev_not ?_ | with_reducible refine ev_yes ?_ | with_reducible refine ev_if ?_ | with_reducible refine ev_no ?_ | with_reducible refine ev_so ?_ | with_reducible refine ev_sl ?_ | with_reducible refine ev_items ?_
  | (with_reducible refine ev_ixO ?_; refine ⟨_, _, rfl, rfl, ?_⟩) | (with_reducible refine ev_varO ?_; refine ⟨_, _, rfl, rfl, ?_⟩) | (with_reducible refine ev_lenO ?_; refine ⟨_, _, rfl, rfl, ?_⟩) | (with_reducible refine ev_scrSl ?_; refine ⟨_, rfl, ?_⟩) | (with_reducible refine ev_scrLen ?_; refine ⟨_, rfl, ?_⟩) | (with_reducible refine ev_callScr ?_; refine ⟨_, rfl, ?_⟩) | (with_reducible refine ev_OL ?_; refine ⟨_, _, rfl, rfl, ?_⟩) | with_reducible refine ev_OR ?_ | with_reducible refine ev_rep ?_ | with_reducible refine ev_listRng1 ?_ | with_reducible refine eo_setO ?_
  | with_reducible refine es_name ?_ | with_reducible refine es_tup2 ?_ | with_reducible refine es_tup3 ?_
  | with_reducible refine ed_addI ?_ | with_reducible refine ed_subI ?_ | with_reducible refine ed_cmp ?_ | with_reducible refine ed_eqI ?_ | with_reducible refine ed_neI ?_ | with_reducible refine ed_slT ?_ | with_reducible refine ed_slL ?_ | with_reducible refine ed_lenT ?_ | with_reducible refine ed_lenL ?_ | with_reducible refine ed_lenS ?_ | with_reducible refine ed_inS ?_ | with_reducible refine ed_itT ?_ | with_reducible refine ed_itL ?_ | with_reducible refine ed_tupL ?_ | with_reducible refine ed_tupT ?_ | with_reducible refine ed_listL ?_ | with_reducible refine ed_listT ?_ | with_reducible refine ed_neg ?_ | with_reducible refine ed_max ?_ | with_reducible refine ed_min ?_ | with_reducible refine ed_intB ?_
  | with_reducible refine ev_rng1 ?_ | with_reducible refine ev_rng2 ?_)
local macro_rules | `(tactic| walk_at "sd") => `(tactic| first | rfl | assumption | (simp only [decide_eq_true_eq, decide_eq_false_iff_not, Bool.not_eq_true', Bool.not_eq_false', Bool.and_eq_true, Bool.or_eq_true, List.length_map, List.length_cons, List.length_nil, List.length_append, List.length_range] at *; omega))
local macro_rules | `(tactic| walk_at "e2") => `(tactic| first
  | walk_at "e1" | with_reducible refine ⟨_, rfl, ?_⟩ | with_reducible refine ⟨_, _, rfl, ?_⟩
  | with_reducible refine And.intro (Eq.refl (List.length _)) ?_ | with_reducible refine And.intro (Nat.le_of_ble_eq_true (n := List.length _) rfl) ?_
  | with_reducible refine And.intro (Eq.refl (_ : Sx)) (?_ : Ed _ _)
  | ((with_reducible refine And.intro ?_ (And.intro ?_ (?_ : Ev _ _))); (· rfl); (· rfl))
  | ((with_reducible refine ed_ixT ?_ ?_ ?_); (· decide); (· rfl)) | ((with_reducible refine ed_ixL ?_ ?_ ?_); (· decide); (· rfl)) | ((with_reducible refine ed_at ?_ ?_ ?_); (· decide); (· rfl))
  | ((with_reducible refine ed_modI ?_ ?_); (· first | decide | omega))
  | with_reducible exact gives_nx | ((with_reducible refine gives_rt ?_); (· rfl)) | ((with_reducible refine And.intro ?_ ?_); (· exact rfl); (· with_reducible exact Eq.refl (_ : Sx))))
local macro_rules | `(tactic| walk_at "e") => `(tactic| repeat walk_at "e2")
/-- begin a def's spec -/
local macro_rules | `(tactic| walk_at "i") => `(tactic| simp only [initS, List.map_cons, List.map_nil, List.length_cons, List.length_nil, Nat.reduceAdd, Nat.reduceSub, List.replicate, List.cons_append, List.nil_append])
/-- a known truth decides -/
local macro_rules | `(tactic| walk_at "t") => `(tactic| first | ((with_reducible refine split_t ?_ ?_); (· walk_at "sd")) | ((with_reducible refine split_t' ?_ ?_); (· walk_at "sd")))
local macro_rules | `(tactic| walk_at "f") => `(tactic| first | ((with_reducible refine split_f ?_ ?_); (· walk_at "sd")) | ((with_reducible refine split_f' ?_ ?_); (· walk_at "sd")))
/-- all that is seen in a look -/
local macro_rules | `(tactic| walk_at "v") => `(tactic| (rw [sealAll_mk (by (simp only [List.set_cons_zero, List.set_cons_succ, List.map_cons, List.map_nil, sealS_none, sealS_dat, sealS_scr, sealS_own, List.getElem?_cons_zero, List.getElem?_cons_succ, sealC_lst]; rfl)) (by (simp only [List.set_cons_zero, List.set_cons_succ, List.map_cons, List.map_nil]; rfl))]))
namespace Sp
end Sp
end Lw

set_option maxHeartbeats 4000000
namespace Lw
open PySem Fu
local macro_rules | `(tactic| walk_at "e1") => `(tactic| first
  | with_reducible refine eo_seq ?_ | (with_reducible refine then_nx' ?_; refine ⟨?_, ?_, ?_⟩; rotate_left; · (try dsimp only [List.set, List.length_cons, List.length_nil, List.cons_append, List.nil_append, Nat.zero_add, Nat.reduceAdd]); exact rfl) | with_reducible refine then_rt ?_ | with_reducible refine eo_if ?_ | with_reducible refine eo_ret ?_ | with_reducible refine eo_set ?_ | with_reducible refine eo_asg ?_ | with_reducible refine eo_drop ?_ | with_reducible refine eo_nx ?_ | with_reducible refine eo_par ?_ | with_reducible refine eo_own ?_ | with_reducible refine eo_retN ?_ | with_reducible refine eo_for ?_ | with_reducible refine eo_retO ?_
  | with_reducible refine ev_c ?_ | (with_reducible refine ev_var ?_; refine ⟨_, rfl, ?_⟩) | with_reducible refine ev_bin ?_ | with_reducible refine ev_un ?_ | with_reducible refine ev_nil ?_ | with_reducible refine ev_cons ?_
  | with_reducible refine ev_tup ?_ | with_reducible refine ev_lst ?_ | with_reducible refine ev_call ?_ | with_reducible refine ev_callF ?_ | with_reducible refine ev_isi ?_ | with_reducible refine ev_isi2 ?_ | with_reducible refine ev_andV ?_ | with_reducible refine ev_orV ?_ | with_reducible refine ev_notV ?_
  | with_reducible refine ev_B ?_ | with_reducible refine ev_and ?_ | with_reducible refine ev_or ?_ | with_reducible refine ev_not ?_ | with_reducible refine ev_yes ?_ | with_reducible refine ev_if ?_ | with_reducible refine ev_no ?_ | with_reducible refine ev_so ?_ | with_reducible refine ev_sl ?_ | with_reducible refine ev_items ?_
  | (with_reducible refine ev_ixO ?_; refine ⟨_, _, rfl, rfl, ?_⟩) | (with_reducible refine ev_varO ?_; refine ⟨_, _, rfl, rfl, ?_⟩) | (with_reducible refine ev_lenO ?_; refine ⟨_, _, rfl, rfl, ?_⟩) | (with_reducible refine ev_scrSl ?_; refine ⟨_, rfl, ?_⟩) | (with_reducible refine ev_scrLen ?_; refine ⟨_, rfl, ?_⟩) | (with_reducible refine ev_callScr ?_; refine ⟨_, rfl, ?_⟩) | (with_reducible refine ev_OL ?_; refine ⟨_, _, rfl, rfl, ?_⟩) | with_reducible refine ev_OR ?_ | with_reducible refine ev_rep ?_ | with_reducible refine ev_listRng1 ?_ | with_reducible refine eo_setO ?_
  | with_reducible refine es_name ?_ | with_reducible refine es_tup2 ?_ | with_reducible refine es_tup3 ?_
  | with_reducible refine ed_addI ?_ | with_reducible refine ed_subI ?_ | with_reducible refine ed_cmp ?_ | with_reducible refine ed_eqI ?_ | with_reducible refine ed_neI ?_ | with_reducible refine ed_slT ?_ | with_reducible refine ed_slL ?_ | with_reducible refine ed_lenT ?_ | with_reducible refine ed_lenL ?_ | with_reducible refine ed_lenS ?_ | with_reducible refine ed_inS ?_ | with_reducible refine ed_itT ?_ | with_reducible refine ed_itL ?_ | with_reducible refine ed_tupL ?_ | with_reducible refine ed_tupT ?_ | with_reducible refine ed_listL ?_ | with_reducible refine ed_listT ?_ | with_reducible refine ed_neg ?_ | with_reducible refine ed_max ?_ | with_reducible refine ed_min ?_ | with_reducible refine ed_intB ?_
  | with_reducible refine ev_rng1 ?_ | with_reducible refine ev_rng2 ?_)
local macro_rules | `(tactic| walk_at "sd") => `(tactic| first | rfl | assumption | (simp only [decide_eq_true_eq, decide_eq_false_iff_not, Bool.not_eq_true', Bool.not_eq_false', Bool.and_eq_true, Bool.or_eq_true, List.length_map, List.length_cons, List.length_nil, List.length_append, List.length_range] at *; omega))
local macro_rules | `(tactic| walk_at "e2") => `(tactic| first
  | walk_at "e1" | with_reducible refine ⟨_, rfl, ?_⟩ | with_reducible refine ⟨_, _, rfl, ?_⟩
  | with_reducible refine And.intro (Eq.refl (List.length _)) ?_ | with_reducible refine And.intro (Nat.le_of_ble_eq_true (n := List.length _) rfl) ?_
  | with_reducible refine And.intro (Eq.refl (_ : Sx)) (?_ : Ed _ _)
  | ((with_reducible refine And.intro ?_ (And.intro ?_ (?_ : Ev _ _))); (· rfl); (· rfl))
  | ((with_reducible refine ed_ixT ?_ ?_ ?_); (· decide); (· rfl)) | ((with_reducible refine ed_ixL ?_ ?_ ?_); (· decide); (· rfl)) | ((with_reducible refine ed_at ?_ ?_ ?_); (· decide); (· rfl))
  | ((with_reducible refine ed_modI ?_ ?_); (· first | decide | omega))
  | with_reducible exact gives_nx | ((with_reducible refine gives_rt ?_); (· rfl)) | ((with_reducible refine And.intro ?_ ?_); (· exact rfl); (· with_reducible exact Eq.refl (_ : Sx))))
local macro_rules | `(tactic| walk_at "e") => `(tactic| repeat walk_at "e2")
/-- begin a def's spec -/
local macro_rules | `(tactic| walk_at "i") => `(tactic| simp only [initS, List.map_cons, List.map_nil, List.length_cons, List.length_nil, Nat.reduceAdd, Nat.reduceSub, List.replicate, List.cons_append, List.nil_append])
/-- a known truth decides -/
local macro_rules | `(tactic| walk_at "t") => `(tactic| first | ((with_reducible refine split_t ?_ ?_); (· walk_at "sd")) | ((with_reducible refine split_t' ?_ ?_); (· walk_at "sd")))
local macro_rules | `(tactic| walk_at "f") => `(tactic| first | ((with_reducible refine split_f ?_ ?_); (· walk_at "sd")) | ((with_reducible refine split_f' ?_ ?_); (· walk_at "sd")))
/-- all that is seen in a look -/
local macro_rules | `(tactic| walk_at "v") => `(tactic| (rw [sealAll_mk (by (simp only [List.set_cons_zero, List.set_cons_succ, List.map_cons, List.map_nil, sealS_none, sealS_dat, sealS_scr, sealS_own, List.getElem?_cons_zero, List.getElem?_cons_succ, sealC_lst]; rfl)) (by (simp only [List.set_cons_zero, List.set_cons_succ, List.map_cons, List.map_nil]; rfl))]))
def fours (ps : List Int) (t : List Nat) : List (List Nat) := match t with
  | [i, k] => ((pairs ps ps.length).filter fun u => match u with
    | [j, l] => decide (i < j) && decide (j ≤ k) && decide (k < l)
    | _ => false).map fun u => match u with
    | [j, l] => [i, j, k, l]
    | _ => []
  | _ => []
/-- the turnings that may be, in their order -/
def leT (a b : List Nat) : Bool := leD (tD a) (tD b)
def mb (ps : List Int) : List (List Nat) := (pairs ps ps.length ++ (pairs ps ps.length).flatMap (fours ps)).mergeSort leT
end Lw

set_option maxHeartbeats 4000000
namespace Lw
open PySem Fu
local macro_rules | `(tactic| walk_at "e1") => `(tactic| first
  | with_reducible refine eo_seq ?_ | (with_reducible refine then_nx' ?_; refine ⟨?_, ?_, ?_⟩; rotate_left; · (try dsimp only [List.set, List.length_cons, List.length_nil, List.cons_append, List.nil_append, Nat.zero_add, Nat.reduceAdd]); exact rfl) | with_reducible refine then_rt ?_ | with_reducible refine eo_if ?_ | with_reducible refine eo_ret ?_ | with_reducible refine eo_set ?_ | with_reducible refine eo_asg ?_ | with_reducible refine eo_drop ?_ | with_reducible refine eo_nx ?_ | with_reducible refine eo_par ?_ | with_reducible refine eo_own ?_ | with_reducible refine eo_retN ?_ | with_reducible refine eo_for ?_ | with_reducible refine eo_retO ?_
  | with_reducible refine ev_c ?_ | (with_reducible refine ev_var ?_; refine ⟨_, rfl, ?_⟩) | with_reducible refine ev_bin ?_ | with_reducible refine ev_un ?_ | with_reducible refine ev_nil ?_ | with_reducible refine ev_cons ?_
  | with_reducible refine ev_tup ?_ | with_reducible refine ev_lst ?_ | with_reducible refine ev_call ?_ | with_reducible refine ev_callF ?_ | with_reducible refine ev_isi ?_ | with_reducible refine ev_isi2 ?_ | with_reducible refine ev_andV ?_ | with_reducible refine ev_orV ?_ | with_reducible refine ev_notV ?_
  | with_reducible refine ev_B ?_ | with_reducible refine ev_and ?_ | with_reducible refine ev_or ?_ | with_reducible refine ev_not ?_ | with_reducible refine ev_yes ?_ | with_reducible refine ev_if ?_ | with_reducible refine ev_no ?_ | with_reducible refine ev_so ?_ | with_reducible refine ev_sl ?_ | with_reducible refine ev_items ?_
  | (with_reducible refine ev_ixO ?_; refine ⟨_, _, rfl, rfl, ?_⟩) | (with_reducible refine ev_varO ?_; refine ⟨_, _, rfl, rfl, ?_⟩) | (with_reducible refine ev_lenO ?_; refine ⟨_, _, rfl, rfl, ?_⟩) | (with_reducible refine ev_scrSl ?_; refine ⟨_, rfl, ?_⟩) | (with_reducible refine ev_scrLen ?_; refine ⟨_, rfl, ?_⟩) | (with_reducible refine ev_callScr ?_; refine ⟨_, rfl, ?_⟩) | (with_reducible refine ev_OL ?_; refine ⟨_, _, rfl, rfl, ?_⟩) | with_reducible refine ev_OR ?_ | with_reducible refine ev_rep ?_ | with_reducible refine ev_listRng1 ?_ | with_reducible refine eo_setO ?_
  | with_reducible refine es_name ?_ | with_reducible refine es_tup2 ?_ | with_reducible refine es_tup3 ?_
  | with_reducible refine ed_addI ?_ | with_reducible refine ed_subI ?_ | with_reducible refine ed_cmp ?_ | with_reducible refine ed_eqI ?_ | with_reducible refine ed_neI ?_ | with_reducible refine ed_slT ?_ | with_reducible refine ed_slL ?_ | with_reducible refine ed_lenT ?_ | with_reducible refine ed_lenL ?_ | with_reducible refine ed_lenS ?_ | with_reducible refine ed_inS ?_ | with_reducible refine ed_itT ?_ | with_reducible refine ed_itL ?_ | with_reducible refine ed_tupL ?_ | with_reducible refine ed_tupT ?_ | with_reducible refine ed_listL ?_ | with_reducible refine ed_listT ?_ | with_reducible refine ed_neg ?_ | with_reducible refine ed_max ?_ | with_reducible refine ed_min ?_ | with_reducible refine ed_intB ?_
  | with_reducible refine ev_rng1 ?_ | with_reducible refine ev_rng2 ?_)
local macro_rules | `(tactic| walk_at "sd") => `(tactic| first | rfl | assumption | (simp only [decide_eq_true_eq, decide_eq_false_iff_not, Bool.not_eq_true', Bool.not_eq_false', Bool.and_eq_true, Bool.or_eq_true, List.length_map, List.length_cons, List.length_nil, List.length_append, List.length_range] at *; omega))
local macro_rules | `(tactic| walk_at "e2") => `(tactic| first
  | walk_at "e1" | with_reducible refine ⟨_, rfl, ?_⟩ | with_reducible refine ⟨_, _, rfl, ?_⟩
  | with_reducible refine And.intro (Eq.refl (List.length _)) ?_ | with_reducible refine And.intro (Nat.le_of_ble_eq_true (n := List.length _) rfl) ?_
  | with_reducible refine And.intro (Eq.refl (_ : Sx)) (?_ : Ed _ _)
  | ((with_reducible refine And.intro ?_ (And.intro ?_ (?_ : Ev _ _))); (· rfl); (· rfl))
  | ((with_reducible refine ed_ixT ?_ ?_ ?_); (· decide); (· rfl)) | ((with_reducible refine ed_ixL ?_ ?_ ?_); (· decide); (· rfl)) | ((with_reducible refine ed_at ?_ ?_ ?_); (· decide); (· rfl))
  | ((with_reducible refine ed_modI ?_ ?_); (· first | decide | omega))
  | with_reducible exact gives_nx | ((with_reducible refine gives_rt ?_); (· rfl)) | ((with_reducible refine And.intro ?_ ?_); (· exact rfl); (· with_reducible exact Eq.refl (_ : Sx))))
local macro_rules | `(tactic| walk_at "e") => `(tactic| repeat walk_at "e2")
/-- begin a def's spec -/
local macro_rules | `(tactic| walk_at "i") => `(tactic| simp only [initS, List.map_cons, List.map_nil, List.length_cons, List.length_nil, Nat.reduceAdd, Nat.reduceSub, List.replicate, List.cons_append, List.nil_append])
/-- a known truth decides -/
local macro_rules | `(tactic| walk_at "t") => `(tactic| first | ((with_reducible refine split_t ?_ ?_); (· walk_at "sd")) | ((with_reducible refine split_t' ?_ ?_); (· walk_at "sd")))
local macro_rules | `(tactic| walk_at "f") => `(tactic| first | ((with_reducible refine split_f ?_ ?_); (· walk_at "sd")) | ((with_reducible refine split_f' ?_ ?_); (· walk_at "sd")))
/-- all that is seen in a look -/
local macro_rules | `(tactic| walk_at "v") => `(tactic| (rw [sealAll_mk (by (simp only [List.set_cons_zero, List.set_cons_succ, List.map_cons, List.map_nil, sealS_none, sealS_dat, sealS_scr, sealS_own, List.getElem?_cons_zero, List.getElem?_cons_succ, sealC_lst]; rfl)) (by (simp only [List.set_cons_zero, List.set_cons_succ, List.map_cons, List.map_nil]; rfl))]))
/-! ### what a turning does to a list -/
end Lw

set_option maxHeartbeats 4000000
namespace Lw
open PySem Fu
local macro_rules | `(tactic| walk_at "e1") => `(tactic| first
  | with_reducible refine eo_seq ?_ | (with_reducible refine then_nx' ?_; refine ⟨?_, ?_, ?_⟩; rotate_left; · (try dsimp only [List.set, List.length_cons, List.length_nil, List.cons_append, List.nil_append, Nat.zero_add, Nat.reduceAdd]); exact rfl) | with_reducible refine then_rt ?_ | with_reducible refine eo_if ?_ | with_reducible refine eo_ret ?_ | with_reducible refine eo_set ?_ | with_reducible refine eo_asg ?_ | with_reducible refine eo_drop ?_ | with_reducible refine eo_nx ?_ | with_reducible refine eo_par ?_ | with_reducible refine eo_own ?_ | with_reducible refine eo_retN ?_ | with_reducible refine eo_for ?_ | with_reducible refine eo_retO ?_
  | with_reducible refine ev_c ?_ | (with_reducible refine ev_var ?_; refine ⟨_, rfl, ?_⟩) | with_reducible refine ev_bin ?_ | with_reducible refine ev_un ?_ | with_reducible refine ev_nil ?_ | with_reducible refine ev_cons ?_
  | with_reducible refine ev_tup ?_ | with_reducible refine ev_lst ?_ | with_reducible refine ev_call ?_ | with_reducible refine ev_callF ?_ | with_reducible refine ev_isi ?_ | with_reducible refine ev_isi2 ?_ | with_reducible refine ev_andV ?_ | with_reducible refine ev_orV ?_ | with_reducible refine ev_notV ?_
  | with_reducible refine ev_B ?_ | with_reducible refine ev_and ?_ | with_reducible refine ev_or ?_ | with_reducible refine ev_not ?_ | with_reducible refine ev_yes ?_ | with_reducible refine ev_if ?_ | with_reducible refine ev_no ?_ | with_reducible refine ev_so ?_ | with_reducible refine ev_sl ?_ | with_reducible refine ev_items ?_
  | (with_reducible refine ev_ixO ?_; refine ⟨_, _, rfl, rfl, ?_⟩) | (with_reducible refine ev_varO ?_; refine ⟨_, _, rfl, rfl, ?_⟩) | (with_reducible refine ev_lenO ?_; refine ⟨_, _, rfl, rfl, ?_⟩) | (with_reducible refine ev_scrSl ?_; refine ⟨_, rfl, ?_⟩) | (with_reducible refine ev_scrLen ?_; refine ⟨_, rfl, ?_⟩) | (with_reducible refine ev_callScr ?_; refine ⟨_, rfl, ?_⟩) | (with_reducible refine ev_OL ?_; refine ⟨_, _, rfl, rfl, ?_⟩) | with_reducible refine ev_OR ?_ | with_reducible refine ev_rep ?_ | with_reducible refine ev_listRng1 ?_ | with_reducible refine eo_setO ?_
  | with_reducible refine es_name ?_ | with_reducible refine es_tup2 ?_ | with_reducible refine es_tup3 ?_
  | with_reducible refine ed_addI ?_ | with_reducible refine ed_subI ?_ | with_reducible refine ed_cmp ?_ | with_reducible refine ed_eqI ?_ | with_reducible refine ed_neI ?_ | with_reducible refine ed_slT ?_ | with_reducible refine ed_slL ?_ | with_reducible refine ed_lenT ?_ | with_reducible refine ed_lenL ?_ | with_reducible refine ed_lenS ?_ | with_reducible refine ed_inS ?_ | with_reducible refine ed_itT ?_ | with_reducible refine ed_itL ?_ | with_reducible refine ed_tupL ?_ | with_reducible refine ed_tupT ?_ | with_reducible refine ed_listL ?_ | with_reducible refine ed_listT ?_ | with_reducible refine ed_neg ?_ | with_reducible refine ed_max ?_ | with_reducible refine ed_min ?_ | with_reducible refine ed_intB ?_
  | with_reducible refine ev_rng1 ?_ | with_reducible refine ev_rng2 ?_)
local macro_rules | `(tactic| walk_at "sd") => `(tactic| first | rfl | assumption | (simp only [decide_eq_true_eq, decide_eq_false_iff_not, Bool.not_eq_true', Bool.not_eq_false', Bool.and_eq_true, Bool.or_eq_true, List.length_map, List.length_cons, List.length_nil, List.length_append, List.length_range] at *; omega))
local macro_rules | `(tactic| walk_at "e2") => `(tactic| first
  | walk_at "e1" | with_reducible refine ⟨_, rfl, ?_⟩ | with_reducible refine ⟨_, _, rfl, ?_⟩
  | with_reducible refine And.intro (Eq.refl (List.length _)) ?_ | with_reducible refine And.intro (Nat.le_of_ble_eq_true (n := List.length _) rfl) ?_
  | with_reducible refine And.intro (Eq.refl (_ : Sx)) (?_ : Ed _ _)
  | ((with_reducible refine And.intro ?_ (And.intro ?_ (?_ : Ev _ _))); (· rfl); (· rfl))
  | ((with_reducible refine ed_ixT ?_ ?_ ?_); (· decide); (· rfl)) | ((with_reducible refine ed_ixL ?_ ?_ ?_); (· decide); (· rfl)) | ((with_reducible refine ed_at ?_ ?_ ?_); (· decide); (· rfl))
  | ((with_reducible refine ed_modI ?_ ?_); (· first | decide | omega))
  | with_reducible exact gives_nx | ((with_reducible refine gives_rt ?_); (· rfl)) | ((with_reducible refine And.intro ?_ ?_); (· exact rfl); (· with_reducible exact Eq.refl (_ : Sx))))
local macro_rules | `(tactic| walk_at "e") => `(tactic| repeat walk_at "e2")
/-- begin a def's spec -/
local macro_rules | `(tactic| walk_at "i") => `(tactic| simp only [initS, List.map_cons, List.map_nil, List.length_cons, List.length_nil, Nat.reduceAdd, Nat.reduceSub, List.replicate, List.cons_append, List.nil_append])
/-- a known truth decides -/
local macro_rules | `(tactic| walk_at "t") => `(tactic| first | ((with_reducible refine split_t ?_ ?_); (· walk_at "sd")) | ((with_reducible refine split_t' ?_ ?_); (· walk_at "sd")))
local macro_rules | `(tactic| walk_at "f") => `(tactic| first | ((with_reducible refine split_f ?_ ?_); (· walk_at "sd")) | ((with_reducible refine split_f' ?_ ?_); (· walk_at "sd")))
/-- all that is seen in a look -/
local macro_rules | `(tactic| walk_at "v") => `(tactic| (rw [sealAll_mk (by (simp only [List.set_cons_zero, List.set_cons_succ, List.map_cons, List.map_nil, sealS_none, sealS_dat, sealS_scr, sealS_own, List.getElem?_cons_zero, List.getElem?_cons_succ, sealC_lst]; rfl)) (by (simp only [List.set_cons_zero, List.set_cons_succ, List.map_cons, List.map_nil]; rfl))]))
end Lw

set_option maxHeartbeats 4000000
namespace Lw
open PySem Fu
local macro_rules | `(tactic| walk_at "e1") => `(tactic| first
  | with_reducible refine eo_seq ?_ | (with_reducible refine then_nx' ?_; refine ⟨?_, ?_, ?_⟩; rotate_left; · (try dsimp only [List.set, List.length_cons, List.length_nil, List.cons_append, List.nil_append, Nat.zero_add, Nat.reduceAdd]); exact rfl) | with_reducible refine then_rt ?_ | with_reducible refine eo_if ?_ | with_reducible refine eo_ret ?_ | with_reducible refine eo_set ?_ | with_reducible refine eo_asg ?_ | with_reducible refine eo_drop ?_ | with_reducible refine eo_nx ?_ | with_reducible refine eo_par ?_ | with_reducible refine eo_own ?_ | with_reducible refine eo_retN ?_ | with_reducible refine eo_for ?_ | with_reducible refine eo_retO ?_
  | with_reducible refine ev_c ?_ | (with_reducible refine ev_var ?_; refine ⟨_, rfl, ?_⟩) | with_reducible refine ev_bin ?_ | with_reducible refine ev_un ?_ | with_reducible refine ev_nil ?_ | with_reducible refine ev_cons ?_
  | with_reducible refine ev_tup ?_ | with_reducible refine ev_lst ?_ | with_reducible refine ev_call ?_ | with_reducible refine ev_callF ?_ | with_reducible refine ev_isi ?_ | with_reducible refine ev_isi2 ?_ | with_reducible refine ev_andV ?_ | with_reducible refine ev_orV ?_ | with_reducible refine ev_notV ?_
  | with_reducible refine ev_B ?_ | with_reducible refine ev_and ?_ | with_reducible refine ev_or ?_ | with_reducible refine ev_not ?_ | with_reducible refine ev_yes ?_ | with_reducible refine ev_if ?_ | with_reducible refine ev_no ?_ | with_reducible refine ev_so ?_ | with_reducible refine ev_sl ?_ | with_reducible refine ev_items ?_
  | (with_reducible refine ev_ixO ?_; refine ⟨_, _, rfl, rfl, ?_⟩) | (with_reducible refine ev_varO ?_; refine ⟨_, _, rfl, rfl, ?_⟩) | (with_reducible refine ev_lenO ?_; refine ⟨_, _, rfl, rfl, ?_⟩) | (with_reducible refine ev_scrSl ?_; refine ⟨_, rfl, ?_⟩) | (with_reducible refine ev_scrLen ?_; refine ⟨_, rfl, ?_⟩) | (with_reducible refine ev_callScr ?_; refine ⟨_, rfl, ?_⟩) | (with_reducible refine ev_OL ?_; refine ⟨_, _, rfl, rfl, ?_⟩) | with_reducible refine ev_OR ?_ | with_reducible refine ev_rep ?_ | with_reducible refine ev_listRng1 ?_ | with_reducible refine eo_setO ?_
  | with_reducible refine es_name ?_ | with_reducible refine es_tup2 ?_ | with_reducible refine es_tup3 ?_
  | with_reducible refine ed_addI ?_ | with_reducible refine ed_subI ?_ | with_reducible refine ed_cmp ?_ | with_reducible refine ed_eqI ?_ | with_reducible refine ed_neI ?_ | with_reducible refine ed_slT ?_ | with_reducible refine ed_slL ?_ | with_reducible refine ed_lenT ?_ | with_reducible refine ed_lenL ?_ | with_reducible refine ed_lenS ?_ | with_reducible refine ed_inS ?_ | with_reducible refine ed_itT ?_ | with_reducible refine ed_itL ?_ | with_reducible refine ed_tupL ?_ | with_reducible refine ed_tupT ?_ | with_reducible refine ed_listL ?_ | with_reducible refine ed_listT ?_ | with_reducible refine ed_neg ?_ | with_reducible refine ed_max ?_ | with_reducible refine ed_min ?_ | with_reducible refine ed_intB ?_
  | with_reducible refine ev_rng1 ?_ | with_reducible refine ev_rng2 ?_)
local macro_rules | `(tactic| walk_at "sd") => `(tactic| first | rfl | assumption | (simp only [decide_eq_true_eq, decide_eq_false_iff_not, Bool.not_eq_true', Bool.not_eq_false', Bool.and_eq_true, Bool.or_eq_true, List.length_map, List.length_cons, List.length_nil, List.length_append, List.length_range] at *; omega))
local macro_rules | `(tactic| walk_at "e2") => `(tactic| first
  | walk_at "e1" | with_reducible refine ⟨_, rfl, ?_⟩ | with_reducible refine ⟨_, _, rfl, ?_⟩
  | with_reducible refine And.intro (Eq.refl (List.length _)) ?_ | with_reducible refine And.intro (Nat.le_of_ble_eq_true (n := List.length _) rfl) ?_
  | with_reducible refine And.intro (Eq.refl (_ : Sx)) (?_ : Ed _ _)
  | ((with_reducible refine And.intro ?_ (And.intro ?_ (?_ : Ev _ _))); (· rfl); (· rfl))
  | ((with_reducible refine ed_ixT ?_ ?_ ?_); (· decide); (· rfl)) | ((with_reducible refine ed_ixL ?_ ?_ ?_); (· decide); (· rfl)) | ((with_reducible refine ed_at ?_ ?_ ?_); (· decide); (· rfl))
  | ((with_reducible refine ed_modI ?_ ?_); (· first | decide | omega))
  | with_reducible exact gives_nx | ((with_reducible refine gives_rt ?_); (· rfl)) | ((with_reducible refine And.intro ?_ ?_); (· exact rfl); (· with_reducible exact Eq.refl (_ : Sx))))
local macro_rules | `(tactic| walk_at "e") => `(tactic| repeat walk_at "e2")
/-- begin a def's spec -/
local macro_rules | `(tactic| walk_at "i") => `(tactic| simp only [initS, List.map_cons, List.map_nil, List.length_cons, List.length_nil, Nat.reduceAdd, Nat.reduceSub, List.replicate, List.cons_append, List.nil_append])
/-- a known truth decides -/
local macro_rules | `(tactic| walk_at "t") => `(tactic| first | ((with_reducible refine split_t ?_ ?_); (· walk_at "sd")) | ((with_reducible refine split_t' ?_ ?_); (· walk_at "sd")))
local macro_rules | `(tactic| walk_at "f") => `(tactic| first | ((with_reducible refine split_f ?_ ?_); (· walk_at "sd")) | ((with_reducible refine split_f' ?_ ?_); (· walk_at "sd")))
/-- all that is seen in a look -/
local macro_rules | `(tactic| walk_at "v") => `(tactic| (rw [sealAll_mk (by (simp only [List.set_cons_zero, List.set_cons_succ, List.map_cons, List.map_nil, sealS_none, sealS_dat, sealS_scr, sealS_own, List.getElem?_cons_zero, List.getElem?_cons_succ, sealC_lst]; rfl)) (by (simp only [List.set_cons_zero, List.set_cons_succ, List.map_cons, List.map_nil]; rfl))]))
theorem toks_int (a : Int) : PySem.W.keyToks (.int a) = [.inl a] := by simp [PySem.W.keyToks]
theorem dataLt_int (a b : Int) : PySem.W.dataLt (.int a) (.int b) = decide (a < b) := by
  unfold PySem.W.dataLt
  rw [toks_int, toks_int]
  by_cases h : a = b
  · subst h
    rw [PyProof.Rows.lex_self]
    simp
    rfl
  · rw [PyProof.Rows.lex_diff (by simpa using h)]
    rfl
theorem leD_int (a b : Int) : leD (.int a) (.int b) = decide (a ≤ b) := by
  have h : leD (.int a) (.int b) = !PySem.W.dataLt (.int b) (.int a) := rfl
  rw [h, dataLt_int, Bool.eq_iff_iff]
  simp
theorem sortOk_ints (ns : List Int) : sortOk (ns.map PyData.int) = true := by
  unfold sortOk
  rw [Bool.and_eq_true, Bool.and_eq_true, Bool.or_eq_true]
  refine ⟨⟨?_, .inr ?_⟩, ?_⟩
  · rw [List.all_eq_true]
    intro d hd
    rw [List.all_eq_true]
    intro e he
    obtain ⟨a, _, rfl⟩ := List.mem_map.mp hd
    obtain ⟨b, _, rfl⟩ := List.mem_map.mp he
    simp [PySem.W.alike]
  · rw [List.all_eq_true]
    intro d hd
    obtain ⟨a, ha, rfl⟩ := List.mem_map.mp hd
    rfl
  · rw [List.all_eq_true]
    intro d hd
    obtain ⟨a, ha, rfl⟩ := List.mem_map.mp hd
    rw [Bool.and_eq_true]
    exact ⟨decide_eq_true (by simp [PyData.depth]), (fine_int a).1⟩
end Lw

set_option maxHeartbeats 4000000
namespace Lw
open PySem Fu
local macro_rules | `(tactic| walk_at "e1") => `(tactic| first
  | with_reducible refine eo_seq ?_ | (with_reducible refine then_nx' ?_; refine ⟨?_, ?_, ?_⟩; rotate_left; · (try dsimp only [List.set, List.length_cons, List.length_nil, List.cons_append, List.nil_append, Nat.zero_add, Nat.reduceAdd]); exact rfl) | with_reducible refine then_rt ?_ | with_reducible refine eo_if ?_ | with_reducible refine eo_ret ?_ | with_reducible refine eo_set ?_ | with_reducible refine eo_asg ?_ | with_reducible refine eo_drop ?_ | with_reducible refine eo_nx ?_ | with_reducible refine eo_par ?_ | with_reducible refine eo_own ?_ | with_reducible refine eo_retN ?_ | with_reducible refine eo_for ?_ | with_reducible refine eo_retO ?_
  | with_reducible refine ev_c ?_ | (with_reducible refine ev_var ?_; refine ⟨_, rfl, ?_⟩) | with_reducible refine ev_bin ?_ | with_reducible refine ev_un ?_ | with_reducible refine ev_nil ?_ | with_reducible refine ev_cons ?_
  | with_reducible refine ev_tup ?_ | with_reducible refine ev_lst ?_ | with_reducible refine ev_call ?_ | with_reducible refine ev_callF ?_ | with_reducible refine ev_isi ?_ | with_reducible refine ev_isi2 ?_ | with_reducible refine ev_andV ?_ | with_reducible refine ev_orV ?_ | with_reducible refine ev_notV ?_
  | with_reducible refine ev_B ?_ | with_reducible refine ev_and ?_ | with_reducible refine ev_or ?_ | with_reducible refine ev_not ?_ | with_reducible refine ev_yes ?_ | with_reducible refine ev_if ?_ | with_reducible refine ev_no ?_ | with_reducible refine ev_so ?_ | with_reducible refine ev_sl ?_ | with_reducible refine ev_items ?_
  | (with_reducible refine ev_ixO ?_; refine ⟨_, _, rfl, rfl, ?_⟩) | (with_reducible refine ev_varO ?_; refine ⟨_, _, rfl, rfl, ?_⟩) | (with_reducible refine ev_lenO ?_; refine ⟨_, _, rfl, rfl, ?_⟩) | (with_reducible refine ev_scrSl ?_; refine ⟨_, rfl, ?_⟩) | (with_reducible refine ev_scrLen ?_; refine ⟨_, rfl, ?_⟩) | (with_reducible refine ev_callScr ?_; refine ⟨_, rfl, ?_⟩) | (with_reducible refine ev_OL ?_; refine ⟨_, _, rfl, rfl, ?_⟩) | with_reducible refine ev_OR ?_ | with_reducible refine ev_rep ?_ | with_reducible refine ev_listRng1 ?_ | with_reducible refine eo_setO ?_
  | with_reducible refine es_name ?_ | with_reducible refine es_tup2 ?_ | with_reducible refine es_tup3 ?_
  | with_reducible refine ed_addI ?_ | with_reducible refine ed_subI ?_ | with_reducible refine ed_cmp ?_ | with_reducible refine ed_eqI ?_ | with_reducible refine ed_neI ?_ | with_reducible refine ed_slT ?_ | with_reducible refine ed_slL ?_ | with_reducible refine ed_lenT ?_ | with_reducible refine ed_lenL ?_ | with_reducible refine ed_lenS ?_ | with_reducible refine ed_inS ?_ | with_reducible refine ed_itT ?_ | with_reducible refine ed_itL ?_ | with_reducible refine ed_tupL ?_ | with_reducible refine ed_tupT ?_ | with_reducible refine ed_listL ?_ | with_reducible refine ed_listT ?_ | with_reducible refine ed_neg ?_ | with_reducible refine ed_max ?_ | with_reducible refine ed_min ?_ | with_reducible refine ed_intB ?_
  | with_reducible refine ev_rng1 ?_ | with_reducible refine ev_rng2 ?_)
local macro_rules | `(tactic| walk_at "sd") => `(tactic| first | rfl | assumption | (simp only [decide_eq_true_eq, decide_eq_false_iff_not, Bool.not_eq_true', Bool.not_eq_false', Bool.and_eq_true, Bool.or_eq_true, List.length_map, List.length_cons, List.length_nil, List.length_append, List.length_range] at *; omega))
local macro_rules | `(tactic| walk_at "e2") => `(tactic| first
  | walk_at "e1" | with_reducible refine ⟨_, rfl, ?_⟩ | with_reducible refine ⟨_, _, rfl, ?_⟩
  | with_reducible refine And.intro (Eq.refl (List.length _)) ?_ | with_reducible refine And.intro (Nat.le_of_ble_eq_true (n := List.length _) rfl) ?_
  | with_reducible refine And.intro (Eq.refl (_ : Sx)) (?_ : Ed _ _)
  | ((with_reducible refine And.intro ?_ (And.intro ?_ (?_ : Ev _ _))); (· rfl); (· rfl))
  | ((with_reducible refine ed_ixT ?_ ?_ ?_); (· decide); (· rfl)) | ((with_reducible refine ed_ixL ?_ ?_ ?_); (· decide); (· rfl)) | ((with_reducible refine ed_at ?_ ?_ ?_); (· decide); (· rfl))
  | ((with_reducible refine ed_modI ?_ ?_); (· first | decide | omega))
  | with_reducible exact gives_nx | ((with_reducible refine gives_rt ?_); (· rfl)) | ((with_reducible refine And.intro ?_ ?_); (· exact rfl); (· with_reducible exact Eq.refl (_ : Sx))))
local macro_rules | `(tactic| walk_at "e") => `(tactic| repeat walk_at "e2")
/-- begin a def's spec -/
local macro_rules | `(tactic| walk_at "i") => `(tactic| simp only [initS, List.map_cons, List.map_nil, List.length_cons, List.length_nil, Nat.reduceAdd, Nat.reduceSub, List.replicate, List.cons_append, List.nil_append])
/-- a known truth decides -/
local macro_rules | `(tactic| walk_at "t") => `(tactic| first | ((with_reducible refine split_t ?_ ?_); (· walk_at "sd")) | ((with_reducible refine split_t' ?_ ?_); (· walk_at "sd")))
local macro_rules | `(tactic| walk_at "f") => `(tactic| first | ((with_reducible refine split_f ?_ ?_); (· walk_at "sd")) | ((with_reducible refine split_f' ?_ ?_); (· walk_at "sd")))
/-- all that is seen in a look -/
local macro_rules | `(tactic| walk_at "v") => `(tactic| (rw [sealAll_mk (by (simp only [List.set_cons_zero, List.set_cons_succ, List.map_cons, List.map_nil, sealS_none, sealS_dat, sealS_scr, sealS_own, List.getElem?_cons_zero, List.getElem?_cons_succ, sealC_lst]; rfl)) (by (simp only [List.set_cons_zero, List.set_cons_succ, List.map_cons, List.map_nil]; rfl))]))
open Rl in
theorem word_nr : m__law_word "NoRide" = some (.str "NoRide") := isS_of (by decide +kernel)
namespace Sp
end Sp
end Lw

set_option maxHeartbeats 4000000
namespace Lw
open PySem Fu
local macro_rules | `(tactic| walk_at "e1") => `(tactic| first
  | with_reducible refine eo_seq ?_ | (with_reducible refine then_nx' ?_; refine ⟨?_, ?_, ?_⟩; rotate_left; · (try dsimp only [List.set, List.length_cons, List.length_nil, List.cons_append, List.nil_append, Nat.zero_add, Nat.reduceAdd]); exact rfl) | with_reducible refine then_rt ?_ | with_reducible refine eo_if ?_ | with_reducible refine eo_ret ?_ | with_reducible refine eo_set ?_ | with_reducible refine eo_asg ?_ | with_reducible refine eo_drop ?_ | with_reducible refine eo_nx ?_ | with_reducible refine eo_par ?_ | with_reducible refine eo_own ?_ | with_reducible refine eo_retN ?_ | with_reducible refine eo_for ?_ | with_reducible refine eo_retO ?_
  | with_reducible refine ev_c ?_ | (with_reducible refine ev_var ?_; refine ⟨_, rfl, ?_⟩) | with_reducible refine ev_bin ?_ | with_reducible refine ev_un ?_ | with_reducible refine ev_nil ?_ | with_reducible refine ev_cons ?_
  | with_reducible refine ev_tup ?_ | with_reducible refine ev_lst ?_ | with_reducible refine ev_call ?_ | with_reducible refine ev_callF ?_ | with_reducible refine ev_isi ?_ | with_reducible refine ev_isi2 ?_ | with_reducible refine ev_andV ?_ | with_reducible refine ev_orV ?_ | with_reducible refine ev_notV ?_
  | with_reducible refine ev_B ?_ | with_reducible refine ev_and ?_ | with_reducible refine ev_or ?_ | with_reducible refine ev_not ?_ | with_reducible refine ev_yes ?_ | with_reducible refine ev_if ?_ | with_reducible refine ev_no ?_ | with_reducible refine ev_so ?_ | with_reducible refine ev_sl ?_ | with_reducible refine ev_items ?_
  | (with_reducible refine ev_ixO ?_; refine ⟨_, _, rfl, rfl, ?_⟩) | (with_reducible refine ev_varO ?_; refine ⟨_, _, rfl, rfl, ?_⟩) | (with_reducible refine ev_lenO ?_; refine ⟨_, _, rfl, rfl, ?_⟩) | (with_reducible refine ev_scrSl ?_; refine ⟨_, rfl, ?_⟩) | (with_reducible refine ev_scrLen ?_; refine ⟨_, rfl, ?_⟩) | (with_reducible refine ev_callScr ?_; refine ⟨_, rfl, ?_⟩) | (with_reducible refine ev_OL ?_; refine ⟨_, _, rfl, rfl, ?_⟩) | with_reducible refine ev_OR ?_ | with_reducible refine ev_rep ?_ | with_reducible refine ev_listRng1 ?_ | with_reducible refine eo_setO ?_
  | with_reducible refine es_name ?_ | with_reducible refine es_tup2 ?_ | with_reducible refine es_tup3 ?_
  | with_reducible refine ed_addI ?_ | with_reducible refine ed_subI ?_ | with_reducible refine ed_cmp ?_ | with_reducible refine ed_eqI ?_ | with_reducible refine ed_neI ?_ | with_reducible refine ed_slT ?_ | with_reducible refine ed_slL ?_ | with_reducible refine ed_lenT ?_ | with_reducible refine ed_lenL ?_ | with_reducible refine ed_lenS ?_ | with_reducible refine ed_inS ?_ | with_reducible refine ed_itT ?_ | with_reducible refine ed_itL ?_ | with_reducible refine ed_tupL ?_ | with_reducible refine ed_tupT ?_ | with_reducible refine ed_listL ?_ | with_reducible refine ed_listT ?_ | with_reducible refine ed_neg ?_ | with_reducible refine ed_max ?_ | with_reducible refine ed_min ?_ | with_reducible refine ed_intB ?_
  | with_reducible refine ev_rng1 ?_ | with_reducible refine ev_rng2 ?_)
local macro_rules | `(tactic| walk_at "sd") => `(tactic| first | rfl | assumption | (simp only [decide_eq_true_eq, decide_eq_false_iff_not, Bool.not_eq_true', Bool.not_eq_false', Bool.and_eq_true, Bool.or_eq_true, List.length_map, List.length_cons, List.length_nil, List.length_append, List.length_range] at *; omega))
local macro_rules | `(tactic| walk_at "e2") => `(tactic| first
  | walk_at "e1" | with_reducible refine ⟨_, rfl, ?_⟩ | with_reducible refine ⟨_, _, rfl, ?_⟩
  | with_reducible refine And.intro (Eq.refl (List.length _)) ?_ | with_reducible refine And.intro (Nat.le_of_ble_eq_true (n := List.length _) rfl) ?_
  | with_reducible refine And.intro (Eq.refl (_ : Sx)) (?_ : Ed _ _)
  | ((with_reducible refine And.intro ?_ (And.intro ?_ (?_ : Ev _ _))); (· rfl); (· rfl))
  | ((with_reducible refine ed_ixT ?_ ?_ ?_); (· decide); (· rfl)) | ((with_reducible refine ed_ixL ?_ ?_ ?_); (· decide); (· rfl)) | ((with_reducible refine ed_at ?_ ?_ ?_); (· decide); (· rfl))
  | ((with_reducible refine ed_modI ?_ ?_); (· first | decide | omega))
  | with_reducible exact gives_nx | ((with_reducible refine gives_rt ?_); (· rfl)) | ((with_reducible refine And.intro ?_ ?_); (· exact rfl); (· with_reducible exact Eq.refl (_ : Sx))))
local macro_rules | `(tactic| walk_at "e") => `(tactic| repeat walk_at "e2")
/-- begin a def's spec -/
local macro_rules | `(tactic| walk_at "i") => `(tactic| simp only [initS, List.map_cons, List.map_nil, List.length_cons, List.length_nil, Nat.reduceAdd, Nat.reduceSub, List.replicate, List.cons_append, List.nil_append])
/-- a known truth decides -/
local macro_rules | `(tactic| walk_at "t") => `(tactic| first | ((with_reducible refine split_t ?_ ?_); (· walk_at "sd")) | ((with_reducible refine split_t' ?_ ?_); (· walk_at "sd")))
local macro_rules | `(tactic| walk_at "f") => `(tactic| first | ((with_reducible refine split_f ?_ ?_); (· walk_at "sd")) | ((with_reducible refine split_f' ?_ ?_); (· walk_at "sd")))
/-- all that is seen in a look -/
local macro_rules | `(tactic| walk_at "v") => `(tactic| (rw [sealAll_mk (by (simp only [List.set_cons_zero, List.set_cons_succ, List.map_cons, List.map_nil, sealS_none, sealS_dat, sealS_scr, sealS_own, List.getElem?_cons_zero, List.getElem?_cons_succ, sealC_lst]; rfl)) (by (simp only [List.set_cons_zero, List.set_cons_succ, List.map_cons, List.map_nil]; rfl))]))
theorem allInts_eq : ∀ ns : List Int, Fu.allInts (ns.map PyData.int) = some ns
  | [] => rfl
  | n :: ns => by
    rw [List.map_cons, Fu.allInts, allInts_eq ns]; rfl
theorem ed_meet {ns ms : List Int} {Q : D → Prop} (h1 : ns.length ≤ 4000) (h2 : ms.length ≤ 4000) (q : Q (.bool (ns.any fun n => decide (n ∈ ms)))) : Ed (dMeet (.list (ns.map PyData.int)) (.list (ms.map PyData.int))) Q := by
  refine ⟨_, ?_, q⟩
  simp only [dMeet, allInts_eq, Option.bind_some]
  rw [if_pos ⟨h1, h2⟩]
theorem sort_perm {ns ms : List Int} (h : ns.Perm ms) : (ns.map PyData.int).mergeSort leD = (ms.map PyData.int).mergeSort leD := by
  have tr : ∀ a b c : D, leD a b = true → leD b c = true → leD a c = true := fun a b c => (PySem.W.sortLe_total _ _ _).trans a b c
  have tt : ∀ a b : D, (leD a b || leD b a) = true := fun a b => by rw [Bool.or_eq_true]; exact (PySem.W.sortLe_total _ _ _).total a b
  refine List.Perm.eq_of_pairwise (le := fun a b => leD a b = true) ?_ (List.pairwise_mergeSort tr tt _) (List.pairwise_mergeSort tr tt _) ((List.mergeSort_perm _ _).trans ((h.map _).trans (List.mergeSort_perm _ _).symm))
  intro a b ha hb h1 h2
  have ha := (List.mergeSort_perm _ _).mem_iff.mp ha
  have hb := (List.mergeSort_perm _ _).mem_iff.mp hb
  obtain ⟨i, _, rfl⟩ := List.mem_map.mp ha
  obtain ⟨j, _, rfl⟩ := List.mem_map.mp hb
  rw [leD_int, decide_eq_true_eq] at h1 h2
  rw [Int.le_antisymm h1 h2]
def share (es fs : List (Int × Int)) : Bool := (es.map Prod.fst).any fun n => decide (n ∈ fs.map Prod.fst)
theorem share_apart {es fs : List (Int × Int)} : share es fs = false ↔ apart es fs := by
  unfold share apart
  rw [List.any_eq_false]
  constructor
  · intro h e he f hf z
    exact h e.1 (List.mem_map.mpr ⟨e, he, rfl⟩) (decide_eq_true (List.mem_map.mpr ⟨f, hf, z.symm⟩))
  · rintro h n hn z
    obtain ⟨e, he, rfl⟩ := List.mem_map.mp hn
    obtain ⟨f, hf, e2⟩ := List.mem_map.mp (of_decide_eq_true z)
    exact h e he f hf e2.symm
section
variable {w d1 d2 : D} {p : Int} {ls : List Ln} {es fs : List (Int × Int)}
theorem z_made_one_ok (hw : Web w p ls) (h : WbOk p ls) (h1 : IsRide d1 es) (h2 : IsRide d2 fs) (hz : es.length ≤ 1000) (hz2 : fs.length ≤ 1000) (he : roundB ls es = true) (hf : roundB ls fs = true) (ha : apart es fs) :
    ∃ d, m_made_one_Z [w, d1, d2] = some (.ok d) ∧ Join ls es fs d := by
  obtain ⟨d, e, J⟩ := x_joined hw h hz hz2 he hf
  refine ⟨d, ?_, J⟩
  unfold m_made_one_Z; refine okv_of (mZ_of ?_); walk_at "i"; unfold g_made_one_Z
  refine oz_seq (oz_set (oz_callK (z := lE es) ?_))
  walk_at "e"
  refine ⟨z_nd_ok hw h h1 (by omega) he, _, _, rfl, _, rfl, oz_seq (oz_set (oz_callK (z := lE fs) ?_))⟩
  walk_at "e"
  refine ⟨z_nd_ok hw h h2 (by omega) hf, _, _, rfl, _, rfl, oz_seq (oz_if ?_)⟩
  unfold lE
  walk_at "e"
  refine ev_mapX (xs := es) (enc := en) (g := fun e => .int e.1) ?_
  walk_at "e"
  refine ⟨rfl, fun x hx => ?_, ?_⟩
  · walk_at "e"
    refine ed_ixQ (isEn_en x) (by decide) rfl ?_
    walk_at "e"
  walk_at "e"
  refine ev_mapX (xs := fs) (enc := en) (g := fun e => .int e.1) ?_
  walk_at "e"
  refine ⟨rfl, fun x hx => ?_, ?_⟩
  · walk_at "e"
    refine ed_ixQ (isEn_en x) (by decide) rfl ?_
    walk_at "e"
  walk_at "e"
  rw [show es.map (fun e => PyData.int e.1) = (es.map Prod.fst).map .int by rw [List.map_map]; rfl, show fs.map (fun e => PyData.int e.1) = (fs.map Prod.fst).map .int by rw [List.map_map]; rfl]
  refine ed_meet (by rw [List.length_map]; omega) (by rw [List.length_map]; omega) ?_
  walk_at "e"
  refine split_f (share_apart.mpr ha) (oz_S ?_)
  walk_at "e"
  refine oz_S ?_
  walk_at "e"
  refine Ed.of e ?_
  walk_at "e"
  rfl
theorem z_made_one_share (hw : Web w p ls) (h : WbOk p ls) (h1 : IsRide d1 es) (h2 : IsRide d2 fs) (hz : es.length ≤ 1000) (hz2 : fs.length ≤ 1000) (he : roundB ls es = true) (hf : roundB ls fs = true) (ha : share es fs = true) : m_made_one_Z [w, d1, d2] = some (.error "NoRide") := by
  unfold m_made_one_Z; refine erz_of (mZ_of ?_); walk_at "i"; unfold g_made_one_Z
  refine oz_seq (oz_set (oz_callK (z := lE es) ?_))
  walk_at "e"
  refine ⟨z_nd_ok hw h h1 (by omega) he, _, _, rfl, _, rfl, oz_seq (oz_set (oz_callK (z := lE fs) ?_))⟩
  walk_at "e"
  refine ⟨z_nd_ok hw h h2 (by omega) hf, _, _, rfl, _, rfl, oz_seqE (oz_if ?_)⟩
  unfold lE
  walk_at "e"
  refine ev_mapX (xs := es) (enc := en) (g := fun e => .int e.1) ?_
  walk_at "e"
  refine ⟨rfl, fun x hx => ?_, ?_⟩
  · walk_at "e"
    refine ed_ixQ (isEn_en x) (by decide) rfl ?_
    walk_at "e"
  walk_at "e"
  refine ev_mapX (xs := fs) (enc := en) (g := fun e => .int e.1) ?_
  walk_at "e"
  refine ⟨rfl, fun x hx => ?_, ?_⟩
  · walk_at "e"
    refine ed_ixQ (isEn_en x) (by decide) rfl ?_
    walk_at "e"
  walk_at "e"
  rw [show es.map (fun e => PyData.int e.1) = (es.map Prod.fst).map .int by rw [List.map_map]; rfl, show fs.map (fun e => PyData.int e.1) = (fs.map Prod.fst).map .int by rw [List.map_map]; rfl]
  refine ed_meet (by rw [List.length_map]; omega) (by rw [List.length_map]; omega) ?_
  walk_at "e"
  refine split_t ha (oz_raise ⟨_, rfl, ?_⟩)
  rfl
end
end Lw

set_option maxHeartbeats 4000000
namespace Lw
open PySem Fu
local macro_rules | `(tactic| walk_at "e1") => `(tactic| first
  | with_reducible refine eo_seq ?_ | (with_reducible refine then_nx' ?_; refine ⟨?_, ?_, ?_⟩; rotate_left; · (try dsimp only [List.set, List.length_cons, List.length_nil, List.cons_append, List.nil_append, Nat.zero_add, Nat.reduceAdd]); exact rfl) | with_reducible refine then_rt ?_ | with_reducible refine eo_if ?_ | with_reducible refine eo_ret ?_ | with_reducible refine eo_set ?_ | with_reducible refine eo_asg ?_ | with_reducible refine eo_drop ?_ | with_reducible refine eo_nx ?_ | with_reducible refine eo_par ?_ | with_reducible refine eo_own ?_ | with_reducible refine eo_retN ?_ | with_reducible refine eo_for ?_ | with_reducible refine eo_retO ?_
  | with_reducible refine ev_c ?_ | (with_reducible refine ev_var ?_; refine ⟨_, rfl, ?_⟩) | with_reducible refine ev_bin ?_ | with_reducible refine ev_un ?_ | with_reducible refine ev_nil ?_ | with_reducible refine ev_cons ?_
  | with_reducible refine ev_tup ?_ | with_reducible refine ev_lst ?_ | with_reducible refine ev_call ?_ | with_reducible refine ev_callF ?_ | with_reducible refine ev_isi ?_ | with_reducible refine ev_isi2 ?_ | with_reducible refine ev_andV ?_ | with_reducible refine ev_orV ?_ | with_reducible refine ev_notV ?_
  | with_reducible refine ev_B ?_ | with_reducible refine ev_and ?_ | with_reducible refine ev_or ?_ | with_reducible refine ev_not ?_ | with_reducible refine ev_yes ?_ | with_reducible refine ev_if ?_ | with_reducible refine ev_no ?_ | with_reducible refine ev_so ?_ | with_reducible refine ev_sl ?_ | with_reducible refine ev_items ?_
  | (with_reducible refine ev_ixO ?_; refine ⟨_, _, rfl, rfl, ?_⟩) | (with_reducible refine ev_varO ?_; refine ⟨_, _, rfl, rfl, ?_⟩) | (with_reducible refine ev_lenO ?_; refine ⟨_, _, rfl, rfl, ?_⟩) | (with_reducible refine ev_scrSl ?_; refine ⟨_, rfl, ?_⟩) | (with_reducible refine ev_scrLen ?_; refine ⟨_, rfl, ?_⟩) | (with_reducible refine ev_callScr ?_; refine ⟨_, rfl, ?_⟩) | (with_reducible refine ev_OL ?_; refine ⟨_, _, rfl, rfl, ?_⟩) | with_reducible refine ev_OR ?_ | with_reducible refine ev_rep ?_ | with_reducible refine ev_listRng1 ?_ | with_reducible refine eo_setO ?_
  | with_reducible refine es_name ?_ | with_reducible refine es_tup2 ?_ | with_reducible refine es_tup3 ?_
  | with_reducible refine ed_addI ?_ | with_reducible refine ed_subI ?_ | with_reducible refine ed_cmp ?_ | with_reducible refine ed_eqI ?_ | with_reducible refine ed_neI ?_ | with_reducible refine ed_slT ?_ | with_reducible refine ed_slL ?_ | with_reducible refine ed_lenT ?_ | with_reducible refine ed_lenL ?_ | with_reducible refine ed_lenS ?_ | with_reducible refine ed_inS ?_ | with_reducible refine ed_itT ?_ | with_reducible refine ed_itL ?_ | with_reducible refine ed_tupL ?_ | with_reducible refine ed_tupT ?_ | with_reducible refine ed_listL ?_ | with_reducible refine ed_listT ?_ | with_reducible refine ed_neg ?_ | with_reducible refine ed_max ?_ | with_reducible refine ed_min ?_ | with_reducible refine ed_intB ?_
  | with_reducible refine ev_rng1 ?_ | with_reducible refine ev_rng2 ?_)
local macro_rules | `(tactic| walk_at "sd") => `(tactic| first | rfl | assumption | (simp only [decide_eq_true_eq, decide_eq_false_iff_not, Bool.not_eq_true', Bool.not_eq_false', Bool.and_eq_true, Bool.or_eq_true, List.length_map, List.length_cons, List.length_nil, List.length_append, List.length_range] at *; omega))
local macro_rules | `(tactic| walk_at "e2") => `(tactic| first
  | walk_at "e1" | with_reducible refine ⟨_, rfl, ?_⟩ | with_reducible refine ⟨_, _, rfl, ?_⟩
  | with_reducible refine And.intro (Eq.refl (List.length _)) ?_ | with_reducible refine And.intro (Nat.le_of_ble_eq_true (n := List.length _) rfl) ?_
  | with_reducible refine And.intro (Eq.refl (_ : Sx)) (?_ : Ed _ _)
  | ((with_reducible refine And.intro ?_ (And.intro ?_ (?_ : Ev _ _))); (· rfl); (· rfl))
  | ((with_reducible refine ed_ixT ?_ ?_ ?_); (· decide); (· rfl)) | ((with_reducible refine ed_ixL ?_ ?_ ?_); (· decide); (· rfl)) | ((with_reducible refine ed_at ?_ ?_ ?_); (· decide); (· rfl))
  | ((with_reducible refine ed_modI ?_ ?_); (· first | decide | omega))
  | with_reducible exact gives_nx | ((with_reducible refine gives_rt ?_); (· rfl)) | ((with_reducible refine And.intro ?_ ?_); (· exact rfl); (· with_reducible exact Eq.refl (_ : Sx))))
local macro_rules | `(tactic| walk_at "e") => `(tactic| repeat walk_at "e2")
/-- begin a def's spec -/
local macro_rules | `(tactic| walk_at "i") => `(tactic| simp only [initS, List.map_cons, List.map_nil, List.length_cons, List.length_nil, Nat.reduceAdd, Nat.reduceSub, List.replicate, List.cons_append, List.nil_append])
/-- a known truth decides -/
local macro_rules | `(tactic| walk_at "t") => `(tactic| first | ((with_reducible refine split_t ?_ ?_); (· walk_at "sd")) | ((with_reducible refine split_t' ?_ ?_); (· walk_at "sd")))
local macro_rules | `(tactic| walk_at "f") => `(tactic| first | ((with_reducible refine split_f ?_ ?_); (· walk_at "sd")) | ((with_reducible refine split_f' ?_ ?_); (· walk_at "sd")))
/-- all that is seen in a look -/
local macro_rules | `(tactic| walk_at "v") => `(tactic| (rw [sealAll_mk (by (simp only [List.set_cons_zero, List.set_cons_succ, List.map_cons, List.map_nil, sealS_none, sealS_dat, sealS_scr, sealS_own, List.getElem?_cons_zero, List.getElem?_cons_succ, sealC_lst]; rfl)) (by (simp only [List.set_cons_zero, List.set_cons_succ, List.map_cons, List.map_nil]; rfl))]))
open Rl
theorem ev_notNx {S : Sx} {i : Nat} {c : Str} {Q : D → Sx → Prop} (h : S.sl[i]? = some (some (.exc c))) (q : Q (.bool true) S) : Ev (gNotN i S) Q := ⟨_, _, by simp only [gNotN, gIsN, h, Option.bind_some, Bool.not_false], q⟩
theorem ev_notN0 {S : Sx} {i : Nat} {Q : D → Sx → Prop} (h : S.sl[i]? = some (some (.dat .none))) (q : Q (.bool false) S) : Ev (gNotN i S) Q := ⟨_, _, by simp only [gNotN, gIsN, h, Option.bind_some, Bool.not_true], q⟩
theorem join_fst {ls : List Ln} {es fs : List (Int × Int)} {k : Nat} {v : List (Int × Int)} (hv : v ∈ ways fs) : ((rot k es ++ v).map Prod.fst).Perm ((es ++ fs).map Prod.fst) := by
  rw [List.map_append, List.map_append]
  exact ((rot_perm k es).map _).append (ways_fst hv)
theorem join_ok {ls : List Ln} {es fs : List (Int × Int)} {k : Nat} {v : List (Int × Int)} (he : roundB ls es = true) (hf : roundB ls fs = true) (ha : apart es fs) (hv : v ∈ ways fs) (hfit : fits ls (rot k es) v = true) : roundB ls (rot k es ++ v) = true := by
  refine join_round (round_rot k he) (ways_round hf hv) (fun a h1 b h2 z => ?_) hfit
  have h3 := (rot_perm k es).mem_iff.mp h1
  have h4 : b.1 ∈ fs.map Prod.fst := (ways_fst hv).mem_iff.mp (List.mem_map.mpr ⟨b, h2, rfl⟩)
  obtain ⟨f, hf2, e⟩ := List.mem_map.mp h4
  exact ha a h3 f hf2 (z.trans e.symm)
theorem far_place {ls : List Ln} {fs : List (Int × Int)} (hf : roundB ls fs = true) {x : Int × Int} (hx : x ∈ fs) : ∃ f ∈ fs, plc ls (far x) = plc ls f := by
  obtain ⟨i, hi, rfl⟩ := List.mem_iff_getElem.mp hx
  obtain ⟨u1, u2⟩ := rot_head hi
  have hr := round_rot i hf
  have hm : ∀ y ∈ rot i fs, y ∈ fs := fun y hy => (rot_perm i fs).mem_iff.mp hy
  generalize rot i fs = u at u1 u2 hr hm
  obtain ⟨r1, g⟩ := roundB_iff.mp hr
  have hc := (rideB_iff.mp r1).2.2.2
  match u, u2 with
  | [y], _ =>
    have e1 : y = fs[i] := u1
    subst e1
    unfold goesB at g
    simp only [Bool.and_eq_true, decide_eq_true_eq] at g
    exact ⟨_, hx, g.1⟩
  | y :: f :: r, _ =>
    have e1 : y = fs[i] := u1
    subst e1
    rw [chain, Bool.and_eq_true] at hc
    have g := hc.1
    unfold goesB at g
    simp only [Bool.and_eq_true, decide_eq_true_eq] at g
    exact ⟨f, hm f (by simp), g.1⟩
theorem ed_sortI {ns : List Int} {Q : D → Prop} (q : Q (.list ((ns.map PyData.int).mergeSort leD))) : Ed (dSorted [.list (ns.map PyData.int)]) Q :=
  ⟨_, by simp only [dSorted, sortOk_ints, if_true], q⟩
theorem good_sortI (ns : List Int) : Good 1 (.list ((ns.map PyData.int).mergeSort leD)) := good_list fun d hd => by
  have hd := (List.mergeSort_perm _ _).mem_iff.mp hd
  obtain ⟨i, _, rfl⟩ := List.mem_map.mp hd
  exact good_int i
namespace Sp
end Sp
end Lw

set_option maxHeartbeats 4000000
namespace Lw
open PySem Fu
local macro_rules | `(tactic| walk_at "e1") => `(tactic| first
  | with_reducible refine eo_seq ?_ | (with_reducible refine then_nx' ?_; refine ⟨?_, ?_, ?_⟩; rotate_left; · (try dsimp only [List.set, List.length_cons, List.length_nil, List.cons_append, List.nil_append, Nat.zero_add, Nat.reduceAdd]); exact rfl) | with_reducible refine then_rt ?_ | with_reducible refine eo_if ?_ | with_reducible refine eo_ret ?_ | with_reducible refine eo_set ?_ | with_reducible refine eo_asg ?_ | with_reducible refine eo_drop ?_ | with_reducible refine eo_nx ?_ | with_reducible refine eo_par ?_ | with_reducible refine eo_own ?_ | with_reducible refine eo_retN ?_ | with_reducible refine eo_for ?_ | with_reducible refine eo_retO ?_
  | with_reducible refine ev_c ?_ | (with_reducible refine ev_var ?_; refine ⟨_, rfl, ?_⟩) | with_reducible refine ev_bin ?_ | with_reducible refine ev_un ?_ | with_reducible refine ev_nil ?_ | with_reducible refine ev_cons ?_
  | with_reducible refine ev_tup ?_ | with_reducible refine ev_lst ?_ | with_reducible refine ev_call ?_ | with_reducible refine ev_callF ?_ | with_reducible refine ev_isi ?_ | with_reducible refine ev_isi2 ?_ | with_reducible refine ev_andV ?_ | with_reducible refine ev_orV ?_ | with_reducible refine ev_notV ?_
  | with_reducible refine ev_B ?_ | with_reducible refine ev_and ?_ | with_reducible refine ev_or ?_ | with_reducible refine ev_not ?_ | with_reducible refine ev_yes ?_ | with_reducible refine ev_if ?_ | with_reducible refine ev_no ?_ | with_reducible refine ev_so ?_ | with_reducible refine ev_sl ?_ | with_reducible refine ev_items ?_
  | (with_reducible refine ev_ixO ?_; refine ⟨_, _, rfl, rfl, ?_⟩) | (with_reducible refine ev_varO ?_; refine ⟨_, _, rfl, rfl, ?_⟩) | (with_reducible refine ev_lenO ?_; refine ⟨_, _, rfl, rfl, ?_⟩) | (with_reducible refine ev_scrSl ?_; refine ⟨_, rfl, ?_⟩) | (with_reducible refine ev_scrLen ?_; refine ⟨_, rfl, ?_⟩) | (with_reducible refine ev_callScr ?_; refine ⟨_, rfl, ?_⟩) | (with_reducible refine ev_OL ?_; refine ⟨_, _, rfl, rfl, ?_⟩) | with_reducible refine ev_OR ?_ | with_reducible refine ev_rep ?_ | with_reducible refine ev_listRng1 ?_ | with_reducible refine eo_setO ?_
  | with_reducible refine es_name ?_ | with_reducible refine es_tup2 ?_ | with_reducible refine es_tup3 ?_
  | with_reducible refine ed_addI ?_ | with_reducible refine ed_subI ?_ | with_reducible refine ed_cmp ?_ | with_reducible refine ed_eqI ?_ | with_reducible refine ed_neI ?_ | with_reducible refine ed_slT ?_ | with_reducible refine ed_slL ?_ | with_reducible refine ed_lenT ?_ | with_reducible refine ed_lenL ?_ | with_reducible refine ed_lenS ?_ | with_reducible refine ed_inS ?_ | with_reducible refine ed_itT ?_ | with_reducible refine ed_itL ?_ | with_reducible refine ed_tupL ?_ | with_reducible refine ed_tupT ?_ | with_reducible refine ed_listL ?_ | with_reducible refine ed_listT ?_ | with_reducible refine ed_neg ?_ | with_reducible refine ed_max ?_ | with_reducible refine ed_min ?_ | with_reducible refine ed_intB ?_
  | with_reducible refine ev_rng1 ?_ | with_reducible refine ev_rng2 ?_)
local macro_rules | `(tactic| walk_at "sd") => `(tactic| first | rfl | assumption | (simp only [decide_eq_true_eq, decide_eq_false_iff_not, Bool.not_eq_true', Bool.not_eq_false', Bool.and_eq_true, Bool.or_eq_true, List.length_map, List.length_cons, List.length_nil, List.length_append, List.length_range] at *; omega))
local macro_rules | `(tactic| walk_at "e2") => `(tactic| first
  | walk_at "e1" | with_reducible refine ⟨_, rfl, ?_⟩ | with_reducible refine ⟨_, _, rfl, ?_⟩
  | with_reducible refine And.intro (Eq.refl (List.length _)) ?_ | with_reducible refine And.intro (Nat.le_of_ble_eq_true (n := List.length _) rfl) ?_
  | with_reducible refine And.intro (Eq.refl (_ : Sx)) (?_ : Ed _ _)
  | ((with_reducible refine And.intro ?_ (And.intro ?_ (?_ : Ev _ _))); (· rfl); (· rfl))
  | ((with_reducible refine ed_ixT ?_ ?_ ?_); (· decide); (· rfl)) | ((with_reducible refine ed_ixL ?_ ?_ ?_); (· decide); (· rfl)) | ((with_reducible refine ed_at ?_ ?_ ?_); (· decide); (· rfl))
  | ((with_reducible refine ed_modI ?_ ?_); (· first | decide | omega))
  | with_reducible exact gives_nx | ((with_reducible refine gives_rt ?_); (· rfl)) | ((with_reducible refine And.intro ?_ ?_); (· exact rfl); (· with_reducible exact Eq.refl (_ : Sx))))
local macro_rules | `(tactic| walk_at "e") => `(tactic| repeat walk_at "e2")
/-- begin a def's spec -/
local macro_rules | `(tactic| walk_at "i") => `(tactic| simp only [initS, List.map_cons, List.map_nil, List.length_cons, List.length_nil, Nat.reduceAdd, Nat.reduceSub, List.replicate, List.cons_append, List.nil_append])
/-- a known truth decides -/
local macro_rules | `(tactic| walk_at "t") => `(tactic| first | ((with_reducible refine split_t ?_ ?_); (· walk_at "sd")) | ((with_reducible refine split_t' ?_ ?_); (· walk_at "sd")))
local macro_rules | `(tactic| walk_at "f") => `(tactic| first | ((with_reducible refine split_f ?_ ?_); (· walk_at "sd")) | ((with_reducible refine split_f' ?_ ?_); (· walk_at "sd")))
/-- all that is seen in a look -/
local macro_rules | `(tactic| walk_at "v") => `(tactic| (rw [sealAll_mk (by (simp only [List.set_cons_zero, List.set_cons_succ, List.map_cons, List.map_nil, sealS_none, sealS_dat, sealS_scr, sealS_own, List.getElem?_cons_zero, List.getElem?_cons_succ, sealC_lst]; rfl)) (by (simp only [List.set_cons_zero, List.set_cons_succ, List.map_cons, List.map_nil]; rfl))]))
section
variable {w d : D} {p : Int} {ls : List Ln} {es gs : List (Int × Int)}
end
end Lw

set_option maxHeartbeats 4000000
namespace Lw
open PySem Fu
local macro_rules | `(tactic| walk_at "e1") => `(tactic| first
  | with_reducible refine eo_seq ?_ | (with_reducible refine then_nx' ?_; refine ⟨?_, ?_, ?_⟩; rotate_left; · (try dsimp only [List.set, List.length_cons, List.length_nil, List.cons_append, List.nil_append, Nat.zero_add, Nat.reduceAdd]); exact rfl) | with_reducible refine then_rt ?_ | with_reducible refine eo_if ?_ | with_reducible refine eo_ret ?_ | with_reducible refine eo_set ?_ | with_reducible refine eo_asg ?_ | with_reducible refine eo_drop ?_ | with_reducible refine eo_nx ?_ | with_reducible refine eo_par ?_ | with_reducible refine eo_own ?_ | with_reducible refine eo_retN ?_ | with_reducible refine eo_for ?_ | with_reducible refine eo_retO ?_
  | with_reducible refine ev_c ?_ | (with_reducible refine ev_var ?_; refine ⟨_, rfl, ?_⟩) | with_reducible refine ev_bin ?_ | with_reducible refine ev_un ?_ | with_reducible refine ev_nil ?_ | with_reducible refine ev_cons ?_
  | with_reducible refine ev_tup ?_ | with_reducible refine ev_lst ?_ | with_reducible refine ev_call ?_ | with_reducible refine ev_callF ?_ | with_reducible refine ev_isi ?_ | with_reducible refine ev_isi2 ?_ | with_reducible refine ev_andV ?_ | with_reducible refine ev_orV ?_ | with_reducible refine ev_notV ?_
  | with_reducible refine ev_B ?_ | with_reducible refine ev_and ?_ | with_reducible refine ev_or ?_ | with_reducible refine ev_not ?_ | with_reducible refine ev_yes ?_ | with_reducible refine ev_if ?_ | with_reducible refine ev_no ?_ | with_reducible refine ev_so ?_ | with_reducible refine ev_sl ?_ | with_reducible refine ev_items ?_
  | (with_reducible refine ev_ixO ?_; refine ⟨_, _, rfl, rfl, ?_⟩) | (with_reducible refine ev_varO ?_; refine ⟨_, _, rfl, rfl, ?_⟩) | (with_reducible refine ev_lenO ?_; refine ⟨_, _, rfl, rfl, ?_⟩) | (with_reducible refine ev_scrSl ?_; refine ⟨_, rfl, ?_⟩) | (with_reducible refine ev_scrLen ?_; refine ⟨_, rfl, ?_⟩) | (with_reducible refine ev_callScr ?_; refine ⟨_, rfl, ?_⟩) | (with_reducible refine ev_OL ?_; refine ⟨_, _, rfl, rfl, ?_⟩) | with_reducible refine ev_OR ?_ | with_reducible refine ev_rep ?_ | with_reducible refine ev_listRng1 ?_ | with_reducible refine eo_setO ?_
  | with_reducible refine es_name ?_ | with_reducible refine es_tup2 ?_ | with_reducible refine es_tup3 ?_
  | with_reducible refine ed_addI ?_ | with_reducible refine ed_subI ?_ | with_reducible refine ed_cmp ?_ | with_reducible refine ed_eqI ?_ | with_reducible refine ed_neI ?_ | with_reducible refine ed_slT ?_ | with_reducible refine ed_slL ?_ | with_reducible refine ed_lenT ?_ | with_reducible refine ed_lenL ?_ | with_reducible refine ed_lenS ?_ | with_reducible refine ed_inS ?_ | with_reducible refine ed_itT ?_ | with_reducible refine ed_itL ?_ | with_reducible refine ed_tupL ?_ | with_reducible refine ed_tupT ?_ | with_reducible refine ed_listL ?_ | with_reducible refine ed_listT ?_ | with_reducible refine ed_neg ?_ | with_reducible refine ed_max ?_ | with_reducible refine ed_min ?_ | with_reducible refine ed_intB ?_
  | with_reducible refine ev_rng1 ?_ | with_reducible refine ev_rng2 ?_)
local macro_rules | `(tactic| walk_at "sd") => `(tactic| first | rfl | assumption | (simp only [decide_eq_true_eq, decide_eq_false_iff_not, Bool.not_eq_true', Bool.not_eq_false', Bool.and_eq_true, Bool.or_eq_true, List.length_map, List.length_cons, List.length_nil, List.length_append, List.length_range] at *; omega))
local macro_rules | `(tactic| walk_at "e2") => `(tactic| first
  | walk_at "e1" | with_reducible refine ⟨_, rfl, ?_⟩ | with_reducible refine ⟨_, _, rfl, ?_⟩
  | with_reducible refine And.intro (Eq.refl (List.length _)) ?_ | with_reducible refine And.intro (Nat.le_of_ble_eq_true (n := List.length _) rfl) ?_
  | with_reducible refine And.intro (Eq.refl (_ : Sx)) (?_ : Ed _ _)
  | ((with_reducible refine And.intro ?_ (And.intro ?_ (?_ : Ev _ _))); (· rfl); (· rfl))
  | ((with_reducible refine ed_ixT ?_ ?_ ?_); (· decide); (· rfl)) | ((with_reducible refine ed_ixL ?_ ?_ ?_); (· decide); (· rfl)) | ((with_reducible refine ed_at ?_ ?_ ?_); (· decide); (· rfl))
  | ((with_reducible refine ed_modI ?_ ?_); (· first | decide | omega))
  | with_reducible exact gives_nx | ((with_reducible refine gives_rt ?_); (· rfl)) | ((with_reducible refine And.intro ?_ ?_); (· exact rfl); (· with_reducible exact Eq.refl (_ : Sx))))
local macro_rules | `(tactic| walk_at "e") => `(tactic| repeat walk_at "e2")
/-- begin a def's spec -/
local macro_rules | `(tactic| walk_at "i") => `(tactic| simp only [initS, List.map_cons, List.map_nil, List.length_cons, List.length_nil, Nat.reduceAdd, Nat.reduceSub, List.replicate, List.cons_append, List.nil_append])
/-- a known truth decides -/
local macro_rules | `(tactic| walk_at "t") => `(tactic| first | ((with_reducible refine split_t ?_ ?_); (· walk_at "sd")) | ((with_reducible refine split_t' ?_ ?_); (· walk_at "sd")))
local macro_rules | `(tactic| walk_at "f") => `(tactic| first | ((with_reducible refine split_f ?_ ?_); (· walk_at "sd")) | ((with_reducible refine split_f' ?_ ?_); (· walk_at "sd")))
/-- all that is seen in a look -/
local macro_rules | `(tactic| walk_at "v") => `(tactic| (rw [sealAll_mk (by (simp only [List.set_cons_zero, List.set_cons_succ, List.map_cons, List.map_nil, sealS_none, sealS_dat, sealS_scr, sealS_own, List.getElem?_cons_zero, List.getElem?_cons_succ, sealC_lst]; rfl)) (by (simp only [List.set_cons_zero, List.set_cons_succ, List.map_cons, List.map_nil]; rfl))]))
namespace Sp
def spot (s0 s1 : Int) (b : Nat) : Int := if b % 2 = 0 then s0 else s1
def TwoL (s0 s1 : Int) (ls : List Ln) : Prop := ∀ k l, ls[k]? = some l → l.2.2 = 97 + k ∧ ((l.1 = s0 ∧ l.2.1 = s1) ∨ (l.1 = s1 ∧ l.2.1 = s0))
theorem two_snoc {s0 s1 : Int} {ls : List Ln} {l : Ln} (h : TwoL s0 s1 ls) (h1 : l.2.2 = 97 + ls.length) (h2 : (l.1 = s0 ∧ l.2.1 = s1) ∨ (l.1 = s1 ∧ l.2.1 = s0)) : TwoL s0 s1 (ls ++ [l]) := by
  intro k m hm
  by_cases hk : k < ls.length
  · rw [List.getElem?_append_left hk] at hm; exact h k m hm
  · have := (List.getElem?_eq_some_iff.mp hm).1
    simp at this
    have e : k = ls.length := by omega
    subst e
    simp at hm
    subst hm
    exact ⟨h1, h2⟩
theorem abc9 : ∀ i < 9, (Str.ofString "abcdefghi").cps.toList[i]? = some (97 + i) := by decide +kernel
theorem x__law_lined {c : Nat} {cs : List D} (hR : Reel c cs) (hc : 40 ≤ c) : ∃ d cs', m__law_lined cs [] = some (d, cs') ∧ ∃ (s0 s1 : Int) (ls : List Ln), d = .tuple [wb 3 ls, .tuple [.int s0, .int s1]] ∧ s0 ≠ s1 ∧ TwoL s0 s1 ls ∧ WbOk 3 ls ∧ 4 ≤ ls.length ∧ ls.length ≤ 9 ∧ Reel (c - 40) cs' := by
  unfold m__law_lined; refine mIO_of ?_; walk_at "i"; unfold g__law_lined
  walk_at "e"
  refine ev_drawR ⟨_, rfl, ?_⟩
  walk_at "e"
  refine ⟨_, _, _, rfl, rfl, hR, by omega, by decide, by decide, fun v1 cs a1 b1 hR => ?_⟩
  refine ed_pick (P := fun d => ∃ s0 s1 : Int, d = .tuple [.int s0, .int s1] ∧ s0 ≠ s1 ∧ 0 ≤ s0 ∧ s0 < 3 ∧ 0 ≤ s1 ∧ s1 < 3) a1 b1 (fun d hd => ?_) ?_
  · simp only [List.mem_cons, List.not_mem_nil, or_false] at hd
    rcases hd with rfl | rfl | rfl | rfl <;> exact ⟨_, _, rfl, by decide, by decide, by decide, by decide, by decide⟩
  rintro _ ⟨s0, s1, rfl, hne, a0, a1', b0, b1'⟩
  walk_at "e"
  refine ev_drawR ⟨_, rfl, ?_⟩
  walk_at "e"
  refine ⟨_, _, _, rfl, rfl, hR, by omega, by decide, by decide, fun v2 cs a2 b2 hR => ?_⟩
  walk_at "e"
  refine ⟨by omega, by omega, ?_⟩
  refine eo_loop (fun i S => ∃ x4 x5 cs ls, S = ⟨[some (.own 0), some (.dat (.tuple [.int s0, .int s1])), some (.dat (.int (4 + v2))), some (.own 1), x4, x5], [some (.lst cs), some (.lst (ls.map ln))]⟩ ∧ ls.length = i ∧ TwoL s0 s1 ls ∧ (∀ l ∈ ls, LnOk 3 l) ∧ Reel ((c - 2) - i) cs) ⟨_, _, _, [], rfl, rfl, fun k l h => by simp at h, fun l h => by simp at h, hR.mono (by omega)⟩ ?_ ?_
  · rintro i z S hz ⟨x4, x5, cs, ls, rfl, rfl, ht, ho, hR⟩
    obtain ⟨hi, rfl⟩ := rng_at hz
    have hi : ls.length < 9 := by omega
    walk_at "e"
    refine ev_drawR ⟨_, rfl, ?_⟩
    walk_at "e"
    refine ⟨_, _, _, rfl, rfl, hR, by omega, by decide, by decide, fun v3 cs a3 b3 hR => ?_⟩
    walk_at "e"
    have hch : (Str.ofString "abcdefghi").cps.toList[(0 + (ls.length : Int)).toNat]? = some (97 + ls.length) := by
      rw [show (0 + (ls.length : Int)).toNat = ls.length by omega]
      exact abc9 _ hi
    refine ev_app ⟨_, _, rfl, rfl, ?_⟩
    obtain rfl | rfl : v3 = 0 ∨ v3 = 1 := by omega
    · walk_at "e"
      refine ed_ixT (by decide) rfl ?_
      walk_at "e"
      refine ed_ixT (by decide) rfl ?_
      walk_at "e"
      refine ed_ixS (by omega) hch ?_
      walk_at "e"
      refine ⟨by simp; omega, _, rfl, _, _, _, ls ++ [(s0, s1, 97 + ls.length)], by rw [List.map_append]; rfl, by simp, two_snoc ht rfl (.inl ⟨rfl, rfl⟩), fun l hl => ?_, hR.mono (by omega)⟩
      rcases List.mem_append.mp hl with hl | hl
      · exact ho l hl
      · rw [List.mem_singleton.mp hl]; exact ⟨a0, a1', b0, b1', by constructor <;> (dsimp only; omega)⟩
    · walk_at "e"
      refine ed_ixT (by decide) rfl ?_
      walk_at "e"
      refine ed_ixT (by decide) rfl ?_
      walk_at "e"
      refine ed_ixS (by omega) hch ?_
      walk_at "e"
      refine ⟨by simp; omega, _, rfl, _, _, _, ls ++ [(s1, s0, 97 + ls.length)], by rw [List.map_append]; rfl, by simp, two_snoc ht rfl (.inr ⟨rfl, rfl⟩), fun l hl => ?_, hR.mono (by omega)⟩
      rcases List.mem_append.mp hl with hl | hl
      · exact ho l hl
      · rw [List.mem_singleton.mp hl]; exact ⟨b0, b1', a0, a1', by constructor <;> (dsimp only; omega)⟩
  · rintro S ⟨x4, x5, cs, ls, rfl, hl, ht, ho, hR⟩
    walk_at "e"
    exact ⟨cs, rfl, s0, s1, ls, rfl, hne, ht, ⟨by decide, ho, by have := hl.trans (rng_len _ _); omega⟩, by have := hl.trans (rng_len _ _); omega, by have := hl.trans (rng_len _ _); omega, hR.mono (by have := hl.trans (rng_len _ _); omega)⟩
/-- rides that go between two places -/
def alt (s0 s1 : Int) (ls : List Ln) : Nat → List (Int × Int) → Prop
  | _, [] => True
  | b, e :: es => EndOk ls.length e ∧ plc ls e = spot s0 s1 b ∧ alt s0 s1 ls (b + 1) es
theorem alt_snoc {s0 s1 : Int} {ls : List Ln} : ∀ {b : Nat} {es : List (Int × Int)} {e : Int × Int}, alt s0 s1 ls b es → EndOk ls.length e → plc ls e = spot s0 s1 (b + es.length) → alt s0 s1 ls b (es ++ [e])
  | b, [], e, _, h1, h2 => ⟨h1, h2, trivial⟩
  | b, f :: es, e, ⟨g1, g2, g3⟩, h1, h2 => ⟨g1, g2, alt_snoc g3 h1 (by rw [h2, List.length_cons]; congr 1; omega)⟩
theorem alt_ok {s0 s1 : Int} {ls : List Ln} : ∀ {b : Nat} {es : List (Int × Int)}, alt s0 s1 ls b es → ∀ e ∈ es, EndOk ls.length e
  | b, [], _, e, he => by cases he
  | b, f :: es, ⟨g1, g2, g3⟩, e, he => by
    rcases List.mem_cons.mp he with rfl | he
    · exact g1
    · exact alt_ok g3 e he
theorem spot_flip {s0 s1 : Int} (h : s0 ≠ s1) (b : Nat) : spot s0 s1 (b + 1) ≠ spot s0 s1 b := by
  unfold spot
  rcases Nat.mod_two_eq_zero_or_one b with hb | hb
  · rw [if_neg (by omega), if_pos hb]; exact h.symm
  · rw [if_pos (by omega), if_neg (by omega)]; exact h
theorem far_spot {s0 s1 : Int} {ls : List Ln} {e : Int × Int} {b : Nat} (ht : TwoL s0 s1 ls) (hne : s0 ≠ s1) (he : EndOk ls.length e) (hp : plc ls e = spot s0 s1 b) : plc ls (far e) = spot s0 s1 (b + 1) ∧ cmpy ls e = 97 + e.1.toNat := by
  obtain ⟨l, hl, _⟩ := end_line rfl he
  obtain ⟨h1, h2⟩ := ht _ _ hl
  have hs : e.2 = 0 ∨ e.2 = 1 := by have := he.2.2.1; have := he.2.2.2; omega
  refine ⟨?_, by unfold cmpy; rw [hl]; exact h1⟩
  unfold plc at hp ⊢
  have hf : (far e).1.toNat = e.1.toNat := rfl
  rw [hf]
  rw [hl] at hp ⊢
  simp only at hp ⊢
  have hfl := spot_flip hne b
  have two : ∀ x : Int, (x = s0 ∨ x = s1) → x ≠ spot s0 s1 b → x = spot s0 s1 (b + 1) := by
    intro x hx hxb
    unfold spot at hxb ⊢
    rcases Nat.mod_two_eq_zero_or_one b with hb | hb
    · rw [if_pos hb] at hxb; rw [if_neg (by omega)]; rcases hx with h | h; exact absurd h hxb; exact h
    · rw [if_neg (by omega)] at hxb; rw [if_pos (by omega)]; rcases hx with h | h; exact h; exact absurd h hxb
  rcases hs with hs | hs
  · have e1 : sideOf e.2 l = l.1 := by rw [hs]; rfl
    have e2 : sideOf (far e).2 l = l.2.1 := by unfold far; rw [hs]; rfl
    rw [e1] at hp; rw [e2]
    rcases h2 with ⟨p1, p2⟩ | ⟨p1, p2⟩
    · exact two _ (.inr p2) (by rw [← hp, p1, p2]; exact hne.symm)
    · exact two _ (.inl p2) (by rw [← hp, p1, p2]; exact hne)
  · have e1 : sideOf e.2 l = l.2.1 := by rw [hs]; rfl
    have e2 : sideOf (far e).2 l = l.1 := by unfold far; rw [hs]; rfl
    rw [e1] at hp; rw [e2]
    rcases h2 with ⟨p1, p2⟩ | ⟨p1, p2⟩
    · exact two _ (.inl p1) (by rw [← hp, p1, p2]; exact hne)
    · exact two _ (.inr p1) (by rw [← hp, p1, p2]; exact hne.symm)
theorem alt_goes {s0 s1 : Int} {ls : List Ln} {e f : Int × Int} {b : Nat} (ht : TwoL s0 s1 ls) (hne : s0 ≠ s1) (he : EndOk ls.length e) (hf : EndOk ls.length f) (hp : plc ls e = spot s0 s1 b) (hq : plc ls f = spot s0 s1 (b + 1)) (hd : e.1 ≠ f.1) : goesB ls e f = true := by
  unfold goesB
  have h1 := far_spot ht hne he hp
  have h2 := far_spot ht hne hf hq
  rw [h1.1, hq, h1.2, h2.2]
  have := he.1; have := hf.1
  simp only [decide_true, Bool.true_and, Bool.not_eq_true', decide_eq_false_iff_not]
  omega
theorem alt_chain {s0 s1 : Int} {ls : List Ln} (ht : TwoL s0 s1 ls) (hne : s0 ≠ s1) : ∀ {b : Nat} {es : List (Int × Int)}, alt s0 s1 ls b es → (es.map Prod.fst).Nodup → chain ls es = true
  | _, [], _, _ => rfl
  | _, [_], _, _ => rfl
  | b, e :: f :: es, ⟨g1, g2, g3⟩, hn => by
    rw [List.map_cons, List.nodup_cons] at hn
    rw [chain, Bool.and_eq_true]
    exact ⟨alt_goes ht hne g1 g3.1 g2 g3.2.1 fun z => hn.1 (by rw [z]; exact List.mem_cons_self ..), alt_chain ht hne g3 hn.2⟩
theorem alt_last {s0 s1 : Int} {ls : List Ln} : ∀ {b : Nat} {es : List (Int × Int)}, alt s0 s1 ls b es → es ≠ [] → plc ls (lastE es) = spot s0 s1 (b + es.length - 1)
  | _, [], _, h => absurd rfl h
  | b, [e], ⟨_, g2, _⟩, _ => g2
  | b, e :: f :: es, ⟨_, _, g3⟩, _ => by
    have := alt_last g3 (by simp)
    have e1 : lastE (e :: f :: es) = lastE (f :: es) := by unfold lastE; rw [List.getLast?_cons_cons]
    rw [e1, this]
    congr 1
    simp only [List.length_cons]
    omega
theorem alt_round {s0 s1 : Int} {ls : List Ln} {b : Nat} {es : List (Int × Int)} (ht : TwoL s0 s1 ls) (hne : s0 ≠ s1) (h : alt s0 s1 ls b es) (hn : (es.map Prod.fst).Nodup) (h2 : 2 ≤ es.length) (hp : es.length % 2 = 0) : roundB ls es = true := by
  have hz : es ≠ [] := by intro z; rw [z] at h2; simp at h2
  refine roundB_iff.mpr ⟨rideB_iff.mpr ⟨hz, alt_ok h, hn, alt_chain ht hne h hn⟩, ?_⟩
  match es, h, h2, hp, hn, hz with
  | e :: es, ⟨g1, g2, g3⟩, h2, hp, hn, hz =>
    have hl := alt_last (b := b) (es := e :: es) ⟨g1, g2, g3⟩ hz
    obtain ⟨la, lm⟩ := last_mem hz
    have hlok : EndOk ls.length (lastE (e :: es)) := alt_ok (s0 := s0) (s1 := s1) (b := b) (es := e :: es) ⟨g1, g2, g3⟩ _ lm
    refine alt_goes (b := b + (e :: es).length - 1) ht hne hlok g1 hl ?_ ?_
    · show plc ls e = _
      rw [g2]
      unfold spot
      have : (b + (e :: es).length - 1 + 1) % 2 = b % 2 := by omega
      rw [this]
    · show (lastE (e :: es)).1 ≠ e.1
      match es, h2 with
      | f :: es, _ =>
        have e1 : lastE (e :: f :: es) = lastE (f :: es) := by unfold lastE; rw [List.getLast?_cons_cons]
        rw [e1]
        rw [List.map_cons, List.nodup_cons] at hn
        obtain ⟨_, lm2⟩ := last_mem (es := f :: es) (by simp)
        exact fun z => hn.1 (by rw [← z]; exact List.mem_map.mpr ⟨_, lm2, rfl⟩)
theorem ed_spot {s0 s1 m : Int} {k : Nat} {Q : D → Prop} (h : m = (k : Int)) (q : Q (.int (spot s0 s1 k))) : Ed (dIx (.tuple [.int s0, .int s1]) (.int (m % 2))) Q := by
  subst h
  unfold spot at q
  rcases Nat.mod_two_eq_zero_or_one k with hb | hb
  · rw [if_pos hb] at q
    rw [show (k : Int) % 2 = 0 by omega]
    exact ed_ixT (by decide) rfl q
  · rw [if_neg (by omega)] at q
    rw [show (k : Int) % 2 = 1 by omega]
    exact ed_ixT (by decide) rfl q
theorem x__law_there_and_back {c : Nat} {cs : List D} {s0 s1 : Int} {ls : List Ln} (ht : TwoL s0 s1 ls) (hne : s0 ≠ s1) (hk : WbOk 3 ls) (h4 : 4 ≤ ls.length) (h9 : ls.length ≤ 9) (hR : Reel c cs) (hc : 20 ≤ c) :
    ∃ d cs', m__law_there_and_back cs [wb 3 ls, .tuple [.int s0, .int s1]] = some (d, cs') ∧ ∃ es, d = lE es ∧ roundB ls es = true ∧ es.length ≤ 4 ∧ Reel (c - 20) cs' := by
  unfold m__law_there_and_back; refine mIO_of ?_; walk_at "i"; unfold g__law_there_and_back
  unfold wb
  walk_at "e"
  refine ed_ixT (by decide) rfl ?_
  walk_at "e"
  rw [List.length_map]
  refine ⟨by omega, by omega, _, rfl, ?_⟩
  walk_at "e"
  refine ev_drawR ⟨_, rfl, ?_⟩
  walk_at "e"
  refine ⟨_, _, _, rfl, rfl, hR, by omega, by decide, by decide, fun v1 cs a1 b1 hR => ?_⟩
  walk_at "e"
  refine ev_drawR ⟨_, rfl, ?_⟩
  walk_at "e"
  refine ⟨_, _, _, rfl, rfl, hR, by omega, by decide, by decide, fun v2 cs a2 b2 hR => ?_⟩
  refine ed_mulI (Sp.mulW (by omega) (by omega)) ?_
  walk_at "e"
  refine ⟨by omega, by omega, ?_⟩
  rw [Int.toNat_natCast]
  have hrg : rng 0 ls.length = ((List.range ls.length).map fun k : Nat => (k : Int)).map PyData.int := by
    unfold rng
    rw [List.map_map]
    refine List.map_congr_left fun k _ => ?_
    show PyData.int (0 + (k : Int)) = PyData.int (k : Int)
    rw [Int.zero_add]
  rw [hrg]
  refine eo_loop (fun i S => ∃ x6 x7 cs, ∃ L : List Int, ∃ es, S = ⟨[some (.own 0), some (.dat (.tuple [.int 3, .tuple (ls.map ln)])), some (.dat (.tuple [.int s0, .int s1])), some (.own 1), some (.dat (.int v1)), some (.own 2), x6, x7], [some (.lst cs), some (.lst (L.map PyData.int)), some (.lst (es.map en))]⟩ ∧ es.length = i ∧ L.length + i = ls.length ∧ (L ++ es.map Prod.fst).Nodup ∧ (∀ x : Int, x ∈ L → 0 ≤ x ∧ x < ls.length) ∧ alt s0 s1 ls v1.toNat es ∧ Reel ((c - 2) - i) cs) ⟨_, _, _, (List.range ls.length).map (fun k : Nat => (k : Int)), [], rfl, rfl, by simp, ?_, ?_, trivial, hR.mono (by omega)⟩ ?_ ?_
  · rw [List.map_nil, List.append_nil]
    exact List.Pairwise.map _ (fun a b h z => h (by omega)) List.nodup_range
  · intro x hx
    obtain ⟨k, hk, rfl⟩ := List.mem_map.mp hx
    have := List.mem_range.mp hk
    omega
  · rintro i z S hz ⟨x6, x7, cs, L, es, rfl, rfl, hl, hn, hb, ha, hR⟩
    obtain ⟨hi, rfl⟩ := rng_at hz
    have hi : es.length < 4 := by omega
    walk_at "e"
    refine ev_popAt ⟨_, _, rfl, rfl, ?_⟩
    refine ev_drawR ⟨_, rfl, ?_⟩
    walk_at "e"
    refine ⟨_, _, _, rfl, rfl, hR, by omega, by rw [List.length_map]; omega, by rw [List.length_map]; omega, fun v3 cs a3 b3 hR => ?_⟩
    rw [List.length_map] at b3
    have hvL : v3.toNat < L.length := by omega
    have hx := hb _ (List.getElem_mem hvL)
    refine ⟨_, _, rfl, rfl, a3, .int L[v3.toNat], by rw [List.getElem?_map, List.getElem?_eq_getElem hvL]; rfl, ?_⟩
    rw [map_erase]
    have hp := erase_perm L v3.toNat hvL
    generalize L[v3.toNat] = x at hx hp
    have hxl : x.toNat < ls.length := by omega
    have hlx : ls[x.toNat]? = some ls[x.toNat] := List.getElem?_eq_getElem hxl
    obtain ⟨hco, hpl⟩ := ht _ _ hlx
    walk_at "e"
    refine ev_app ⟨_, _, rfl, rfl, ?_⟩
    walk_at "e"
    refine ed_ixT (by decide) rfl ?_
    walk_at "e"
    refine ed_ixT (d := ln ls[x.toNat]) hx.1 (by rw [List.getElem?_map, hlx]; rfl) ?_
    walk_at "e"
    show Ed (dIx (.tuple [.int ls[x.toNat].1, .int ls[x.toNat].2.1, ch ls[x.toNat].2.2]) (.int 0)) _
    refine ed_ixT (by decide) rfl ?_
    walk_at "e"
    refine ed_spot (k := v1.toNat + es.length) (by omega) ?_
    walk_at "e"
    have hpx : ((L.eraseIdx v3.toNat) ++ (es.map Prod.fst ++ [x])).Perm (L ++ es.map Prod.fst) := by
      have p1 : ((L.eraseIdx v3.toNat) ++ (es.map Prod.fst ++ [x])).Perm (x :: ((L.eraseIdx v3.toNat) ++ es.map Prod.fst)) := by
        rw [← List.append_assoc]
        exact List.perm_append_comm
      exact p1.trans (List.Perm.append_right _ hp)
    have hlen := hp.length_eq
    rw [List.length_cons] at hlen
    have side : ∃ s : Int, (if (!decide (ls[x.toNat].1 = spot s0 s1 (v1.toNat + es.length))) = true then (1 : Int) else 0) = s ∧ (s = 0 ∨ s = 1) ∧ sideOf s ls[x.toNat] = spot s0 s1 (v1.toNat + es.length) := by
      have hsp : spot s0 s1 (v1.toNat + es.length) = s0 ∨ spot s0 s1 (v1.toNat + es.length) = s1 := by
        unfold spot; split; exact .inl rfl; exact .inr rfl
      by_cases h : ls[x.toNat].1 = spot s0 s1 (v1.toNat + es.length)
      · exact ⟨0, by rw [decide_eq_true h]; rfl, .inl rfl, h⟩
      · refine ⟨1, by rw [decide_eq_false h]; rfl, .inr rfl, ?_⟩
        show ls[x.toNat].2.1 = _
        rcases hpl with ⟨q1, q2⟩ | ⟨q1, q2⟩ <;> rcases hsp with r | r <;> rw [r] at h ⊢
        · exact absurd q1 h
        · exact q2
        · exact q2
        · exact absurd q1 h
    obtain ⟨s, es1, hs, hso⟩ := side
    rw [es1]
    refine ⟨by rw [List.length_map]; omega, _, rfl, _, _, cs, L.eraseIdx v3.toNat, es ++ [(x, s)], by rw [List.map_append]; rfl, by simp, by omega, by rw [List.map_append]; exact hpx.nodup_iff.mpr hn, fun y hy => hb y (List.mem_of_mem_eraseIdx hy), alt_snoc ha ⟨hx.1, hx.2, by dsimp only; omega, by dsimp only; omega⟩ ?_, hR.mono (by omega)⟩
    show plc ls (x, s) = _
    unfold plc
    rw [hlx]
    exact hso
  · rintro S ⟨x6, x7, cs, L, es, rfl, hl1, hl, hn, hb, ha, hR⟩
    rw [rng_len] at hl1
    walk_at "e"
    have hn2 := (List.nodup_append.mp hn).2.1
    exact ⟨cs, rfl, es, rfl, alt_round ht hne ha hn2 (by omega) (by omega), by omega, hR.mono (by omega)⟩
end Sp
end Lw

set_option maxHeartbeats 4000000
namespace Lw
open PySem Fu
local macro_rules | `(tactic| walk_at "e1") => `(tactic| first
  | with_reducible refine eo_seq ?_ | (with_reducible refine then_nx' ?_; refine ⟨?_, ?_, ?_⟩; rotate_left; · (try dsimp only [List.set, List.length_cons, List.length_nil, List.cons_append, List.nil_append, Nat.zero_add, Nat.reduceAdd]); exact rfl) | with_reducible refine then_rt ?_ | with_reducible refine eo_if ?_ | with_reducible refine eo_ret ?_ | with_reducible refine eo_set ?_ | with_reducible refine eo_asg ?_ | with_reducible refine eo_drop ?_ | with_reducible refine eo_nx ?_ | with_reducible refine eo_par ?_ | with_reducible refine eo_own ?_ | with_reducible refine eo_retN ?_ | with_reducible refine eo_for ?_ | with_reducible refine eo_retO ?_
  | with_reducible refine ev_c ?_ | (with_reducible refine ev_var ?_; refine ⟨_, rfl, ?_⟩) | with_reducible refine ev_bin ?_ | with_reducible refine ev_un ?_ | with_reducible refine ev_nil ?_ | with_reducible refine ev_cons ?_
  | with_reducible refine ev_tup ?_ | with_reducible refine ev_lst ?_ | with_reducible refine ev_call ?_ | with_reducible refine ev_callF ?_ | with_reducible refine ev_isi ?_ | with_reducible refine ev_isi2 ?_ | with_reducible refine ev_andV ?_ | with_reducible refine ev_orV ?_ | with_reducible refine ev_notV ?_
  | with_reducible refine ev_B ?_ | with_reducible refine ev_and ?_ | with_reducible refine ev_or ?_ | with_reducible refine ev_not ?_ | with_reducible refine ev_yes ?_ | with_reducible refine ev_if ?_ | with_reducible refine ev_no ?_ | with_reducible refine ev_so ?_ | with_reducible refine ev_sl ?_ | with_reducible refine ev_items ?_
  | (with_reducible refine ev_ixO ?_; refine ⟨_, _, rfl, rfl, ?_⟩) | (with_reducible refine ev_varO ?_; refine ⟨_, _, rfl, rfl, ?_⟩) | (with_reducible refine ev_lenO ?_; refine ⟨_, _, rfl, rfl, ?_⟩) | (with_reducible refine ev_scrSl ?_; refine ⟨_, rfl, ?_⟩) | (with_reducible refine ev_scrLen ?_; refine ⟨_, rfl, ?_⟩) | (with_reducible refine ev_callScr ?_; refine ⟨_, rfl, ?_⟩) | (with_reducible refine ev_OL ?_; refine ⟨_, _, rfl, rfl, ?_⟩) | with_reducible refine ev_OR ?_ | with_reducible refine ev_rep ?_ | with_reducible refine ev_listRng1 ?_ | with_reducible refine eo_setO ?_
  | with_reducible refine es_name ?_ | with_reducible refine es_tup2 ?_ | with_reducible refine es_tup3 ?_
  | with_reducible refine ed_addI ?_ | with_reducible refine ed_subI ?_ | with_reducible refine ed_cmp ?_ | with_reducible refine ed_eqI ?_ | with_reducible refine ed_neI ?_ | with_reducible refine ed_slT ?_ | with_reducible refine ed_slL ?_ | with_reducible refine ed_lenT ?_ | with_reducible refine ed_lenL ?_ | with_reducible refine ed_lenS ?_ | with_reducible refine ed_inS ?_ | with_reducible refine ed_itT ?_ | with_reducible refine ed_itL ?_ | with_reducible refine ed_tupL ?_ | with_reducible refine ed_tupT ?_ | with_reducible refine ed_listL ?_ | with_reducible refine ed_listT ?_ | with_reducible refine ed_neg ?_ | with_reducible refine ed_max ?_ | with_reducible refine ed_min ?_ | with_reducible refine ed_intB ?_
  | with_reducible refine ev_rng1 ?_ | with_reducible refine ev_rng2 ?_)
local macro_rules | `(tactic| walk_at "sd") => `(tactic| first | rfl | assumption | (simp only [decide_eq_true_eq, decide_eq_false_iff_not, Bool.not_eq_true', Bool.not_eq_false', Bool.and_eq_true, Bool.or_eq_true, List.length_map, List.length_cons, List.length_nil, List.length_append, List.length_range] at *; omega))
local macro_rules | `(tactic| walk_at "e2") => `(tactic| first
  | walk_at "e1" | with_reducible refine ⟨_, rfl, ?_⟩ | with_reducible refine ⟨_, _, rfl, ?_⟩
  | with_reducible refine And.intro (Eq.refl (List.length _)) ?_ | with_reducible refine And.intro (Nat.le_of_ble_eq_true (n := List.length _) rfl) ?_
  | with_reducible refine And.intro (Eq.refl (_ : Sx)) (?_ : Ed _ _)
  | ((with_reducible refine And.intro ?_ (And.intro ?_ (?_ : Ev _ _))); (· rfl); (· rfl))
  | ((with_reducible refine ed_ixT ?_ ?_ ?_); (· decide); (· rfl)) | ((with_reducible refine ed_ixL ?_ ?_ ?_); (· decide); (· rfl)) | ((with_reducible refine ed_at ?_ ?_ ?_); (· decide); (· rfl))
  | ((with_reducible refine ed_modI ?_ ?_); (· first | decide | omega))
  | with_reducible exact gives_nx | ((with_reducible refine gives_rt ?_); (· rfl)) | ((with_reducible refine And.intro ?_ ?_); (· exact rfl); (· with_reducible exact Eq.refl (_ : Sx))))
local macro_rules | `(tactic| walk_at "e") => `(tactic| repeat walk_at "e2")
/-- begin a def's spec -/
local macro_rules | `(tactic| walk_at "i") => `(tactic| simp only [initS, List.map_cons, List.map_nil, List.length_cons, List.length_nil, Nat.reduceAdd, Nat.reduceSub, List.replicate, List.cons_append, List.nil_append])
/-- a known truth decides -/
local macro_rules | `(tactic| walk_at "t") => `(tactic| first | ((with_reducible refine split_t ?_ ?_); (· walk_at "sd")) | ((with_reducible refine split_t' ?_ ?_); (· walk_at "sd")))
local macro_rules | `(tactic| walk_at "f") => `(tactic| first | ((with_reducible refine split_f ?_ ?_); (· walk_at "sd")) | ((with_reducible refine split_f' ?_ ?_); (· walk_at "sd")))
/-- all that is seen in a look -/
local macro_rules | `(tactic| walk_at "v") => `(tactic| (rw [sealAll_mk (by (simp only [List.set_cons_zero, List.set_cons_succ, List.map_cons, List.map_nil, sealS_none, sealS_dat, sealS_scr, sealS_own, List.getElem?_cons_zero, List.getElem?_cons_succ, sealC_lst]; rfl)) (by (simp only [List.set_cons_zero, List.set_cons_succ, List.map_cons, List.map_nil]; rfl))]))
open Rl
namespace Sp
theorem two_ends {s0 s1 : Int} {ls : List Ln} {es : List (Int × Int)} (ht : TwoL s0 s1 ls) (hne : s0 ≠ s1) (he : roundB ls es = true) : ∃ e ∈ es, plc ls e = s0 := by
  obtain ⟨r1, _⟩ := roundB_iff.mp he
  obtain ⟨hz, hall, _⟩ := rideB_iff.mp r1
  have hm := (head_mem hz).2
  have hok := hall _ hm
  obtain ⟨l, hl, _⟩ := end_line rfl hok
  obtain ⟨_, h2⟩ := ht _ _ hl
  have hp : plc ls (headE es) = s0 ∨ plc ls (headE es) = s1 := by
    have hs : (headE es).2 = 0 ∨ (headE es).2 = 1 := by have := hok.2.2.1; have := hok.2.2.2; omega
    unfold plc
    rw [hl]
    dsimp only
    rcases hs with hs | hs
    · rw [show sideOf (headE es).2 l = l.1 by rw [hs]; rfl]
      rcases h2 with ⟨a, b⟩ | ⟨a, b⟩
      · exact .inl a
      · exact .inr a
    · rw [show sideOf (headE es).2 l = l.2.1 by rw [hs]; rfl]
      rcases h2 with ⟨a, b⟩ | ⟨a, b⟩
      · exact .inr b
      · exact .inl b
  rcases hp with hp | hp
  · exact ⟨_, hm, hp⟩
  · obtain ⟨f, hf, e⟩ := far_place he hm
    have e1 : spot s0 s1 1 = s1 := rfl
    have := (far_spot (b := 1) ht hne hok (by rw [hp, e1])).1
    exact ⟨f, hf, by rw [← e, this]; rfl⟩
theorem oz_setE {i : Nat} {ge : Sx → Option (Zr (D × Sx))} {S : Sx} {Z : Zr Out → Prop} (h : Oz (ge S) fun r => ∃ e, r = .error e ∧ Z (.error e)) : Oz (zSet i ge S) Z := oz_beE h
theorem x__law_right_k85 {c : Nat} {cs : List D} {s0 s1 : Int} {ls : List Ln} {es fs : List (Int × Int)} (ht : TwoL s0 s1 ls) (hne : s0 ≠ s1) (hk : WbOk 3 ls) (h9 : ls.length ≤ 9) (he : roundB ls es = true) (hf : roundB ls fs = true) (hz : es.length ≤ 4) (hz2 : fs.length ≤ 4) (hR : Reel c cs) (hc : 3 ≤ c) :
    ∃ z cs', m__law_right_k85 cs [wb 3 ls, lE es, lE fs] = some (z, cs') ∧ z = .bool true ∧ Reel (c - 3) cs' := by
  have hw := web_wb 3 ls
  obtain ⟨ne, alle, _⟩ := rideB_iff.mp (roundB_iff.mp he).1
  obtain ⟨nf, allf, _⟩ := rideB_iff.mp (roundB_iff.mp hf).1
  have sw := (shw_web hw hk (by decide)).dep
  have se := (shw_ride (ride_lE es) (ends_small hk alle)).dep
  have sf := (shw_ride (ride_lE fs) (ends_small hk allf)).dep
  unfold m__law_right_k85; refine mIO_of ?_; walk_at "i"; unfold g__law_right_k85
  unfold lE
  walk_at "e"
  refine ev_lcX (xs := es) (enc := en) (b := fun e => decide (e.1 ∈ fs.map Prod.fst)) (g := en) ?_
  walk_at "e"
  refine ⟨rfl, fun x hx => ?_, ?_⟩
  · walk_at "e"
    refine ed_ixQ (isEn_en x) (by decide) rfl ?_
    walk_at "e"
    refine ev_mapX (xs := fs) (enc := en) (g := fun e => .int e.1) ?_
    walk_at "e"
    refine ⟨rfl, fun y hy => ?_, ?_⟩
    · walk_at "e"
      refine ed_ixQ (isEn_en y) (by decide) rfl ?_
      walk_at "e"
    rw [show fs.map (fun e => PyData.int e.1) = (fs.map Prod.fst).map .int by rw [List.map_map]; rfl]
    walk_at "e"
    refine ed_inI ?_
    walk_at "e"
    refine ⟨rfl, rfl, fun _ => ?_⟩
    walk_at "e"
  walk_at "e"
  have three : ∀ (Q : List D → Sx → Prop), (∀ (a b n : D) cs, (a = lE es ∨ a = listsD (lE es)) → (b = lE fs ∨ b = listsD (lE fs)) → (n = wb 3 ls ∨ n = listsD (wb 3 ls)) → Reel (c - 3) cs →
      Q [n, a, b] ⟨[some (.own 0), some (.dat (wb 3 ls)), some (.dat (.list (es.map en))), some (.dat (.list (fs.map en))), some (.dat (.list ((es.filter fun e => decide (e.1 ∈ fs.map Prod.fst)).map en))), some (.dat .none), some (.dat .none), none, none, none], [some (.lst cs)]⟩) →
      Ev (gCons (gIO 0 1 m__law_handed (gCons (gVar 1) gNil)) (gCons (gIO 0 1 m__law_handed (gCons (gVar 2) gNil)) (gCons (gIO 0 1 m__law_handed (gCons (gVar 3) gNil)) gNil)) ⟨[some (.own 0), some (.dat (wb 3 ls)), some (.dat (.list (es.map en))), some (.dat (.list (fs.map en))), some (.dat (.list ((es.filter fun e => decide (e.1 ∈ fs.map Prod.fst)).map en))), some (.dat .none), some (.dat .none), none, none, none], [some (.lst cs)]⟩) Q := by
    intro Q h
    walk_at "e"
    refine ev_IO ⟨_, rfl, ?_⟩
    walk_at "e"
    obtain ⟨n, cs, e3, h3, hR⟩ := x__law_handed hR (by omega) (show (wb 3 ls).depth < 8 by omega)
    refine ⟨_, _, e3, ?_⟩
    walk_at "e"
    refine ev_IO ⟨_, rfl, ?_⟩
    walk_at "e"
    obtain ⟨a, cs, e1, h1, hR⟩ := x__law_handed hR (by omega) (show (lE es).depth < 8 by omega)
    refine ⟨_, _, e1, ?_⟩
    walk_at "e"
    refine ev_IO ⟨_, rfl, ?_⟩
    walk_at "e"
    obtain ⟨b, cs, e2, h2, hR⟩ := x__law_handed hR (by omega) (show (lE fs).depth < 8 by omega)
    refine ⟨_, _, e2, ?_⟩
    walk_at "e"
    exact h a b n cs h1 h2 h3 (hR.mono (by omega))
  have rd : ∀ {a : D} {gs : List (Int × Int)}, (a = lE gs ∨ a = listsD (lE gs)) → IsRide a gs := fun h => by rcases h with rfl | rfl; exact ride_lE _; exact ride_lists (ride_lE _)
  have wd : ∀ {n : D}, (n = wb 3 ls ∨ n = listsD (wb 3 ls)) → Web n 3 ls := fun h => by rcases h with rfl | rfl; exact hw; exact web_lists hw
  cases hs : share es fs with
  | true =>
    refine eo_try (oz_setE (oz_callE (c := "NoRide") (three _ fun a b n cs h1 h2 h3 hR => ?_)))
    refine ⟨rfl, z_made_one_share (wd h3) hk (rd h1) (rd h2) (by omega) (by omega) he hf hs, _, rfl, .inr ⟨_, _, rfl, by simp, Nat.le_of_ble_eq_true rfl, ?_⟩⟩
    walk_at "e"
    have hfl : (es.filter fun e => decide (e.1 ∈ fs.map Prod.fst)).map en ≠ [] := by
      unfold share at hs
      obtain ⟨n, h1, h2⟩ := List.any_eq_true.mp hs
      obtain ⟨e, he1, rfl⟩ := List.mem_map.mp h1
      exact List.ne_nil_of_mem (List.mem_map.mpr ⟨e, List.mem_filter.mpr ⟨he1, h2⟩, rfl⟩)
    refine ed_ne_nil (n := 1) (fun x hx => ?_) ?_
    · obtain ⟨e, _, rfl⟩ := List.mem_map.mp hx
      exact fine_en (isEn_en e)
    rw [decide_eq_false hfl]
    refine ⟨_, rfl, fun _ => ?_, fun z => nomatch z⟩
    refine eo_ret (ev_andV (ev_notNx rfl ⟨_, rfl, fun _ => ?_, fun z => nomatch z⟩))
    refine ev_bin (ev_callX rfl word_nr ?_)
    walk_at "e"
    refine Ed.of (dEq_str_self _) ?_
    exact ⟨_, rfl, cs, rfl, rfl, hR⟩
  | false =>
    have ha := share_apart.mp hs
    have hfl : es.filter (fun e => decide (e.1 ∈ fs.map Prod.fst)) = [] := by
      refine List.filter_eq_nil_iff.mpr fun e h z => ?_
      obtain ⟨f, hf2, e2⟩ := List.mem_map.mp (of_decide_eq_true z)
      exact ha e h f hf2 e2.symm
    refine eo_try ?_
    refine oz_set (oz_call (three _ fun a b n cs h1 h2 h3 hR => ?_))
    obtain ⟨d, e4, J⟩ := z_made_one_ok (wd h3) hk (rd h1) (rd h2) (by omega) (by omega) he hf ha
    refine ⟨rfl, .ok d, e4, fun z hz => ?_, fun c hc => nomatch hc⟩
    cases hz
    refine ⟨_, _, rfl, .inl ⟨_, rfl, ?_⟩⟩
    have hsome : ∃ k v, k < es.length ∧ v ∈ ways fs ∧ fits ls (rot k es) v = true ∧ d = lE (rot k es ++ v) := by
      rcases J with ⟨_, h2⟩ | ⟨k, v, hk, hv, hfit, _, hd⟩
      · obtain ⟨e, he1, p1⟩ := two_ends ht hne he
        obtain ⟨f, hf1, p2⟩ := two_ends ht hne hf
        exact absurd (p1.trans p2.symm) (h2 e he1 f hf1)
      · exact ⟨k, v, hk, hv, hfit, hd⟩
    obtain ⟨k, v, hkl, hv, hfit, hd⟩ := hsome
    subst hd
    have hr := join_ok he hf ha hv hfit
    have hfp := join_fst (ls := ls) (es := es) (k := k) hv
    have hjl : (rot k es ++ v).length = es.length + fs.length := by
      have := hfp.length_eq
      simpa using this
    generalize rot k es ++ v = js at hr hfp hjl
    rw [hfl]
    walk_at "e"
    refine ed_ne_nil (n := 1) (fun x hx => nomatch hx) ?_
    refine ⟨_, rfl, fun z => absurd z (by decide), fun _ => ?_⟩
    walk_at "e"
    refine ev_notN0 rfl ?_
    walk_at "e"
    unfold lE
    walk_at "e"
    refine ⟨fun _ => ?_, fun z => nomatch z⟩
    walk_at "e"
    refine ⟨fun _ => ?_, fun z => absurd z (by show ¬ (false = true); decide)⟩
    walk_at "e"
    refine Ed.of (x__law_is_round hw hk (ride_lE js) (by omega)) ?_
    rw [hr]
    walk_at "e"
    refine split_f rfl ?_
    walk_at "e"
    refine ev_mapX (xs := js) (enc := en) (g := fun e => .int e.1) ?_
    walk_at "e"
    refine ⟨rfl, fun x hx => ?_, ?_⟩
    · walk_at "e"
      refine ed_ixQ (isEn_en x) (by decide) rfl ?_
      walk_at "e"
    rw [show js.map (fun e => PyData.int e.1) = (js.map Prod.fst).map .int by rw [List.map_map]; rfl]
    walk_at "e"
    refine ed_sortI ?_
    walk_at "e"
    refine ev_mapX (xs := es ++ fs) (enc := en) (g := fun e => .int e.1) ?_
    walk_at "e"
    refine ed_addL (by simp; omega) ?_
    walk_at "e"
    refine ⟨by rw [List.map_append], fun x hx => ?_, ?_⟩
    · walk_at "e"
      refine ed_ixQ (isEn_en x) (by decide) rfl ?_
      walk_at "e"
    rw [show (es ++ fs).map (fun e => PyData.int e.1) = ((es ++ fs).map Prod.fst).map .int by rw [List.map_map]; rfl]
    walk_at "e"
    refine ed_sortI ?_
    walk_at "e"
    refine ed_eq_self (by rw [sort_perm hfp]) (good_sortI _) ?_
    exact ⟨cs, rfl, rfl, hR⟩
end Sp
end Lw

set_option maxHeartbeats 16000000
namespace Lw.k85
open PySem PySem.Spec PyProof.Rows L2 RZ Fu Lw
def topS (i : Nat) : Stmt := PySem.Challenge.pw_changeride_k85_rounds_that_share_a_line.main.body.getD i (.Pass ⟨0, 0, 0, 0⟩)
abbrev s__law_spring : Stmt := topS 32
theorem sc__law_spring : FnScope ["script", "figures", "stir", "cell"] ["script"] (defScope s__law_spring) := ⟨rfl, rfl, rfl, by decide +kernel, rfl, by decide +kernel, by decide +kernel⟩
abbrev s__law_draw : Stmt := topS 33
theorem sc__law_draw : FnScope ["spring", "many", "found", "stir"] ["spring", "many"] (defScope s__law_draw) := ⟨rfl, rfl, rfl, by decide +kernel, rfl, by decide +kernel, by decide +kernel⟩
abbrev s__law_lined : Stmt := topS 43
theorem sc__law_lined : FnScope ["spring", "spots", "many", "lines", "k", "side"] ["spring"] (defScope s__law_lined) := ⟨rfl, rfl, rfl, by decide +kernel, rfl, by decide +kernel, by decide +kernel⟩
abbrev s__law_there_and_back : Stmt := topS 44
theorem sc__law_there_and_back : FnScope ["spring", "web", "spots", "left", "begun", "found", "k", "line"] ["spring", "web", "spots"] (defScope s__law_there_and_back) := ⟨rfl, rfl, rfl, by decide +kernel, rfl, by decide +kernel, by decide +kernel⟩
abbrev s__law_other : Stmt := topS 35
theorem sc__law_other : FnScope ["end"] ["end"] (defScope s__law_other) := ⟨rfl, rfl, rfl, by decide +kernel, rfl, by decide +kernel, by decide +kernel⟩
abbrev s__law_is_end : Stmt := topS 37
theorem sc__law_is_end : FnScope ["web", "thing", "number"] ["web", "thing"] (defScope s__law_is_end) := ⟨rfl, rfl, rfl, by decide +kernel, rfl, by decide +kernel, by decide +kernel⟩
abbrev s__law_at : Stmt := topS 34
theorem sc__law_at : FnScope ["web", "end"] ["web", "end"] (defScope s__law_at) := ⟨rfl, rfl, rfl, by decide +kernel, rfl, by decide +kernel, by decide +kernel⟩
abbrev s__law_goes : Stmt := topS 36
theorem sc__law_goes : FnScope ["web", "end", "later"] ["web", "end", "later"] (defScope s__law_goes) := ⟨rfl, rfl, rfl, by decide +kernel, rfl, by decide +kernel, by decide +kernel⟩
abbrev s__law_is_ride : Stmt := topS 38
theorem sc__law_is_ride : FnScope ["web", "thing", "lines", "end", "line", "k"] ["web", "thing"] (defScope s__law_is_ride) := ⟨rfl, rfl, rfl, by decide +kernel, rfl, by decide +kernel, by decide +kernel⟩
abbrev s__law_is_round : Stmt := topS 39
theorem sc__law_is_round : FnScope ["web", "thing"] ["web", "thing"] (defScope s__law_is_round) := ⟨rfl, rfl, rfl, by decide +kernel, rfl, by decide +kernel, by decide +kernel⟩
abbrev s_place_of : Stmt := topS 19
theorem sc_place_of : FnScope ["web", "end"] ["web", "end"] (defScope s_place_of) := ⟨rfl, rfl, rfl, by decide +kernel, rfl, by decide +kernel, by decide +kernel⟩
abbrev s_company_of : Stmt := topS 20
theorem sc_company_of : FnScope ["web", "end"] ["web", "end"] (defScope s_company_of) := ⟨rfl, rfl, rfl, by decide +kernel, rfl, by decide +kernel, by decide +kernel⟩
abbrev s_far_end : Stmt := topS 22
theorem sc_far_end : FnScope ["end"] ["end"] (defScope s_far_end) := ⟨rfl, rfl, rfl, by decide +kernel, rfl, by decide +kernel, by decide +kernel⟩
abbrev s_can_go_on : Stmt := topS 23
theorem sc_can_go_on : FnScope ["web", "end", "later"] ["web", "end", "later"] (defScope s_can_go_on) := ⟨rfl, rfl, rfl, by decide +kernel, rfl, by decide +kernel, by decide +kernel⟩
abbrev s_is_row : Stmt := topS 17
theorem sc_is_row : FnScope ["thing", "size"] ["thing", "size"] (defScope s_is_row) := ⟨rfl, rfl, rfl, by decide +kernel, rfl, by decide +kernel, by decide +kernel⟩
abbrev s_is_whole : Stmt := topS 16
theorem sc_is_whole : FnScope ["thing"] ["thing"] (defScope s_is_whole) := ⟨rfl, rfl, rfl, by decide +kernel, rfl, by decide +kernel, by decide +kernel⟩
abbrev s_is_end : Stmt := topS 18
theorem sc_is_end : FnScope ["web", "thing"] ["web", "thing"] (defScope s_is_end) := ⟨rfl, rfl, rfl, by decide +kernel, rfl, by decide +kernel, by decide +kernel⟩
abbrev s_ride_is : Stmt := topS 24
theorem sc_ride_is : FnScope ["web", "ride", "end", "later"] ["web", "ride"] (defScope s_ride_is) := ⟨rfl, rfl, rfl, by decide +kernel, rfl, by decide +kernel, by decide +kernel⟩
abbrev s_round_is : Stmt := topS 25
theorem sc_round_is : FnScope ["web", "ride"] ["web", "ride"] (defScope s_round_is) := ⟨rfl, rfl, rfl, by decide +kernel, rfl, by decide +kernel, by decide +kernel⟩
abbrev s_need_round : Stmt := topS 26
theorem sc_need_round : FnScope ["web", "ride", "end"] ["web", "ride"] (defScope s_need_round) := ⟨rfl, rfl, rfl, by decide +kernel, rfl, by decide +kernel, by decide +kernel⟩
abbrev s_faced_about : Stmt := topS 27
theorem sc_faced_about : FnScope ["ends", "end"] ["ends"] (defScope s_faced_about) := ⟨rfl, rfl, rfl, by decide +kernel, rfl, by decide +kernel, by decide +kernel⟩
abbrev s_all_ways : Stmt := topS 28
theorem sc_all_ways : FnScope ["ends", "found", "one", "at"] ["ends"] (defScope s_all_ways) := ⟨rfl, rfl, rfl, by decide +kernel, rfl, by decide +kernel, by decide +kernel⟩
abbrev s_joined : Stmt := topS 29
theorem sc_joined : FnScope ["web", "one", "other", "at", "end", "begun", "later"] ["web", "one", "other"] (defScope s_joined) := ⟨rfl, rfl, rfl, by decide +kernel, rfl, by decide +kernel, by decide +kernel⟩
abbrev s_made_one : Stmt := topS 30
theorem sc_made_one : FnScope ["web", "one", "other", "first", "second", "end"] ["web", "one", "other"] (defScope s_made_one) := ⟨rfl, rfl, rfl, by decide +kernel, rfl, by decide +kernel, by decide +kernel⟩
abbrev s__law_lists : Stmt := topS 40
theorem sc__law_lists : FnScope ["thing", "inner"] ["thing"] (defScope s__law_lists) := ⟨rfl, rfl, rfl, by decide +kernel, rfl, by decide +kernel, by decide +kernel⟩
abbrev s__law_handed : Stmt := topS 41
theorem sc__law_handed : FnScope ["spring", "thing"] ["spring", "thing"] (defScope s__law_handed) := ⟨rfl, rfl, rfl, by decide +kernel, rfl, by decide +kernel, by decide +kernel⟩
abbrev s__law_word : Stmt := topS 42
theorem sc__law_word : FnScope ["caught", "some"] ["caught"] (defScope s__law_word) := ⟨rfl, rfl, rfl, by decide +kernel, rfl, by decide +kernel, by decide +kernel⟩
abbrev s__law_right : Stmt := topS 45
theorem sc__law_right : FnScope ["spring", "web", "one", "other", "common", "caught", "found", "e", "end", "later"] ["spring", "web", "one", "other"] (defScope s__law_right) := ⟨rfl, rfl, rfl, by decide +kernel, rfl, by decide +kernel, by decide +kernel⟩
abbrev s_law : Stmt := topS 46
theorem sc_law : FnScope ["script", "spring", "turn", "web", "spots", "one", "other", "back", "same", "first", "last", "end"] ["script"] (defScope s_law) := ⟨rfl, rfl, rfl, by decide +kernel, rfl, by decide +kernel, by decide +kernel⟩
def g_law : Sx → Option Out :=
  (qSeq (qOwn 1 (gCallScr 0 m__law_spring)) (qSeq (qFor (gRng1 (gCons (gBin dAdd (gC (.int 2)) (gCall dMin2 (gCons (gScrLen 0) (gCons (gC (.int 8)) gNil)))) gNil)) (sName 2) (qSeq (qAsg (sTup 2 (sCons (sName 3) (sCons (sName 4) sNil))) (gIO 1 0 m__law_lined gNil)) (qSeq (qSet 5 (gIO 1 2 m__law_there_and_back (gCons (gVar 3) (gCons (gVar 4) gNil)))) (qSeq (qSet 6 (gIO 1 2 m__law_there_and_back (gCons (gVar 3) (gCons (gVar 4) gNil)))) (qSeq (qSet 7 (gLc (gItems (gUn dRevL (gVar 6))) (sName 11) gYes (gCallF 1 m__law_other (gCons (gVar 11) gNil)) [11])) (qSeq (qSet 8 (gLc (gItems (gUn dRevL (gVar 5))) (sName 11) gYes (gCallF 1 m__law_other (gCons (gVar 11) gNil)) [11])) (qFor (gItems (gLst (gCons (gTup (gCons (gVar 5) (gCons (gVar 6) gNil))) (gCons (gTup (gCons (gVar 6) (gCons (gVar 5) gNil))) (gCons (gTup (gCons (gVar 5) (gCons (gVar 7) gNil))) (gCons (gTup (gCons (gVar 5) (gCons (gVar 8) gNil))) (gCons (gTup (gCons (gVar 8) (gCons (gBin dAdd (gSl (gVar 5) (gSo (gC (.int 1))) gNo) (gSl (gVar 5) gNo (gSo (gC (.int 1))))) gNil))) gNil))))))) (sTup 2 (sCons (sName 9) (sCons (sName 10) sNil))) (qIf (gOr (gNot (gB (gCallF 2 m__law_is_round (gCons (gVar 3) (gCons (gVar 9) gNil))))) (gNot (gB (gIO 1 3 m__law_right_k85 (gCons (gVar 3) (gCons (gVar 9) (gCons (gVar 10) gNil))))))) (qRet (gC (.bool false))) qNx)))))))) (qRet (gC (.bool true)))))
structure Tx (K : PySem.W.Frag) (mg : Str → Option Value) : Prop where
  z_ValueError : mg "ValueError" = none
  z_abs : mg "abs" = none
  z_all : mg "all" = none
  z_bool : mg "bool" = none
  z_enumerate : mg "enumerate" = none
  z_int : mg "int" = none
  z_isinstance : mg "isinstance" = none
  z_len : mg "len" = none
  z_list : mg "list" = none
  z_min : mg "min" = none
  z_range : mg "range" = none
  z_set : mg "set" = none
  z_sorted : mg "sorted" = none
  z_tuple : mg "tuple" = none
  z_zip : mg "zip" = none
  c_SIDES : ∃ t, mg "SIDES" = some (.int 2 t)
  d__law_spring : DefAt K mg "_law_spring" s__law_spring ["script"]
  d__law_draw : DefAt K mg "_law_draw" s__law_draw ["spring", "many"]
  d__law_lined : DefAt K mg "_law_lined" s__law_lined ["spring"]
  d__law_there_and_back : DefAt K mg "_law_there_and_back" s__law_there_and_back ["spring", "web", "spots"]
  d__law_other : DefAt K mg "_law_other" s__law_other ["end"]
  d__law_is_end : DefAt K mg "_law_is_end" s__law_is_end ["web", "thing"]
  d__law_at : DefAt K mg "_law_at" s__law_at ["web", "end"]
  d__law_goes : DefAt K mg "_law_goes" s__law_goes ["web", "end", "later"]
  d__law_is_ride : DefAt K mg "_law_is_ride" s__law_is_ride ["web", "thing"]
  d__law_is_round : DefAt K mg "_law_is_round" s__law_is_round ["web", "thing"]
  d_place_of : DefAt K mg "place_of" s_place_of ["web", "end"]
  d_company_of : DefAt K mg "company_of" s_company_of ["web", "end"]
  d_far_end : DefAt K mg "far_end" s_far_end ["end"]
  d_can_go_on : DefAt K mg "can_go_on" s_can_go_on ["web", "end", "later"]
  d_is_row : DefAt K mg "is_row" s_is_row ["thing", "size"]
  d_is_whole : DefAt K mg "is_whole" s_is_whole ["thing"]
  d_is_end : DefAt K mg "is_end" s_is_end ["web", "thing"]
  d_ride_is : DefAt K mg "ride_is" s_ride_is ["web", "ride"]
  d_round_is : DefAt K mg "round_is" s_round_is ["web", "ride"]
  d_need_round : DefAt K mg "need_round" s_need_round ["web", "ride"]
  d_faced_about : DefAt K mg "faced_about" s_faced_about ["ends"]
  d_all_ways : DefAt K mg "all_ways" s_all_ways ["ends"]
  d_joined : DefAt K mg "joined" s_joined ["web", "one", "other"]
  d_made_one : DefAt K mg "made_one" s_made_one ["web", "one", "other"]
  d__law_lists : DefAt K mg "_law_lists" s__law_lists ["thing"]
  d__law_handed : DefAt K mg "_law_handed" s__law_handed ["spring", "thing"]
  d__law_word : DefAt K mg "_law_word" s__law_word ["caught"]
  d__law_right : DefAt K mg "_law_right" s__law_right ["spring", "web", "one", "other"]
  d_law : DefAt K mg "law" s_law ["script"]
  x_NoRide : ExcT K mg "NoRide"
  i_NoCompany : LookT K mg "NoCompany" ["NoRide"] fun c => decide (c = "NoCompany")
  i_NoEnd : LookT K mg "NoEnd" ["NoRide"] fun c => decide (c = "NoEnd")
  i_NoForm : LookT K mg "NoForm" ["NoRide"] fun c => decide (c = "NoForm")
  i_NoLine : LookT K mg "NoLine" ["NoRide"] fun c => decide (c = "NoLine")
  i_NoNumber : LookT K mg "NoNumber" ["NoRide"] fun c => decide (c = "NoNumber")
  i_NoPlace : LookT K mg "NoPlace" ["NoRide"] fun c => decide (c = "NoPlace")
  i_NoRide : LookT K mg "NoRide" ["NoRide"] fun c => decide (c = "NoRide")
  i_NoText : LookT K mg "NoText" ["NoRide"] fun c => decide (c = "NoText")
  i_NoTurning : LookT K mg "NoTurning" ["NoRide"] fun c => decide (c = "NoTurning")
  i_NoWeb : LookT K mg "NoWeb" ["NoRide"] fun c => decide (c = "NoWeb")
  i_NoneYet : LookT K mg "NoneYet" ["NoRide"] fun c => decide (c = "NoneYet")
  i_TooMany : LookT K mg "TooMany" ["NoRide"] fun c => decide (c = "TooMany")
  b_ValueError : ∀ c ∈ (["NoRide"] : List Str), ExcIs K c (.type "ValueError") true
  t_RideError : TryT K mg "RideError" ["NoRide"]
  xc : ∀ c ∈ (["NoRide"] : List Str), ∀ D, ClsD K c D → ExcC K D
section
variable {P : Program} {w : World} {K : PySem.W.Frag} {mg : Str → Option Value} {base : Heap}
theorem has__law_spring (T : Tx K mg) : Has P w K mg base "_law_spring" 1 ["script"] (spScrN K m__law_spring) := has_scrN T.d__law_spring sc__law_spring (by rfl) (by decide) fun f cdv A outer s H E hr =>
  (ss_cons (s_set 1 sc__law_spring.nd e_int) (ss_cons (s_set 2 sc__law_spring.nd e_int) (ss_cons (s_for PassesOwn.never (i_any (e_scrSl 0 o_none (o_some e_int))) (g_name 3 sc__law_spring.nd) (ss_cons (s_if (t_ge (e_abs T.z_abs (a_cons (e_var 3) a_nil)) (e_pow e_int e_int)) (ss_one (s_set 1 sc__law_spring.nd (e_add (e_mul (e_var 1) (e_pow e_int e_int)) (e_mod (e_abs T.z_abs (a_cons (e_var 3) a_nil)) (e_pow e_int e_int))))) ss_nil) (ss_one (s_set 2 sc__law_spring.nd (e_mod (e_add (e_add (e_mul (e_var 2) e_int) (e_mod (e_var 3) e_int)) e_int) e_int)))) (fun _ => trivial)) (ss_one (s_retNew (n_lst (a_cons (e_var 1) (a_cons (e_var 2) (a_cons e_int a_nil)))))))))
theorem has__law_draw (T : Tx K mg) : Has P w K mg base "_law_draw" 1 ["spring", "many"] (spIO K 1 m__law_draw_k15) := has_io T.d__law_draw sc__law_draw (by rfl) (by decide) fun f cdv A outer s H E hr =>
  (ss_cons (s_if (t_gt (e_ixO 0 e_int) e_int) (ss_cons (s_set 2 sc__law_draw.nd (e_mod (e_ixO 0 e_int) (e_var 1))) (ss_cons (s_setO 0 e_int (e_div (e_ixO 0 e_int) (e_var 1))) (ss_one (s_ret (e_var 2))))) ss_nil) (ss_cons (s_setO 0 e_int (e_add (e_ixO 0 e_int) e_int)) (ss_cons (s_set 3 sc__law_draw.nd (e_mod (e_mul (e_ixO 0 e_int) (e_ixO 0 e_int)) e_int)) (ss_cons (s_setO 0 e_int (e_mod (e_add (e_add (e_var 3) (e_mul (e_mul e_int (e_ixO 0 e_int)) (e_ixO 0 e_int))) e_int) e_int)) (ss_one (s_ret (e_mod (e_div (e_ixO 0 e_int) e_int) (e_var 1))))))))
theorem has__law_lined (T : Tx K mg) : Has P w K mg base "_law_lined" 2 ["spring"] (spIO K 0 m__law_lined) := has_io T.d__law_lined sc__law_lined (by rfl) (by decide) fun f cdv A outer s H E hr =>
  (ss_cons (s_set 1 sc__law_lined.nd (e_ix (e_lst (a_cons (e_tup (a_cons e_int (a_cons e_int a_nil))) (a_cons (e_tup (a_cons e_int (a_cons e_int a_nil))) (a_cons (e_tup (a_cons e_int (a_cons e_int a_nil))) (a_cons (e_tup (a_cons e_int (a_cons e_int a_nil))) a_nil))))) (e_callHIO 0 (has__law_draw T) (hr.mono (by decide)) (a_cons e_int a_nil)))) (ss_cons (s_set 2 sc__law_lined.nd (e_add e_int (e_callHIO 0 (has__law_draw T) (hr.mono (by decide)) (a_cons e_int a_nil)))) (ss_cons (s_own 3 sc__law_lined.nd (n_lst a_nil)) (ss_cons (s_for0 PassesOwn.never (i0_range1 T.z_range (a_cons (e_var 2) a_nil)) (g_name 4 sc__law_lined.nd) (ss_cons (s_set 5 sc__law_lined.nd (e_callHIO 0 (has__law_draw T) (hr.mono (by decide)) (a_cons e_int a_nil))) (ss_one (s_expr (e_append 3 (e_tup (a_cons (e_ix (e_var 1) (e_var 5)) (a_cons (e_ix (e_var 1) (e_sub e_int (e_var 5))) (a_cons (e_ix e_str (e_var 4)) a_nil))))))))) (ss_one (s_ret (e_tup (a_cons (e_tup (a_cons e_int (a_cons (e_tuple T.z_tuple (a_cons (e_var 3) a_nil)) a_nil))) (a_cons (e_var 1) a_nil)))))))))
theorem has__law_there_and_back (T : Tx K mg) : Has P w K mg base "_law_there_and_back" 2 ["spring", "web", "spots"] (spIO K 2 m__law_there_and_back) := has_io T.d__law_there_and_back sc__law_there_and_back (by rfl) (by decide) fun f cdv A outer s H E hr =>
  (ss_cons (s_own 3 sc__law_there_and_back.nd (n_listRng1 T.z_list T.z_range (e_len T.z_len (a_cons (e_ix (e_var 1) e_int) a_nil)))) (ss_cons (s_set 4 sc__law_there_and_back.nd (e_callHIO 0 (has__law_draw T) (hr.mono (by decide)) (a_cons e_int a_nil))) (ss_cons (s_own 5 sc__law_there_and_back.nd (n_lst a_nil)) (ss_cons (s_for0 PassesOwn.never (i0_range1 T.z_range (a_cons (e_add e_int (e_mul e_int (e_callHIO 0 (has__law_draw T) (hr.mono (by decide)) (a_cons e_int a_nil)))) a_nil)) (g_name 6 sc__law_there_and_back.nd) (ss_cons (s_set 7 sc__law_there_and_back.nd (e_popAt 3 (e_callHIO 0 (has__law_draw T) (hr.mono (by decide)) (a_cons (e_lenO 3 T.z_len) a_nil)))) (ss_one (s_expr (e_append 5 (e_tup (a_cons (e_var 7) (a_cons (e_intOf T.z_int (a_cons (e_ne hr.units (e_ix (e_ix (e_ix (e_var 1) e_int) (e_var 7)) e_int) (e_ix (e_var 2) (e_mod (e_add (e_var 4) (e_var 6)) e_int))) a_nil)) a_nil)))))))) (ss_one (s_ret (e_var 5)))))))
theorem has__law_other (T : Tx K mg) : Has P w K mg base "_law_other" 1 ["end"] (spF K 1 m__law_other) := has_pure T.d__law_other sc__law_other (by rfl) (by decide) fun f cdv A outer s H E hr =>
  (ss_one (s_ret (e_tup (a_cons (e_ix (e_var 0) e_int) (a_cons (e_sub e_int (e_ix (e_var 0) e_int)) a_nil)))))
theorem has__law_is_end (T : Tx K mg) : Has P w K mg base "_law_is_end" 1 ["web", "thing"] (spF K 2 m__law_is_end_k15) := has_pure T.d__law_is_end sc__law_is_end (by rfl) (by decide) fun f cdv A outer s H E hr =>
  (ss_cons (s_if (t_w (w_or (t_not (t_val (e_isi2 T.z_isinstance T.z_list (by decide +kernel) kit_list T.z_tuple (by decide +kernel) kit_tuple (e_var 1)))) (w_or1 (t_ne hr.units (e_len T.z_len (a_cons (e_var 1) a_nil)) e_int)))) (ss_one (s_ret e_bl)) ss_nil) (ss_cons (s_if (t_ne hr.units (n_lc [("number", 2)] sc__law_is_end.nd (i_any (e_var 1)) (blkOk_by (N := ["web", "thing", "number"]) (sc := defScope s__law_is_end) (by decide +kernel)) (fun _ _ _ _ _ => (g_name 2 sc__law_is_end.nd)) (fun _ _ _ _ _ => (ts_one (t_w (w_or (t_val (e_isi T.z_isinstance T.z_bool (by decide +kernel) kit_bool (e_var 2))) (w_or1 (t_not (t_val (e_isi T.z_isinstance T.z_int (by decide +kernel) kit_int (e_var 2))))))))) (fun _ _ _ _ _ => (e_var 2))).e (e_lst a_nil)) (ss_one (s_ret e_bl)) ss_nil) (ss_one (s_ret (e_and (e_chain op_le op_lt (rd_cmp _) (rd_cmp _) e_int (e_ix (e_var 1) e_int) (e_len T.z_len (a_cons (e_ix (e_var 0) e_int) a_nil))) (e_one (e_chain op_le op_le (rd_cmp _) (rd_cmp _) e_int (e_ix (e_var 1) e_int) e_int)))))))
theorem has__law_at (T : Tx K mg) : Has P w K mg base "_law_at" 1 ["web", "end"] (spF K 2 m__law_at) := has_pure T.d__law_at sc__law_at (by rfl) (by decide) fun f cdv A outer s H E hr =>
  (ss_one (s_ret (e_ix (e_ix (e_ix (e_var 0) e_int) (e_ix (e_var 1) e_int)) (e_ix (e_var 1) e_int))))
theorem has__law_goes (T : Tx K mg) : Has P w K mg base "_law_goes" 2 ["web", "end", "later"] (spF K 3 m__law_goes) := has_pure T.d__law_goes sc__law_goes (by rfl) (by decide) fun f cdv A outer s H E hr =>
  (ss_cons (s_if (t_ne hr.units (e_callH (has__law_at T) (hr.mono (by decide)) (a_cons (e_var 0) (a_cons (e_callH (has__law_other T) (hr.mono (by decide)) (a_cons (e_var 1) a_nil)) a_nil))) (e_callH (has__law_at T) (hr.mono (by decide)) (a_cons (e_var 0) (a_cons (e_var 2) a_nil)))) (ss_one (s_ret e_bl)) ss_nil) (ss_one (s_ret (e_ne hr.units (e_ix (e_ix (e_ix (e_var 0) e_int) (e_ix (e_var 1) e_int)) e_int) (e_ix (e_ix (e_ix (e_var 0) e_int) (e_ix (e_var 2) e_int)) e_int)))))
theorem has__law_is_ride (T : Tx K mg) : Has P w K mg base "_law_is_ride" 3 ["web", "thing"] (spF K 2 m__law_is_ride) := has_pure T.d__law_is_ride sc__law_is_ride (by rfl) (by decide) fun f cdv A outer s H E hr =>
  (ss_cons (s_if (t_w (w_or (t_not (t_val (e_isi2 T.z_isinstance T.z_list (by decide +kernel) kit_list T.z_tuple (by decide +kernel) kit_tuple (e_var 1)))) (w_or1 (t_eq hr.units (e_len T.z_len (a_cons (e_var 1) a_nil)) e_int)))) (ss_one (s_ret e_bl)) ss_nil) (ss_cons (s_if (t_ne hr.units (n_lc [("end", 3)] sc__law_is_ride.nd (i_any (e_var 1)) (blkOk_by (N := ["web", "thing", "lines", "end", "line", "k"]) (sc := defScope s__law_is_ride) (by decide +kernel)) (fun _ _ _ _ _ => (g_name 3 sc__law_is_ride.nd)) (fun _ _ _ _ _ => (ts_one (t_not (t_val (e_callH (has__law_is_end T) (hr.mono (by decide)) (a_cons (e_var 0) (a_cons (e_var 3) a_nil))))))) (fun _ _ _ _ _ => (e_var 3))).e (e_lst a_nil)) (ss_one (s_ret e_bl)) ss_nil) (ss_cons (s_set 2 sc__law_is_ride.nd (n_lc [("end", 3)] sc__law_is_ride.nd (i_any (e_var 1)) (blkOk_by (N := ["web", "thing", "lines", "end", "line", "k"]) (sc := defScope s__law_is_ride) (by decide +kernel)) (fun _ _ _ _ _ => (g_name 3 sc__law_is_ride.nd)) (fun _ _ _ _ _ => ts_nil) (fun _ _ _ _ _ => (e_ix (e_var 3) e_int))).e) (ss_cons (s_if (t_ne hr.units (n_lc [("line", 4)] sc__law_is_ride.nd (i_any (e_var 2)) (blkOk_by (N := ["web", "thing", "lines", "end", "line", "k"]) (sc := defScope s__law_is_ride) (by decide +kernel)) (fun _ _ _ _ _ => (g_name 4 sc__law_is_ride.nd)) (fun _ _ _ _ _ => (ts_one (t_gt (e_count hr (e_var 2) (e_var 4)) e_int))) (fun _ _ _ _ _ => (e_var 4))).e (e_lst a_nil)) (ss_one (s_ret e_bl)) ss_nil) (ss_one (s_ret (e_eq hr.units (n_lc [("k", 5)] sc__law_is_ride.nd (i_range2 T.z_range (a_cons e_int (a_cons (e_len T.z_len (a_cons (e_var 1) a_nil)) a_nil))) (blkOk_by (N := ["web", "thing", "lines", "end", "line", "k"]) (sc := defScope s__law_is_ride) (by decide +kernel)) (fun _ _ _ _ _ => (g_name 5 sc__law_is_ride.nd)) (fun _ _ _ _ _ => (ts_one (t_not (t_val (e_callH (has__law_goes T) (hr.mono (by decide)) (a_cons (e_var 0) (a_cons (e_ix (e_var 1) (e_sub (e_var 5) e_int)) (a_cons (e_ix (e_var 1) (e_var 5)) a_nil)))))))) (fun _ _ _ _ _ => (e_var 5))).e (e_lst a_nil))))))))
theorem has__law_is_round (T : Tx K mg) : Has P w K mg base "_law_is_round" 4 ["web", "thing"] (spF K 2 m__law_is_round) := has_pure T.d__law_is_round sc__law_is_round (by rfl) (by decide) fun f cdv A outer s H E hr =>
  (ss_one (s_ret (e_and (e_callH (has__law_is_ride T) (hr.mono (by decide)) (a_cons (e_var 0) (a_cons (e_var 1) a_nil))) (e_one (e_callH (has__law_goes T) (hr.mono (by decide)) (a_cons (e_var 0) (a_cons (e_ix (e_var 1) (e_neg e_int)) (a_cons (e_ix (e_var 1) e_int) a_nil))))))))
theorem has_place_of (T : Tx K mg) : Has P w K mg base "place_of" 1 ["web", "end"] (spF K 2 m_place_of) := has_pure T.d_place_of sc_place_of (by rfl) (by decide) fun f cdv A outer s H E hr =>
  (ss_one (s_ret (e_ix (e_ix (e_ix (e_var 0) e_int) (e_ix (e_var 1) e_int)) (e_ix (e_var 1) e_int))))
theorem has_company_of (T : Tx K mg) : Has P w K mg base "company_of" 1 ["web", "end"] (spF K 2 m_company_of) := has_pure T.d_company_of sc_company_of (by rfl) (by decide) fun f cdv A outer s H E hr =>
  (ss_one (s_ret (e_ix (e_ix (e_ix (e_var 0) e_int) (e_ix (e_var 1) e_int)) e_int)))
theorem has_far_end (T : Tx K mg) : Has P w K mg base "far_end" 1 ["end"] (spF K 1 m_far_end) := has_pure T.d_far_end sc_far_end (by rfl) (by decide) fun f cdv A outer s H E hr =>
  (ss_one (s_ret (e_tup (a_cons (e_ix (e_var 0) e_int) (a_cons (e_sub e_int (e_ix (e_var 0) e_int)) a_nil)))))
theorem has_can_go_on (T : Tx K mg) : Has P w K mg base "can_go_on" 2 ["web", "end", "later"] (spF K 3 m_can_go_on) := has_pure T.d_can_go_on sc_can_go_on (by rfl) (by decide) fun f cdv A outer s H E hr =>
  (ss_cons (s_if (t_ne hr.units (e_callH (has_place_of T) (hr.mono (by decide)) (a_cons (e_var 0) (a_cons (e_callH (has_far_end T) (hr.mono (by decide)) (a_cons (e_var 1) a_nil)) a_nil))) (e_callH (has_place_of T) (hr.mono (by decide)) (a_cons (e_var 0) (a_cons (e_var 2) a_nil)))) (ss_one (s_ret e_bl)) ss_nil) (ss_one (s_ret (e_ne hr.units (e_callH (has_company_of T) (hr.mono (by decide)) (a_cons (e_var 0) (a_cons (e_var 1) a_nil))) (e_callH (has_company_of T) (hr.mono (by decide)) (a_cons (e_var 0) (a_cons (e_var 2) a_nil)))))))
theorem has_is_row (T : Tx K mg) : Has P w K mg base "is_row" 1 ["thing", "size"] (spF K 2 m_is_row) := has_pure T.d_is_row sc_is_row (by rfl) (by decide) fun f cdv A outer s H E hr =>
  (ss_one (s_ret (e_and (e_isi2 T.z_isinstance T.z_list (by decide +kernel) kit_list T.z_tuple (by decide +kernel) kit_tuple (e_var 0)) (e_one (e_eq hr.units (e_len T.z_len (a_cons (e_var 0) a_nil)) (e_var 1))))))
theorem has_is_whole (T : Tx K mg) : Has P w K mg base "is_whole" 1 ["thing"] (spF K 1 m_is_whole) := has_pure T.d_is_whole sc_is_whole (by rfl) (by decide) fun f cdv A outer s H E hr =>
  (ss_one (s_ret (e_and (e_isi T.z_isinstance T.z_int (by decide +kernel) kit_int (e_var 0)) (e_and (e_not (e_isi T.z_isinstance T.z_bool (by decide +kernel) kit_bool (e_var 0))) (e_one (e_ge (e_var 0) e_int))))))
theorem has_is_end (T : Tx K mg) : Has P w K mg base "is_end" 2 ["web", "thing"] (spF K 2 m_is_end) := has_pure T.d_is_end sc_is_end (by rfl) (by decide) fun f cdv A outer s H E hr =>
  (ss_cons (s_if (t_w (w_or (t_not (t_val (e_callH (has_is_row T) (hr.mono (by decide)) (a_cons (e_var 1) (a_cons e_int a_nil))))) (w_or (t_not (t_val (e_callH (has_is_whole T) (hr.mono (by decide)) (a_cons (e_ix (e_var 1) e_int) a_nil)))) (w_or1 (t_not (t_val (e_callH (has_is_whole T) (hr.mono (by decide)) (a_cons (e_ix (e_var 1) e_int) a_nil)))))))) (ss_one (s_ret e_bl)) ss_nil) (ss_one (s_ret (e_and (e_lt (e_ix (e_var 1) e_int) (e_len T.z_len (a_cons (e_ix (e_var 0) e_int) a_nil))) (e_one (e_lt (e_ix (e_var 1) e_int) (e_gintE T.c_SIDES)))))))
theorem has_ride_is (T : Tx K mg) : Has P w K mg base "ride_is" 3 ["web", "ride"] (spF K 2 m_ride_is) := has_pure T.d_ride_is sc_ride_is (by rfl) (by decide) fun f cdv A outer s H E hr =>
  (ss_cons (s_if (t_w (w_or (t_not (t_val (e_isi2 T.z_isinstance T.z_list (by decide +kernel) kit_list T.z_tuple (by decide +kernel) kit_tuple (e_var 1)))) (w_or (t_eq hr.units (e_len T.z_len (a_cons (e_var 1) a_nil)) e_int) (w_or1 (t_not (t_val (e_all T.z_all (a_cons (n_lc [("end", 2)] sc_ride_is.nd (i_any (e_var 1)) (blkOk_by (N := ["web", "ride", "end", "later"]) (sc := defScope s_ride_is) (by decide +kernel)) (fun _ _ _ _ _ => (g_name 2 sc_ride_is.nd)) (fun _ _ _ _ _ => ts_nil) (fun _ _ _ _ _ => (e_callH (has_is_end T) (hr.mono (by decide)) (a_cons (e_var 0) (a_cons (e_var 2) a_nil))))).e a_nil)))))))) (ss_one (s_ret e_bl)) ss_nil) (ss_cons (s_if (t_ne hr.units (e_lenSet T.z_len T.z_set (n_lc [("end", 2)] sc_ride_is.nd (i_any (e_var 1)) (blkOk_by (N := ["web", "ride", "end", "later"]) (sc := defScope s_ride_is) (by decide +kernel)) (fun _ _ _ _ _ => (g_name 2 sc_ride_is.nd)) (fun _ _ _ _ _ => ts_nil) (fun _ _ _ _ _ => (e_ix (e_var 2) e_int))).e) (e_len T.z_len (a_cons (e_var 1) a_nil))) (ss_one (s_ret e_bl)) ss_nil) (ss_one (s_ret (e_all T.z_all (a_cons (n_lc [("end", 2), ("later", 3)] sc_ride_is.nd (i_zip T.z_zip (a_cons (e_var 1) (a_cons (e_sl (e_var 1) (o_some e_int) o_none) a_nil))) (blkOk_by (N := ["web", "ride", "end", "later"]) (sc := defScope s_ride_is) (by decide +kernel)) (fun _ _ _ _ _ => (g_tup (gs_cons (g_name 2 sc_ride_is.nd) (gs_cons (g_name 3 sc_ride_is.nd) gs_nil)))) (fun _ _ _ _ _ => ts_nil) (fun _ _ _ _ _ => (e_callH (has_can_go_on T) (hr.mono (by decide)) (a_cons (e_var 0) (a_cons (e_var 2) (a_cons (e_var 3) a_nil)))))).e a_nil))))))
theorem has_round_is (T : Tx K mg) : Has P w K mg base "round_is" 4 ["web", "ride"] (spF K 2 m_round_is) := has_pure T.d_round_is sc_round_is (by rfl) (by decide) fun f cdv A outer s H E hr =>
  (ss_one (s_ret (e_and (e_callH (has_ride_is T) (hr.mono (by decide)) (a_cons (e_var 0) (a_cons (e_var 1) a_nil))) (e_one (e_callH (has_can_go_on T) (hr.mono (by decide)) (a_cons (e_var 0) (a_cons (e_ix (e_var 1) (e_neg e_int)) (a_cons (e_ix (e_var 1) e_int) a_nil))))))))
theorem hasz_need_round (T : Tx K mg) : HasZ P w K mg base "need_round" 5 ["web", "ride"] (spZ K 2 m_need_round_Z) := has_z T.d_need_round sc_need_round (by rfl) (by decide) fun f cdv A outer s H E hr tk =>
  (zs_cons (z_if (t_not (t_val (e_callH (has_round_is T) (hr.mono (by decide)) (a_cons (e_var 0) (a_cons (e_var 1) a_nil))))) (zs_one (z_raise T.x_NoRide tk)) (zs_of ss_nil)) (zs_of (ss_one (s_ret (n_lc [("end", 2)] sc_need_round.nd (i_any (e_var 1)) (blkOk_by (N := ["web", "ride", "end"]) (sc := defScope s_need_round) (by decide +kernel)) (fun _ _ _ _ _ => (g_name 2 sc_need_round.nd)) (fun _ _ _ _ _ => ts_nil) (fun _ _ _ _ _ => (e_tuple T.z_tuple (a_cons (e_var 2) a_nil)))).e))))
theorem has_faced_about (T : Tx K mg) : Has P w K mg base "faced_about" 2 ["ends"] (spF K 1 m_faced_about) := has_pure T.d_faced_about sc_faced_about (by rfl) (by decide) fun f cdv A outer s H E hr =>
  (ss_one (s_ret (n_lc [("end", 1)] sc_faced_about.nd (i_any (n_revL (e_var 0)).e) (blkOk_by (N := ["ends", "end"]) (sc := defScope s_faced_about) (by decide +kernel)) (fun _ _ _ _ _ => (g_name 1 sc_faced_about.nd)) (fun _ _ _ _ _ => ts_nil) (fun _ _ _ _ _ => (e_callH (has_far_end T) (hr.mono (by decide)) (a_cons (e_var 1) a_nil)))).e))
theorem has_all_ways (T : Tx K mg) : Has P w K mg base "all_ways" 3 ["ends"] (spF K 1 m_all_ways) := has_pure T.d_all_ways sc_all_ways (by rfl) (by decide) fun f cdv A outer s H E hr =>
  (ss_cons (s_own 1 sc_all_ways.nd (n_lst a_nil)) (ss_cons (s_for PassesOwn.never (i_any (e_tup (a_cons (e_var 0) (a_cons (e_callH (has_faced_about T) (hr.mono (by decide)) (a_cons (e_var 0) a_nil)) a_nil)))) (g_name 2 sc_all_ways.nd) (ss_one (s_expr (e_extend 1 (n_lc [("at", 3)] sc_all_ways.nd (i_range1 T.z_range (a_cons (e_len T.z_len (a_cons (e_var 2) a_nil)) a_nil)) (blkOk_by (N := ["ends", "found", "one", "at"]) (sc := defScope s_all_ways) (by decide +kernel)) (fun _ _ _ _ _ => (g_name 3 sc_all_ways.nd)) (fun _ _ _ _ _ => ts_nil) (fun _ _ _ _ _ => (e_add (e_sl (e_var 2) (o_some (e_var 3)) o_none) (e_sl (e_var 2) o_none (o_some (e_var 3)))))).e))) (fun _ => trivial)) (ss_one (s_ret (e_var 1)))))
theorem has_joined (T : Tx K mg) : Has P w K mg base "joined" 4 ["web", "one", "other"] (spF K 3 m_joined) := has_pure T.d_joined sc_joined (by rfl) (by decide) fun f cdv A outer s H E hr =>
  (ss_cons (s_for PassesOwn.never (i_enumA T.z_enumerate (a_cons (e_var 1) a_nil)) (g_tup (gs_cons (g_name 3 sc_joined.nd) (gs_cons (g_name 4 sc_joined.nd) gs_nil))) (ss_cons (s_set 5 sc_joined.nd (e_add (e_sl (e_var 1) (o_some (e_var 3)) o_none) (e_sl (e_var 1) o_none (o_some (e_var 3))))) (ss_one (s_for PassesOwn.never (i_any (e_callH (has_all_ways T) (hr.mono (by decide)) (a_cons (e_var 2) a_nil))) (g_name 6 sc_joined.nd) (ss_one (s_if (t_eq hr.units (e_callH (has_place_of T) (hr.mono (by decide)) (a_cons (e_var 0) (a_cons (e_var 4) a_nil))) (e_callH (has_place_of T) (hr.mono (by decide)) (a_cons (e_var 0) (a_cons (e_ix (e_var 6) e_int) a_nil)))) (ss_one (s_if (t_w (w_and (t_val (e_callH (has_can_go_on T) (hr.mono (by decide)) (a_cons (e_var 0) (a_cons (e_ix (e_var 5) (e_neg e_int)) (a_cons (e_ix (e_var 6) e_int) a_nil))))) (w_and1 (t_val (e_callH (has_can_go_on T) (hr.mono (by decide)) (a_cons (e_var 0) (a_cons (e_ix (e_var 6) (e_neg e_int)) (a_cons (e_ix (e_var 5) e_int) a_nil)))))))) (ss_one (s_ret (e_add (e_var 5) (e_var 6)))) ss_nil)) ss_nil)) (fun _ => trivial)))) (fun _ => trivial)) (ss_one (s_ret e_non)))
theorem hasz_made_one (T : Tx K mg) : HasZ P w K mg base "made_one" 6 ["web", "one", "other"] (spZ K 3 m_made_one_Z) := has_z T.d_made_one sc_made_one (by rfl) (by decide) fun f cdv A outer s H E hr tk =>
  (zs_cons (z_set 3 sc_made_one.nd (ez_call (hasz_need_round T) (hr.mono (by decide)) tk (a_cons (e_var 0) (a_cons (e_var 1) a_nil)))) (zs_cons (z_set 4 sc_made_one.nd (ez_call (hasz_need_round T) (hr.mono (by decide)) tk (a_cons (e_var 0) (a_cons (e_var 2) a_nil)))) (zs_cons (z_if (t_meet hr T.z_set (n_lc [("end", 5)] sc_made_one.nd (i_any (e_var 3)) (blkOk_by (N := ["web", "one", "other", "first", "second", "end"]) (sc := defScope s_made_one) (by decide +kernel)) (fun _ _ _ _ _ => (g_name 5 sc_made_one.nd)) (fun _ _ _ _ _ => ts_nil) (fun _ _ _ _ _ => (e_ix (e_var 5) e_int))).e (n_lc [("end", 5)] sc_made_one.nd (i_any (e_var 4)) (blkOk_by (N := ["web", "one", "other", "first", "second", "end"]) (sc := defScope s_made_one) (by decide +kernel)) (fun _ _ _ _ _ => (g_name 5 sc_made_one.nd)) (fun _ _ _ _ _ => ts_nil) (fun _ _ _ _ _ => (e_ix (e_var 5) e_int))).e) (zs_one (z_raise T.x_NoRide tk)) (zs_of ss_nil)) (zs_of (ss_one (s_ret (e_callH (has_joined T) (hr.mono (by decide)) (a_cons (e_var 0) (a_cons (e_var 3) (a_cons (e_var 4) a_nil))))))))))
theorem has__law_lists (T : Tx K mg) : ∀ n, Has P w K mg base "_law_lists" (0 + n) ["thing"] (spF K 1 (m__law_lists n))
  | 0 => has_none_pure T.d__law_lists (by rfl)
  | n + 1 => have ih := has__law_lists T n
    has_pure T.d__law_lists sc__law_lists (by rfl) (by decide) fun f cdv A outer s H E hr =>
  (ss_one (s_ret (e_if (t_val (e_isi2 T.z_isinstance T.z_list (by decide +kernel) kit_list T.z_tuple (by decide +kernel) kit_tuple (e_var 0))) (n_lc [("inner", 1)] sc__law_lists.nd (i_any (e_var 0)) (blkOk_by (N := ["thing", "inner"]) (sc := defScope s__law_lists) (by decide +kernel)) (fun _ _ _ _ _ => (g_name 1 sc__law_lists.nd)) (fun _ _ _ _ _ => ts_nil) (fun _ _ _ _ _ => (e_callH ih hr (a_cons (e_var 1) a_nil)))).e (e_var 0))))
theorem has__law_handed (T : Tx K mg) : Has P w K mg base "_law_handed" 10 ["spring", "thing"] (spIO K 1 m__law_handed) := has_io T.d__law_handed sc__law_handed (by rfl) (by decide) fun f cdv A outer s H E hr =>
  (ss_one (s_ret (e_if (t_gt (e_callHIO 0 (has__law_draw T) (hr.mono (by decide)) (a_cons e_int a_nil)) e_int) (e_var 1) (e_callH (has__law_lists T 8) (hr.mono (by decide)) (a_cons (e_var 1) a_nil)))))
theorem has__law_word (T : Tx K mg) : Has P w K mg base "_law_word" 1 ["caught"] (spX K m__law_word) := has_exc T.d__law_word sc__law_word (by rfl) (by decide) fun f cdv A outer s H E hr =>
  (ss_cons (s_if (t_not (t_val (e_isEB 0 ["NoRide"] T.z_isinstance T.z_ValueError (by decide +kernel) T.b_ValueError))) (ss_one (s_ret e_str)) ss_nil) (ss_cons (s_set 1 sc__law_word.nd (e_lst (a_cons (e_isET 0 T.z_isinstance T.i_NoRide) (a_cons (e_isET 0 T.z_isinstance T.i_NoNumber) a_nil)))) (ss_cons (s_if (t_val (e_isAny 0 T.z_isinstance (any_cons T.i_NoCompany (any_cons T.i_NoEnd (any_cons T.i_NoForm (any_cons T.i_NoLine (any_cons T.i_NoPlace (any_cons T.i_NoText (any_cons T.i_NoTurning (any_cons T.i_NoWeb (any_cons T.i_NoneYet (any_cons T.i_TooMany any_nil)))))))))) T.xc)) (ss_one (s_ret e_str)) ss_nil) (ss_one (s_ret (e_if (t_eq hr.units (e_count hr (e_var 1) e_bl) e_int) (e_ix (e_lst (a_cons e_str (a_cons e_str a_nil))) (e_index hr (e_var 1) e_bl)) e_str))))))
theorem has__law_right (T : Tx K mg) : Has P w K mg base "_law_right" 11 ["spring", "web", "one", "other"] (spIO K 3 m__law_right_k85) := has_io T.d__law_right sc__law_right (by rfl) (by decide) fun f cdv A outer s H E hr =>
  (ss_cons (s_setLc (lc1 4 [("end", 8)] sc__law_right.nd (i_any (e_var 2)) (blkOk_by (N := ["spring", "web", "one", "other", "common", "caught", "found", "e", "end", "later"]) (sc := defScope s__law_right) (by decide +kernel)) (fun _ _ _ _ _ => (g_name 8 sc__law_right.nd)) (fun _ _ _ _ _ => (ts_one (t_in (hu65 hr) (e_ix (e_var 8) e_int) (n_lc [("later", 9)] sc__law_right.nd (i_any (e_var 3)) (blkOk_by (N := ["spring", "web", "one", "other", "common", "caught", "found", "e", "end", "later"]) (by first | decide +kernel | exact rfl)) (fun _ _ _ _ _ => (g_name 9 sc__law_right.nd)) (fun _ _ _ _ _ => ts_nil) (fun _ _ _ _ _ => (e_ix (e_var 9) e_int))).e))) (fun _ _ _ _ _ => (e_var 8)))) (ss_cons (s_set 5 sc__law_right.nd e_non) (ss_cons (s_set 6 sc__law_right.nd e_non) (ss_cons (s_tryT 7 5 sc__law_right.nd T.t_RideError fun W pn xe tk => (zs_one (z_set 6 sc__law_right.nd (ez_call (hasz_made_one T) (hr.mono (by decide)) tk (a_cons (e_callHIO 0 (has__law_handed T) (hr.mono (by decide)) (a_cons (e_var 1) a_nil)) (a_cons (e_callHIO 0 (has__law_handed T) (hr.mono (by decide)) (a_cons (e_var 2) a_nil)) (a_cons (e_callHIO 0 (has__law_handed T) (hr.mono (by decide)) (a_cons (e_var 3) a_nil)) a_nil))))))) (ss_cons (s_if (t_ne hr.units (e_var 4) (e_lst a_nil)) (ss_one (s_ret (e_and (e_notN 5) (e_one (e_eq hr.units (e_callX 5 (has__law_word T) (hr.mono (by decide))) e_str))))) ss_nil) (ss_cons (s_if (t_w (w_or (t_notN 5) (w_or (t_not (t_val (e_isi T.z_isinstance T.z_list (by decide +kernel) kit_list (e_var 6)))) (w_or1 (t_not (t_val (e_callH (has__law_is_round T) (hr.mono (by decide)) (a_cons (e_var 1) (a_cons (e_var 6) a_nil))))))))) (ss_one (s_ret e_bl)) ss_nil) (ss_one (s_ret (e_eq hr.units (e_sorted hr T.z_sorted (a_cons (n_lc [("end", 8)] sc__law_right.nd (i_any (e_var 6)) (blkOk_by (N := ["spring", "web", "one", "other", "common", "caught", "found", "e", "end", "later"]) (sc := defScope s__law_right) (by decide +kernel)) (fun _ _ _ _ _ => (g_name 8 sc__law_right.nd)) (fun _ _ _ _ _ => ts_nil) (fun _ _ _ _ _ => (e_ix (e_var 8) e_int))).e a_nil)) (e_sorted hr T.z_sorted (a_cons (n_lc [("end", 8)] sc__law_right.nd (i_any (e_add (e_var 2) (e_var 3))) (blkOk_by (N := ["spring", "web", "one", "other", "common", "caught", "found", "e", "end", "later"]) (sc := defScope s__law_right) (by decide +kernel)) (fun _ _ _ _ _ => (g_name 8 sc__law_right.nd)) (fun _ _ _ _ _ => ts_nil) (fun _ _ _ _ _ => (e_ix (e_var 8) e_int))).e a_nil)))))))))))
theorem law_body (T : Tx K mg) : Body P w K mg base ["script", "spring", "turn", "web", "spots", "one", "other", "back", "same", "first", "last", "end"] "law" s_law 11 AnyB g_law := fun f cdv A outer s H E hr =>
  (ss_cons (s_own 1 sc_law.nd (n_callScr 0 (has__law_spring T) (hr.mono (by decide)))) (ss_cons (s_for0 PassesOwn.never (i0_range1 T.z_range (a_cons (e_add e_int (e_min2 T.z_min (a_cons (e_scrLen 0 T.z_len) (a_cons e_int a_nil)))) a_nil)) (g_name 2 sc_law.nd) (ss_cons (s_asg (g_tup (gs_cons (g_name 3 sc_law.nd) (gs_cons (g_name 4 sc_law.nd) gs_nil))) (e_callHIO 1 (has__law_lined T) (hr.mono (by decide)) a_nil)) (ss_cons (s_set 5 sc_law.nd (e_callHIO 1 (has__law_there_and_back T) (hr.mono (by decide)) (a_cons (e_var 3) (a_cons (e_var 4) a_nil)))) (ss_cons (s_set 6 sc_law.nd (e_callHIO 1 (has__law_there_and_back T) (hr.mono (by decide)) (a_cons (e_var 3) (a_cons (e_var 4) a_nil)))) (ss_cons (s_setLc (lc1 7 [("end", 11)] sc_law.nd (i_any (n_revL (e_var 6)).e) (blkOk_by (N := ["script", "spring", "turn", "web", "spots", "one", "other", "back", "same", "first", "last", "end"]) (sc := defScope s_law) (by decide +kernel)) (fun _ _ _ _ _ => (g_name 11 sc_law.nd)) (fun _ _ _ _ _ => ts_nil) (fun _ _ _ _ _ => (e_callH (has__law_other T) (hr.mono (by decide)) (a_cons (e_var 11) a_nil))))) (ss_cons (s_setLc (lc1 8 [("end", 11)] sc_law.nd (i_any (n_revL (e_var 5)).e) (blkOk_by (N := ["script", "spring", "turn", "web", "spots", "one", "other", "back", "same", "first", "last", "end"]) (sc := defScope s_law) (by decide +kernel)) (fun _ _ _ _ _ => (g_name 11 sc_law.nd)) (fun _ _ _ _ _ => ts_nil) (fun _ _ _ _ _ => (e_callH (has__law_other T) (hr.mono (by decide)) (a_cons (e_var 11) a_nil))))) (ss_one (s_for PassesOwn.never (i_any (e_lst (a_cons (e_tup (a_cons (e_var 5) (a_cons (e_var 6) a_nil))) (a_cons (e_tup (a_cons (e_var 6) (a_cons (e_var 5) a_nil))) (a_cons (e_tup (a_cons (e_var 5) (a_cons (e_var 7) a_nil))) (a_cons (e_tup (a_cons (e_var 5) (a_cons (e_var 8) a_nil))) (a_cons (e_tup (a_cons (e_var 8) (a_cons (e_add (e_sl (e_var 5) (o_some e_int) o_none) (e_sl (e_var 5) o_none (o_some e_int))) a_nil))) a_nil))))))) (g_tup (gs_cons (g_name 9 sc_law.nd) (gs_cons (g_name 10 sc_law.nd) gs_nil))) (ss_one (s_if (t_w (w_or (t_not (t_val (e_callH (has__law_is_round T) (hr.mono (by decide)) (a_cons (e_var 3) (a_cons (e_var 9) a_nil))))) (w_or1 (t_not (t_val (e_callHIO 1 (has__law_right T) (hr.mono (by decide)) (a_cons (e_var 3) (a_cons (e_var 9) (a_cons (e_var 10) a_nil))))))))) (ss_one (s_ret e_bl)) ss_nil)) (fun _ => trivial))))))))) (ss_one (s_ret e_bl))))
end
end Lw.k85

set_option maxHeartbeats 4000000
namespace Lw.k85
open PySem Fu Lw
local macro_rules | `(tactic| walk_at "e1") => `(tactic| first
  | with_reducible refine eo_seq ?_ | (with_reducible refine then_nx' ?_; refine ⟨?_, ?_, ?_⟩; rotate_left; · (try dsimp only [List.set, List.length_cons, List.length_nil, List.cons_append, List.nil_append, Nat.zero_add, Nat.reduceAdd]); exact rfl) | with_reducible refine then_rt ?_ | with_reducible refine eo_if ?_ | with_reducible refine eo_ret ?_ | with_reducible refine eo_set ?_ | with_reducible refine eo_asg ?_ | with_reducible refine eo_drop ?_ | with_reducible refine eo_nx ?_ | with_reducible refine eo_par ?_ | with_reducible refine eo_own ?_ | with_reducible refine eo_retN ?_ | with_reducible refine eo_for ?_ | with_reducible refine eo_retO ?_
  | with_reducible refine ev_c ?_ | (with_reducible refine ev_var ?_; refine ⟨_, rfl, ?_⟩) | with_reducible refine ev_bin ?_ | with_reducible refine ev_un ?_ | with_reducible refine ev_nil ?_ | with_reducible refine ev_cons ?_
  | with_reducible refine ev_tup ?_ | with_reducible refine ev_lst ?_ | with_reducible refine ev_call ?_ | with_reducible refine ev_callF ?_ | with_reducible refine ev_isi ?_ | with_reducible refine ev_isi2 ?_ | with_reducible refine ev_andV ?_ | with_reducible refine ev_orV ?_ | with_reducible refine ev_notV ?_
  | with_reducible refine ev_B ?_ | with_reducible refine ev_and ?_ | with_reducible refine ev_or ?_ | with_reducible refine ev_not ?_ | with_reducible refine ev_yes ?_ | with_reducible refine ev_if ?_ | with_reducible refine ev_no ?_ | with_reducible refine ev_so ?_ | with_reducible refine ev_sl ?_ | with_reducible refine ev_items ?_
  | (with_reducible refine ev_ixO ?_; refine ⟨_, _, rfl, rfl, ?_⟩) | (with_reducible refine ev_varO ?_; refine ⟨_, _, rfl, rfl, ?_⟩) | (with_reducible refine ev_lenO ?_; refine ⟨_, _, rfl, rfl, ?_⟩) | (with_reducible refine ev_scrSl ?_; refine ⟨_, rfl, ?_⟩) | (with_reducible refine ev_scrLen ?_; refine ⟨_, rfl, ?_⟩) | (with_reducible refine ev_callScr ?_; refine ⟨_, rfl, ?_⟩) | (with_reducible refine ev_OL ?_; refine ⟨_, _, rfl, rfl, ?_⟩) | with_reducible refine ev_OR ?_ | with_reducible refine ev_rep ?_ | with_reducible refine ev_listRng1 ?_ | with_reducible refine eo_setO ?_
  | with_reducible refine es_name ?_ | with_reducible refine es_tup2 ?_ | with_reducible refine es_tup3 ?_
  | with_reducible refine ed_addI ?_ | with_reducible refine ed_subI ?_ | with_reducible refine ed_cmp ?_ | with_reducible refine ed_eqI ?_ | with_reducible refine ed_neI ?_ | with_reducible refine ed_slT ?_ | with_reducible refine ed_slL ?_ | with_reducible refine ed_lenT ?_ | with_reducible refine ed_lenL ?_ | with_reducible refine ed_lenS ?_ | with_reducible refine ed_inS ?_ | with_reducible refine ed_itT ?_ | with_reducible refine ed_itL ?_ | with_reducible refine ed_tupL ?_ | with_reducible refine ed_tupT ?_ | with_reducible refine ed_listL ?_ | with_reducible refine ed_listT ?_ | with_reducible refine ed_neg ?_ | with_reducible refine ed_max ?_ | with_reducible refine ed_min ?_ | with_reducible refine ed_intB ?_
  | with_reducible refine ev_rng1 ?_ | with_reducible refine ev_rng2 ?_)
local macro_rules | `(tactic| walk_at "sd") => `(tactic| first | rfl | assumption | (simp only [decide_eq_true_eq, decide_eq_false_iff_not, Bool.not_eq_true', Bool.not_eq_false', Bool.and_eq_true, Bool.or_eq_true, List.length_map, List.length_cons, List.length_nil, List.length_append, List.length_range] at *; omega))
local macro_rules | `(tactic| walk_at "e2") => `(tactic| first
  | walk_at "e1" | with_reducible refine ⟨_, rfl, ?_⟩ | with_reducible refine ⟨_, _, rfl, ?_⟩
  | with_reducible refine And.intro (Eq.refl (List.length _)) ?_ | with_reducible refine And.intro (Nat.le_of_ble_eq_true (n := List.length _) rfl) ?_
  | with_reducible refine And.intro (Eq.refl (_ : Sx)) (?_ : Ed _ _)
  | ((with_reducible refine And.intro ?_ (And.intro ?_ (?_ : Ev _ _))); (· rfl); (· rfl))
  | ((with_reducible refine ed_ixT ?_ ?_ ?_); (· decide); (· rfl)) | ((with_reducible refine ed_ixL ?_ ?_ ?_); (· decide); (· rfl)) | ((with_reducible refine ed_at ?_ ?_ ?_); (· decide); (· rfl))
  | ((with_reducible refine ed_modI ?_ ?_); (· first | decide | omega))
  | with_reducible exact gives_nx | ((with_reducible refine gives_rt ?_); (· rfl)) | ((with_reducible refine And.intro ?_ ?_); (· exact rfl); (· with_reducible exact Eq.refl (_ : Sx))))
local macro_rules | `(tactic| walk_at "e") => `(tactic| repeat walk_at "e2")
/-- begin a def's spec -/
local macro_rules | `(tactic| walk_at "i") => `(tactic| simp only [initS, List.map_cons, List.map_nil, List.length_cons, List.length_nil, Nat.reduceAdd, Nat.reduceSub, List.replicate, List.cons_append, List.nil_append])
/-- a known truth decides -/
local macro_rules | `(tactic| walk_at "t") => `(tactic| first | ((with_reducible refine split_t ?_ ?_); (· walk_at "sd")) | ((with_reducible refine split_t' ?_ ?_); (· walk_at "sd")))
local macro_rules | `(tactic| walk_at "f") => `(tactic| first | ((with_reducible refine split_f ?_ ?_); (· walk_at "sd")) | ((with_reducible refine split_f' ?_ ?_); (· walk_at "sd")))
/-- all that is seen in a look -/
local macro_rules | `(tactic| walk_at "v") => `(tactic| (rw [sealAll_mk (by (simp only [List.set_cons_zero, List.set_cons_succ, List.map_cons, List.map_nil, sealS_none, sealS_dat, sealS_scr, sealS_own, List.getElem?_cons_zero, List.getElem?_cons_succ, sealC_lst]; rfl)) (by (simp only [List.set_cons_zero, List.set_cons_succ, List.map_cons, List.map_nil]; rfl))]))
open Lw.Sp
theorem law_true : ∀ ns : List Int, ns.length ≤ 63 → mScr 12 g_law ns = some (.bool true) := by
  intro ns hns
  refine mScr_of ?_; walk_at "i"; unfold g_law
  walk_at "e"
  obtain ⟨cs, e, hR⟩ := x_spring hns
  refine Ed.of e ?_
  walk_at "e"
  refine ⟨by omega, by omega, ?_⟩
  refine eo_loop (fun i S => ∃ x2 x3 x4 x5 x6 x7 x8 x9 x10 cs, S = ⟨[some (.scr ns), some (.own 0), x2, x3, x4, x5, x6, x7, x8, x9, x10, none], [some (.lst cs)]⟩ ∧ Reel (4294967296 - 1000 * i) cs) ⟨_, _, _, _, _, _, _, _, _, _, rfl, hR⟩ ?_ ?_
  · rintro i z S hz ⟨x2, x3, x4, x5, x6, x7, x8, x9, x10, cs, rfl, hR⟩
    obtain ⟨hi, rfl⟩ := rng_at hz
    have hi : i < 10 := by omega
    walk_at "e"
    refine ev_IO ⟨_, rfl, ?_⟩
    walk_at "e"
    obtain ⟨d, cs, e, s0, s1, ls, rfl, hne, ht, hk, h4, h9, hR⟩ := x__law_lined hR (by omega)
    refine ⟨_, _, e, ?_⟩
    walk_at "e"
    refine ev_IO ⟨_, rfl, ?_⟩
    walk_at "e"
    obtain ⟨d, cs, e, es, rfl, he, hze, hR⟩ := x__law_there_and_back ht hne hk h4 h9 hR (by omega)
    refine ⟨_, _, e, ?_⟩
    walk_at "e"
    refine ev_IO ⟨_, rfl, ?_⟩
    walk_at "e"
    obtain ⟨d, cs, e, fs, rfl, hf, hzf, hR⟩ := x__law_there_and_back ht hne hk h4 h9 hR (by omega)
    refine ⟨_, _, e, ?_⟩
    walk_at "e"
    unfold lE
    refine ev_mapX (xs := fs.reverse) (enc := en) (g := fun e => en (far e)) ?_
    walk_at "e"
    refine ed_rev ?_
    walk_at "e"
    refine ⟨by rw [List.map_reverse], fun x hx => ?_, ?_⟩
    · walk_at "e"
      exact Ed.of (x__law_other (isEn_en x)) ⟨rfl, rfl⟩
    rw [show fs.reverse.map (fun e => en (far e)) = (rv fs).map en by unfold rv; rw [List.map_map]; rfl]
    walk_at "e"
    refine ev_mapX (xs := es.reverse) (enc := en) (g := fun e => en (far e)) ?_
    walk_at "e"
    refine ed_rev ?_
    walk_at "e"
    refine ⟨by rw [List.map_reverse], fun x hx => ?_, ?_⟩
    · walk_at "e"
      exact Ed.of (x__law_other (isEn_en x)) ⟨rfl, rfl⟩
    rw [show es.reverse.map (fun e => en (far e)) = (rv es).map en by unfold rv; rw [List.map_map]; rfl]
    walk_at "e"
    rw [cut_from (by decide), cut_to (by decide), show (1 : Int).toNat = 1 from rfl]
    refine ed_addL (by simp; omega) ?_
    walk_at "e"
    have hro : (es.map en).drop 1 ++ (es.map en).take 1 = (rot 1 es).map en := by
      unfold rot; rw [List.map_append, List.map_drop, List.map_take]
    rw [hro]
    have hw := web_wb 3 ls
    have hrv := rv_len fs
    have hre := rv_len es
    have hrr := rot_len 1 es
    have pairs : ∀ d ∈ [PyData.tuple [PyData.list (es.map en), PyData.list (fs.map en)], PyData.tuple [PyData.list (fs.map en), PyData.list (es.map en)], PyData.tuple [PyData.list (es.map en), PyData.list ((rv fs).map en)], PyData.tuple [PyData.list (es.map en), PyData.list ((rv es).map en)], PyData.tuple [PyData.list ((rv es).map en), PyData.list ((rot 1 es).map en)]],
        ∃ gs hs : List (Int × Int), d = .tuple [lE gs, lE hs] ∧ roundB ls gs = true ∧ roundB ls hs = true ∧ gs.length ≤ 4 ∧ hs.length ≤ 4 := fun d hd => by
      simp only [List.mem_cons, List.not_mem_nil, or_false] at hd
      rcases hd with rfl | rfl | rfl | rfl | rfl
      · exact ⟨es, fs, rfl, he, hf, hze, hzf⟩
      · exact ⟨fs, es, rfl, hf, he, hzf, hze⟩
      · exact ⟨es, rv fs, rfl, he, round_rv hf, hze, by omega⟩
      · exact ⟨es, rv es, rfl, he, round_rv he, hze, by omega⟩
      · exact ⟨rv es, rot 1 es, rfl, round_rv he, round_rot 1 he, by omega, by omega⟩
    refine eo_loop (fun j S => ∃ x9 x10 cs, S = ⟨[some (.scr ns), some (.own 0), some (.dat (.int (0 + (i : Int)))), some (.dat (wb 3 ls)), some (.dat (.tuple [.int s0, .int s1])), some (.dat (.list (es.map en))), some (.dat (.list (fs.map en))), some (.dat (.list ((rv fs).map en))), some (.dat (.list ((rv es).map en))), x9, x10, none], [some (.lst cs)]⟩ ∧ Reel (4294967296 - 1000 * i - 100 - 3 * j) cs) ⟨_, _, _, rfl, hR.mono (by omega)⟩ ?_ ?_
    · rintro j d S hd ⟨x9, x10, cs, rfl, hR⟩
      have hj : j < 5 := by have := (List.getElem?_eq_some_iff.mp hd).1; simpa using this
      obtain ⟨gs, hs, rfl, hg, hh, hzg, hzh⟩ := pairs d (List.mem_of_getElem? hd)
      walk_at "e"
      refine Ed.of (x__law_is_round hw hk (ride_lE gs) (by omega)) ?_
      rw [hg]
      walk_at "e"
      refine ⟨fun _ => ?_, fun z => absurd z (by decide)⟩
      walk_at "e"
      refine ev_IO ⟨_, rfl, ?_⟩
      walk_at "e"
      obtain ⟨z, cs, e, rfl, hR⟩ := x__law_right_k85 ht hne hk h9 hg hh hzg hzh hR (by omega)
      refine ⟨_, _, e, ?_⟩
      walk_at "e"
      refine split_f rfl ?_
      walk_at "e"
      exact ⟨_, _, _, rfl, hR.mono (by omega)⟩
    · rintro S ⟨x9, x10, cs, rfl, hR⟩
      exact ⟨_, rfl, _, _, _, _, _, _, _, _, _, cs, rfl, hR.mono (by simp only [List.length_cons, List.length_nil]; omega)⟩
  · rintro S ⟨x2, x3, x4, x5, x6, x7, x8, x9, x10, cs, rfl, hR⟩
    walk_at "e"
    exact ⟨_, rfl⟩
end Lw.k85

set_option maxHeartbeats 16000000
namespace Lw.k85
open PySem PySem.Spec PyProof.Rows L2 RZ Fu Lw
theorem all_mk {l : PySem.W.OpenLaw} {w : World} {K : PySem.W.Frag} {h : Heap} {mg : Str → Option Value} {fa : Addr} (X : K.In h) (G : h.Ns mainGlobals mg) (hfa : mg "law" = some (.ref fa))
    {f__law_spring : Addr} {od__law_spring an__law_spring : Option Addr} {sl__law_spring : Array (Option Value)} {oc__law_spring kV__law_spring dc__law_spring pm__law_spring cd__law_spring ct__law_spring : Value}
    (a__law_spring : PySem.W.nsIn K mainGlobals "_law_spring" = some (some (.ref f__law_spring)))
    (l__law_spring : K.lookup f__law_spring = some ⟨oc__law_spring, od__law_spring, .func (PySem.W.fnOf "_law_spring" "_law_spring" (defArgs s__law_spring) (defBody s__law_spring) (defScope s__law_spring) .none kV__law_spring dc__law_spring pm__law_spring an__law_spring cd__law_spring ct__law_spring), sl__law_spring⟩)
    (c__law_spring : PySem.W.codeIn K cd__law_spring "_law_spring" = true)
    (k__law_spring : PySem.W.keepIn K (.ref f__law_spring) = true)
    {f__law_draw : Addr} {od__law_draw an__law_draw : Option Addr} {sl__law_draw : Array (Option Value)} {oc__law_draw kV__law_draw dc__law_draw pm__law_draw cd__law_draw ct__law_draw : Value}
    (a__law_draw : PySem.W.nsIn K mainGlobals "_law_draw" = some (some (.ref f__law_draw)))
    (l__law_draw : K.lookup f__law_draw = some ⟨oc__law_draw, od__law_draw, .func (PySem.W.fnOf "_law_draw" "_law_draw" (defArgs s__law_draw) (defBody s__law_draw) (defScope s__law_draw) .none kV__law_draw dc__law_draw pm__law_draw an__law_draw cd__law_draw ct__law_draw), sl__law_draw⟩)
    (c__law_draw : PySem.W.codeIn K cd__law_draw "_law_draw" = true)
    (k__law_draw : PySem.W.keepIn K (.ref f__law_draw) = true)
    {f__law_lined : Addr} {od__law_lined an__law_lined : Option Addr} {sl__law_lined : Array (Option Value)} {oc__law_lined kV__law_lined dc__law_lined pm__law_lined cd__law_lined ct__law_lined : Value}
    (a__law_lined : PySem.W.nsIn K mainGlobals "_law_lined" = some (some (.ref f__law_lined)))
    (l__law_lined : K.lookup f__law_lined = some ⟨oc__law_lined, od__law_lined, .func (PySem.W.fnOf "_law_lined" "_law_lined" (defArgs s__law_lined) (defBody s__law_lined) (defScope s__law_lined) .none kV__law_lined dc__law_lined pm__law_lined an__law_lined cd__law_lined ct__law_lined), sl__law_lined⟩)
    (c__law_lined : PySem.W.codeIn K cd__law_lined "_law_lined" = true)
    (k__law_lined : PySem.W.keepIn K (.ref f__law_lined) = true)
    {f__law_there_and_back : Addr} {od__law_there_and_back an__law_there_and_back : Option Addr} {sl__law_there_and_back : Array (Option Value)} {oc__law_there_and_back kV__law_there_and_back dc__law_there_and_back pm__law_there_and_back cd__law_there_and_back ct__law_there_and_back : Value}
    (a__law_there_and_back : PySem.W.nsIn K mainGlobals "_law_there_and_back" = some (some (.ref f__law_there_and_back)))
    (l__law_there_and_back : K.lookup f__law_there_and_back = some ⟨oc__law_there_and_back, od__law_there_and_back, .func (PySem.W.fnOf "_law_there_and_back" "_law_there_and_back" (defArgs s__law_there_and_back) (defBody s__law_there_and_back) (defScope s__law_there_and_back) .none kV__law_there_and_back dc__law_there_and_back pm__law_there_and_back an__law_there_and_back cd__law_there_and_back ct__law_there_and_back), sl__law_there_and_back⟩)
    (c__law_there_and_back : PySem.W.codeIn K cd__law_there_and_back "_law_there_and_back" = true)
    (k__law_there_and_back : PySem.W.keepIn K (.ref f__law_there_and_back) = true)
    {f__law_other : Addr} {od__law_other an__law_other : Option Addr} {sl__law_other : Array (Option Value)} {oc__law_other kV__law_other dc__law_other pm__law_other cd__law_other ct__law_other : Value}
    (a__law_other : PySem.W.nsIn K mainGlobals "_law_other" = some (some (.ref f__law_other)))
    (l__law_other : K.lookup f__law_other = some ⟨oc__law_other, od__law_other, .func (PySem.W.fnOf "_law_other" "_law_other" (defArgs s__law_other) (defBody s__law_other) (defScope s__law_other) .none kV__law_other dc__law_other pm__law_other an__law_other cd__law_other ct__law_other), sl__law_other⟩)
    (c__law_other : PySem.W.codeIn K cd__law_other "_law_other" = true)
    (k__law_other : PySem.W.keepIn K (.ref f__law_other) = true)
    {f__law_is_end : Addr} {od__law_is_end an__law_is_end : Option Addr} {sl__law_is_end : Array (Option Value)} {oc__law_is_end kV__law_is_end dc__law_is_end pm__law_is_end cd__law_is_end ct__law_is_end : Value}
    (a__law_is_end : PySem.W.nsIn K mainGlobals "_law_is_end" = some (some (.ref f__law_is_end)))
    (l__law_is_end : K.lookup f__law_is_end = some ⟨oc__law_is_end, od__law_is_end, .func (PySem.W.fnOf "_law_is_end" "_law_is_end" (defArgs s__law_is_end) (defBody s__law_is_end) (defScope s__law_is_end) .none kV__law_is_end dc__law_is_end pm__law_is_end an__law_is_end cd__law_is_end ct__law_is_end), sl__law_is_end⟩)
    (c__law_is_end : PySem.W.codeIn K cd__law_is_end "_law_is_end" = true)
    (k__law_is_end : PySem.W.keepIn K (.ref f__law_is_end) = true)
    {f__law_at : Addr} {od__law_at an__law_at : Option Addr} {sl__law_at : Array (Option Value)} {oc__law_at kV__law_at dc__law_at pm__law_at cd__law_at ct__law_at : Value}
    (a__law_at : PySem.W.nsIn K mainGlobals "_law_at" = some (some (.ref f__law_at)))
    (l__law_at : K.lookup f__law_at = some ⟨oc__law_at, od__law_at, .func (PySem.W.fnOf "_law_at" "_law_at" (defArgs s__law_at) (defBody s__law_at) (defScope s__law_at) .none kV__law_at dc__law_at pm__law_at an__law_at cd__law_at ct__law_at), sl__law_at⟩)
    (c__law_at : PySem.W.codeIn K cd__law_at "_law_at" = true)
    (k__law_at : PySem.W.keepIn K (.ref f__law_at) = true)
    {f__law_goes : Addr} {od__law_goes an__law_goes : Option Addr} {sl__law_goes : Array (Option Value)} {oc__law_goes kV__law_goes dc__law_goes pm__law_goes cd__law_goes ct__law_goes : Value}
    (a__law_goes : PySem.W.nsIn K mainGlobals "_law_goes" = some (some (.ref f__law_goes)))
    (l__law_goes : K.lookup f__law_goes = some ⟨oc__law_goes, od__law_goes, .func (PySem.W.fnOf "_law_goes" "_law_goes" (defArgs s__law_goes) (defBody s__law_goes) (defScope s__law_goes) .none kV__law_goes dc__law_goes pm__law_goes an__law_goes cd__law_goes ct__law_goes), sl__law_goes⟩)
    (c__law_goes : PySem.W.codeIn K cd__law_goes "_law_goes" = true)
    (k__law_goes : PySem.W.keepIn K (.ref f__law_goes) = true)
    {f__law_is_ride : Addr} {od__law_is_ride an__law_is_ride : Option Addr} {sl__law_is_ride : Array (Option Value)} {oc__law_is_ride kV__law_is_ride dc__law_is_ride pm__law_is_ride cd__law_is_ride ct__law_is_ride : Value}
    (a__law_is_ride : PySem.W.nsIn K mainGlobals "_law_is_ride" = some (some (.ref f__law_is_ride)))
    (l__law_is_ride : K.lookup f__law_is_ride = some ⟨oc__law_is_ride, od__law_is_ride, .func (PySem.W.fnOf "_law_is_ride" "_law_is_ride" (defArgs s__law_is_ride) (defBody s__law_is_ride) (defScope s__law_is_ride) .none kV__law_is_ride dc__law_is_ride pm__law_is_ride an__law_is_ride cd__law_is_ride ct__law_is_ride), sl__law_is_ride⟩)
    (c__law_is_ride : PySem.W.codeIn K cd__law_is_ride "_law_is_ride" = true)
    (k__law_is_ride : PySem.W.keepIn K (.ref f__law_is_ride) = true)
    {f__law_is_round : Addr} {od__law_is_round an__law_is_round : Option Addr} {sl__law_is_round : Array (Option Value)} {oc__law_is_round kV__law_is_round dc__law_is_round pm__law_is_round cd__law_is_round ct__law_is_round : Value}
    (a__law_is_round : PySem.W.nsIn K mainGlobals "_law_is_round" = some (some (.ref f__law_is_round)))
    (l__law_is_round : K.lookup f__law_is_round = some ⟨oc__law_is_round, od__law_is_round, .func (PySem.W.fnOf "_law_is_round" "_law_is_round" (defArgs s__law_is_round) (defBody s__law_is_round) (defScope s__law_is_round) .none kV__law_is_round dc__law_is_round pm__law_is_round an__law_is_round cd__law_is_round ct__law_is_round), sl__law_is_round⟩)
    (c__law_is_round : PySem.W.codeIn K cd__law_is_round "_law_is_round" = true)
    (k__law_is_round : PySem.W.keepIn K (.ref f__law_is_round) = true)
    {f_place_of : Addr} {od_place_of an_place_of : Option Addr} {sl_place_of : Array (Option Value)} {oc_place_of kV_place_of dc_place_of pm_place_of cd_place_of ct_place_of : Value}
    (a_place_of : PySem.W.nsIn K mainGlobals "place_of" = some (some (.ref f_place_of)))
    (l_place_of : K.lookup f_place_of = some ⟨oc_place_of, od_place_of, .func (PySem.W.fnOf "place_of" "place_of" (defArgs s_place_of) (defBody s_place_of) (defScope s_place_of) .none kV_place_of dc_place_of pm_place_of an_place_of cd_place_of ct_place_of), sl_place_of⟩)
    (c_place_of : PySem.W.codeIn K cd_place_of "place_of" = true)
    (k_place_of : PySem.W.keepIn K (.ref f_place_of) = true)
    {f_company_of : Addr} {od_company_of an_company_of : Option Addr} {sl_company_of : Array (Option Value)} {oc_company_of kV_company_of dc_company_of pm_company_of cd_company_of ct_company_of : Value}
    (a_company_of : PySem.W.nsIn K mainGlobals "company_of" = some (some (.ref f_company_of)))
    (l_company_of : K.lookup f_company_of = some ⟨oc_company_of, od_company_of, .func (PySem.W.fnOf "company_of" "company_of" (defArgs s_company_of) (defBody s_company_of) (defScope s_company_of) .none kV_company_of dc_company_of pm_company_of an_company_of cd_company_of ct_company_of), sl_company_of⟩)
    (c_company_of : PySem.W.codeIn K cd_company_of "company_of" = true)
    (k_company_of : PySem.W.keepIn K (.ref f_company_of) = true)
    {f_far_end : Addr} {od_far_end an_far_end : Option Addr} {sl_far_end : Array (Option Value)} {oc_far_end kV_far_end dc_far_end pm_far_end cd_far_end ct_far_end : Value}
    (a_far_end : PySem.W.nsIn K mainGlobals "far_end" = some (some (.ref f_far_end)))
    (l_far_end : K.lookup f_far_end = some ⟨oc_far_end, od_far_end, .func (PySem.W.fnOf "far_end" "far_end" (defArgs s_far_end) (defBody s_far_end) (defScope s_far_end) .none kV_far_end dc_far_end pm_far_end an_far_end cd_far_end ct_far_end), sl_far_end⟩)
    (c_far_end : PySem.W.codeIn K cd_far_end "far_end" = true)
    (k_far_end : PySem.W.keepIn K (.ref f_far_end) = true)
    {f_can_go_on : Addr} {od_can_go_on an_can_go_on : Option Addr} {sl_can_go_on : Array (Option Value)} {oc_can_go_on kV_can_go_on dc_can_go_on pm_can_go_on cd_can_go_on ct_can_go_on : Value}
    (a_can_go_on : PySem.W.nsIn K mainGlobals "can_go_on" = some (some (.ref f_can_go_on)))
    (l_can_go_on : K.lookup f_can_go_on = some ⟨oc_can_go_on, od_can_go_on, .func (PySem.W.fnOf "can_go_on" "can_go_on" (defArgs s_can_go_on) (defBody s_can_go_on) (defScope s_can_go_on) .none kV_can_go_on dc_can_go_on pm_can_go_on an_can_go_on cd_can_go_on ct_can_go_on), sl_can_go_on⟩)
    (c_can_go_on : PySem.W.codeIn K cd_can_go_on "can_go_on" = true)
    (k_can_go_on : PySem.W.keepIn K (.ref f_can_go_on) = true)
    {f_is_row : Addr} {od_is_row an_is_row : Option Addr} {sl_is_row : Array (Option Value)} {oc_is_row kV_is_row dc_is_row pm_is_row cd_is_row ct_is_row : Value}
    (a_is_row : PySem.W.nsIn K mainGlobals "is_row" = some (some (.ref f_is_row)))
    (l_is_row : K.lookup f_is_row = some ⟨oc_is_row, od_is_row, .func (PySem.W.fnOf "is_row" "is_row" (defArgs s_is_row) (defBody s_is_row) (defScope s_is_row) .none kV_is_row dc_is_row pm_is_row an_is_row cd_is_row ct_is_row), sl_is_row⟩)
    (c_is_row : PySem.W.codeIn K cd_is_row "is_row" = true)
    (k_is_row : PySem.W.keepIn K (.ref f_is_row) = true)
    {f_is_whole : Addr} {od_is_whole an_is_whole : Option Addr} {sl_is_whole : Array (Option Value)} {oc_is_whole kV_is_whole dc_is_whole pm_is_whole cd_is_whole ct_is_whole : Value}
    (a_is_whole : PySem.W.nsIn K mainGlobals "is_whole" = some (some (.ref f_is_whole)))
    (l_is_whole : K.lookup f_is_whole = some ⟨oc_is_whole, od_is_whole, .func (PySem.W.fnOf "is_whole" "is_whole" (defArgs s_is_whole) (defBody s_is_whole) (defScope s_is_whole) .none kV_is_whole dc_is_whole pm_is_whole an_is_whole cd_is_whole ct_is_whole), sl_is_whole⟩)
    (c_is_whole : PySem.W.codeIn K cd_is_whole "is_whole" = true)
    (k_is_whole : PySem.W.keepIn K (.ref f_is_whole) = true)
    {f_is_end : Addr} {od_is_end an_is_end : Option Addr} {sl_is_end : Array (Option Value)} {oc_is_end kV_is_end dc_is_end pm_is_end cd_is_end ct_is_end : Value}
    (a_is_end : PySem.W.nsIn K mainGlobals "is_end" = some (some (.ref f_is_end)))
    (l_is_end : K.lookup f_is_end = some ⟨oc_is_end, od_is_end, .func (PySem.W.fnOf "is_end" "is_end" (defArgs s_is_end) (defBody s_is_end) (defScope s_is_end) .none kV_is_end dc_is_end pm_is_end an_is_end cd_is_end ct_is_end), sl_is_end⟩)
    (c_is_end : PySem.W.codeIn K cd_is_end "is_end" = true)
    (k_is_end : PySem.W.keepIn K (.ref f_is_end) = true)
    {f_ride_is : Addr} {od_ride_is an_ride_is : Option Addr} {sl_ride_is : Array (Option Value)} {oc_ride_is kV_ride_is dc_ride_is pm_ride_is cd_ride_is ct_ride_is : Value}
    (a_ride_is : PySem.W.nsIn K mainGlobals "ride_is" = some (some (.ref f_ride_is)))
    (l_ride_is : K.lookup f_ride_is = some ⟨oc_ride_is, od_ride_is, .func (PySem.W.fnOf "ride_is" "ride_is" (defArgs s_ride_is) (defBody s_ride_is) (defScope s_ride_is) .none kV_ride_is dc_ride_is pm_ride_is an_ride_is cd_ride_is ct_ride_is), sl_ride_is⟩)
    (c_ride_is : PySem.W.codeIn K cd_ride_is "ride_is" = true)
    (k_ride_is : PySem.W.keepIn K (.ref f_ride_is) = true)
    {f_round_is : Addr} {od_round_is an_round_is : Option Addr} {sl_round_is : Array (Option Value)} {oc_round_is kV_round_is dc_round_is pm_round_is cd_round_is ct_round_is : Value}
    (a_round_is : PySem.W.nsIn K mainGlobals "round_is" = some (some (.ref f_round_is)))
    (l_round_is : K.lookup f_round_is = some ⟨oc_round_is, od_round_is, .func (PySem.W.fnOf "round_is" "round_is" (defArgs s_round_is) (defBody s_round_is) (defScope s_round_is) .none kV_round_is dc_round_is pm_round_is an_round_is cd_round_is ct_round_is), sl_round_is⟩)
    (c_round_is : PySem.W.codeIn K cd_round_is "round_is" = true)
    (k_round_is : PySem.W.keepIn K (.ref f_round_is) = true)
    {f_need_round : Addr} {od_need_round an_need_round : Option Addr} {sl_need_round : Array (Option Value)} {oc_need_round kV_need_round dc_need_round pm_need_round cd_need_round ct_need_round : Value}
    (a_need_round : PySem.W.nsIn K mainGlobals "need_round" = some (some (.ref f_need_round)))
    (l_need_round : K.lookup f_need_round = some ⟨oc_need_round, od_need_round, .func (PySem.W.fnOf "need_round" "need_round" (defArgs s_need_round) (defBody s_need_round) (defScope s_need_round) .none kV_need_round dc_need_round pm_need_round an_need_round cd_need_round ct_need_round), sl_need_round⟩)
    (c_need_round : PySem.W.codeIn K cd_need_round "need_round" = true)
    (k_need_round : PySem.W.keepIn K (.ref f_need_round) = true)
    {f_faced_about : Addr} {od_faced_about an_faced_about : Option Addr} {sl_faced_about : Array (Option Value)} {oc_faced_about kV_faced_about dc_faced_about pm_faced_about cd_faced_about ct_faced_about : Value}
    (a_faced_about : PySem.W.nsIn K mainGlobals "faced_about" = some (some (.ref f_faced_about)))
    (l_faced_about : K.lookup f_faced_about = some ⟨oc_faced_about, od_faced_about, .func (PySem.W.fnOf "faced_about" "faced_about" (defArgs s_faced_about) (defBody s_faced_about) (defScope s_faced_about) .none kV_faced_about dc_faced_about pm_faced_about an_faced_about cd_faced_about ct_faced_about), sl_faced_about⟩)
    (c_faced_about : PySem.W.codeIn K cd_faced_about "faced_about" = true)
    (k_faced_about : PySem.W.keepIn K (.ref f_faced_about) = true)
    {f_all_ways : Addr} {od_all_ways an_all_ways : Option Addr} {sl_all_ways : Array (Option Value)} {oc_all_ways kV_all_ways dc_all_ways pm_all_ways cd_all_ways ct_all_ways : Value}
    (a_all_ways : PySem.W.nsIn K mainGlobals "all_ways" = some (some (.ref f_all_ways)))
    (l_all_ways : K.lookup f_all_ways = some ⟨oc_all_ways, od_all_ways, .func (PySem.W.fnOf "all_ways" "all_ways" (defArgs s_all_ways) (defBody s_all_ways) (defScope s_all_ways) .none kV_all_ways dc_all_ways pm_all_ways an_all_ways cd_all_ways ct_all_ways), sl_all_ways⟩)
    (c_all_ways : PySem.W.codeIn K cd_all_ways "all_ways" = true)
    (k_all_ways : PySem.W.keepIn K (.ref f_all_ways) = true)
    {f_joined : Addr} {od_joined an_joined : Option Addr} {sl_joined : Array (Option Value)} {oc_joined kV_joined dc_joined pm_joined cd_joined ct_joined : Value}
    (a_joined : PySem.W.nsIn K mainGlobals "joined" = some (some (.ref f_joined)))
    (l_joined : K.lookup f_joined = some ⟨oc_joined, od_joined, .func (PySem.W.fnOf "joined" "joined" (defArgs s_joined) (defBody s_joined) (defScope s_joined) .none kV_joined dc_joined pm_joined an_joined cd_joined ct_joined), sl_joined⟩)
    (c_joined : PySem.W.codeIn K cd_joined "joined" = true)
    (k_joined : PySem.W.keepIn K (.ref f_joined) = true)
    {f_made_one : Addr} {od_made_one an_made_one : Option Addr} {sl_made_one : Array (Option Value)} {oc_made_one kV_made_one dc_made_one pm_made_one cd_made_one ct_made_one : Value}
    (a_made_one : PySem.W.nsIn K mainGlobals "made_one" = some (some (.ref f_made_one)))
    (l_made_one : K.lookup f_made_one = some ⟨oc_made_one, od_made_one, .func (PySem.W.fnOf "made_one" "made_one" (defArgs s_made_one) (defBody s_made_one) (defScope s_made_one) .none kV_made_one dc_made_one pm_made_one an_made_one cd_made_one ct_made_one), sl_made_one⟩)
    (c_made_one : PySem.W.codeIn K cd_made_one "made_one" = true)
    (k_made_one : PySem.W.keepIn K (.ref f_made_one) = true)
    {f__law_lists : Addr} {od__law_lists an__law_lists : Option Addr} {sl__law_lists : Array (Option Value)} {oc__law_lists kV__law_lists dc__law_lists pm__law_lists cd__law_lists ct__law_lists : Value}
    (a__law_lists : PySem.W.nsIn K mainGlobals "_law_lists" = some (some (.ref f__law_lists)))
    (l__law_lists : K.lookup f__law_lists = some ⟨oc__law_lists, od__law_lists, .func (PySem.W.fnOf "_law_lists" "_law_lists" (defArgs s__law_lists) (defBody s__law_lists) (defScope s__law_lists) .none kV__law_lists dc__law_lists pm__law_lists an__law_lists cd__law_lists ct__law_lists), sl__law_lists⟩)
    (c__law_lists : PySem.W.codeIn K cd__law_lists "_law_lists" = true)
    (k__law_lists : PySem.W.keepIn K (.ref f__law_lists) = true)
    {f__law_handed : Addr} {od__law_handed an__law_handed : Option Addr} {sl__law_handed : Array (Option Value)} {oc__law_handed kV__law_handed dc__law_handed pm__law_handed cd__law_handed ct__law_handed : Value}
    (a__law_handed : PySem.W.nsIn K mainGlobals "_law_handed" = some (some (.ref f__law_handed)))
    (l__law_handed : K.lookup f__law_handed = some ⟨oc__law_handed, od__law_handed, .func (PySem.W.fnOf "_law_handed" "_law_handed" (defArgs s__law_handed) (defBody s__law_handed) (defScope s__law_handed) .none kV__law_handed dc__law_handed pm__law_handed an__law_handed cd__law_handed ct__law_handed), sl__law_handed⟩)
    (c__law_handed : PySem.W.codeIn K cd__law_handed "_law_handed" = true)
    (k__law_handed : PySem.W.keepIn K (.ref f__law_handed) = true)
    {f__law_word : Addr} {od__law_word an__law_word : Option Addr} {sl__law_word : Array (Option Value)} {oc__law_word kV__law_word dc__law_word pm__law_word cd__law_word ct__law_word : Value}
    (a__law_word : PySem.W.nsIn K mainGlobals "_law_word" = some (some (.ref f__law_word)))
    (l__law_word : K.lookup f__law_word = some ⟨oc__law_word, od__law_word, .func (PySem.W.fnOf "_law_word" "_law_word" (defArgs s__law_word) (defBody s__law_word) (defScope s__law_word) .none kV__law_word dc__law_word pm__law_word an__law_word cd__law_word ct__law_word), sl__law_word⟩)
    (c__law_word : PySem.W.codeIn K cd__law_word "_law_word" = true)
    (k__law_word : PySem.W.keepIn K (.ref f__law_word) = true)
    {f__law_right : Addr} {od__law_right an__law_right : Option Addr} {sl__law_right : Array (Option Value)} {oc__law_right kV__law_right dc__law_right pm__law_right cd__law_right ct__law_right : Value}
    (a__law_right : PySem.W.nsIn K mainGlobals "_law_right" = some (some (.ref f__law_right)))
    (l__law_right : K.lookup f__law_right = some ⟨oc__law_right, od__law_right, .func (PySem.W.fnOf "_law_right" "_law_right" (defArgs s__law_right) (defBody s__law_right) (defScope s__law_right) .none kV__law_right dc__law_right pm__law_right an__law_right cd__law_right ct__law_right), sl__law_right⟩)
    (c__law_right : PySem.W.codeIn K cd__law_right "_law_right" = true)
    (k__law_right : PySem.W.keepIn K (.ref f__law_right) = true)
    {f_law : Addr} {od_law an_law : Option Addr} {sl_law : Array (Option Value)} {oc_law kV_law dc_law pm_law cd_law ct_law : Value}
    (a_law : PySem.W.nsIn K mainGlobals "law" = some (some (.ref f_law)))
    (l_law : K.lookup f_law = some ⟨oc_law, od_law, .func (PySem.W.fnOf "law" "law" (defArgs s_law) (defBody s_law) (defScope s_law) .none kV_law dc_law pm_law an_law cd_law ct_law), sl_law⟩)
    (c_law : PySem.W.codeIn K cd_law "law" = true)
    (k_law : PySem.W.keepIn K (.ref f_law) = true)
    (z_ValueError : PySem.W.nsIn K mainGlobals "ValueError" = some none)
    (z_abs : PySem.W.nsIn K mainGlobals "abs" = some none)
    (z_all : PySem.W.nsIn K mainGlobals "all" = some none)
    (z_bool : PySem.W.nsIn K mainGlobals "bool" = some none)
    (z_enumerate : PySem.W.nsIn K mainGlobals "enumerate" = some none)
    (z_int : PySem.W.nsIn K mainGlobals "int" = some none)
    (z_isinstance : PySem.W.nsIn K mainGlobals "isinstance" = some none)
    (z_len : PySem.W.nsIn K mainGlobals "len" = some none)
    (z_list : PySem.W.nsIn K mainGlobals "list" = some none)
    (z_min : PySem.W.nsIn K mainGlobals "min" = some none)
    (z_range : PySem.W.nsIn K mainGlobals "range" = some none)
    (z_set : PySem.W.nsIn K mainGlobals "set" = some none)
    (z_sorted : PySem.W.nsIn K mainGlobals "sorted" = some none)
    (z_tuple : PySem.W.nsIn K mainGlobals "tuple" = some none)
    (z_zip : PySem.W.nsIn K mainGlobals "zip" = some none)
    {t_SIDES : Tok}
    (n_SIDES : PySem.W.nsIn K mainGlobals "SIDES" = some (some (.int 2 t_SIDES)))
    {fc_NoCompany : Addr}
    (ac_NoCompany : PySem.W.nsIn K mainGlobals "NoCompany" = some (some (.ref fc_NoCompany)))
    {fc_NoEnd : Addr}
    (ac_NoEnd : PySem.W.nsIn K mainGlobals "NoEnd" = some (some (.ref fc_NoEnd)))
    {fc_NoForm : Addr}
    (ac_NoForm : PySem.W.nsIn K mainGlobals "NoForm" = some (some (.ref fc_NoForm)))
    {fc_NoLine : Addr}
    (ac_NoLine : PySem.W.nsIn K mainGlobals "NoLine" = some (some (.ref fc_NoLine)))
    {fc_NoNumber : Addr}
    (ac_NoNumber : PySem.W.nsIn K mainGlobals "NoNumber" = some (some (.ref fc_NoNumber)))
    {fc_NoPlace : Addr}
    (ac_NoPlace : PySem.W.nsIn K mainGlobals "NoPlace" = some (some (.ref fc_NoPlace)))
    {fc_NoRide : Addr}
    (ac_NoRide : PySem.W.nsIn K mainGlobals "NoRide" = some (some (.ref fc_NoRide)))
    {fc_NoText : Addr}
    (ac_NoText : PySem.W.nsIn K mainGlobals "NoText" = some (some (.ref fc_NoText)))
    {fc_NoTurning : Addr}
    (ac_NoTurning : PySem.W.nsIn K mainGlobals "NoTurning" = some (some (.ref fc_NoTurning)))
    {fc_NoWeb : Addr}
    (ac_NoWeb : PySem.W.nsIn K mainGlobals "NoWeb" = some (some (.ref fc_NoWeb)))
    {fc_NoneYet : Addr}
    (ac_NoneYet : PySem.W.nsIn K mainGlobals "NoneYet" = some (some (.ref fc_NoneYet)))
    {fc_RideError : Addr}
    (ac_RideError : PySem.W.nsIn K mainGlobals "RideError" = some (some (.ref fc_RideError)))
    {fc_TooMany : Addr}
    (ac_TooMany : PySem.W.nsIn K mainGlobals "TooMany" = some (some (.ref fc_TooMany)))
    (xx_NoRide : PySem.W.excIn K fc_NoRide [.type "ValueError", .type "Exception", .type "BaseException", .type "object"] "ValueError.__new__" = true)
    (xk_NoRide : PySem.W.keepIn K (.ref fc_NoRide) = true)
    (xe_NoRide : ExcC K fc_NoRide)
    (xb_NoCompany : PySem.W.subIn K (.ref fc_NoCompany) (.type "BaseException") = some true)
    (xt_NoCompany : PySem.W.typeIn K (.ref fc_NoCompany) = some (.type "type"))
    (xi_NoCompany : PySem.W.isClsIn K fc_NoCompany = true)
    (xb_NoEnd : PySem.W.subIn K (.ref fc_NoEnd) (.type "BaseException") = some true)
    (xt_NoEnd : PySem.W.typeIn K (.ref fc_NoEnd) = some (.type "type"))
    (xi_NoEnd : PySem.W.isClsIn K fc_NoEnd = true)
    (xb_NoForm : PySem.W.subIn K (.ref fc_NoForm) (.type "BaseException") = some true)
    (xt_NoForm : PySem.W.typeIn K (.ref fc_NoForm) = some (.type "type"))
    (xi_NoForm : PySem.W.isClsIn K fc_NoForm = true)
    (xb_NoLine : PySem.W.subIn K (.ref fc_NoLine) (.type "BaseException") = some true)
    (xt_NoLine : PySem.W.typeIn K (.ref fc_NoLine) = some (.type "type"))
    (xi_NoLine : PySem.W.isClsIn K fc_NoLine = true)
    (xb_NoNumber : PySem.W.subIn K (.ref fc_NoNumber) (.type "BaseException") = some true)
    (xt_NoNumber : PySem.W.typeIn K (.ref fc_NoNumber) = some (.type "type"))
    (xi_NoNumber : PySem.W.isClsIn K fc_NoNumber = true)
    (xb_NoPlace : PySem.W.subIn K (.ref fc_NoPlace) (.type "BaseException") = some true)
    (xt_NoPlace : PySem.W.typeIn K (.ref fc_NoPlace) = some (.type "type"))
    (xi_NoPlace : PySem.W.isClsIn K fc_NoPlace = true)
    (xb_NoRide : PySem.W.subIn K (.ref fc_NoRide) (.type "BaseException") = some true)
    (xt_NoRide : PySem.W.typeIn K (.ref fc_NoRide) = some (.type "type"))
    (xi_NoRide : PySem.W.isClsIn K fc_NoRide = true)
    (xb_NoText : PySem.W.subIn K (.ref fc_NoText) (.type "BaseException") = some true)
    (xt_NoText : PySem.W.typeIn K (.ref fc_NoText) = some (.type "type"))
    (xi_NoText : PySem.W.isClsIn K fc_NoText = true)
    (xb_NoTurning : PySem.W.subIn K (.ref fc_NoTurning) (.type "BaseException") = some true)
    (xt_NoTurning : PySem.W.typeIn K (.ref fc_NoTurning) = some (.type "type"))
    (xi_NoTurning : PySem.W.isClsIn K fc_NoTurning = true)
    (xb_NoWeb : PySem.W.subIn K (.ref fc_NoWeb) (.type "BaseException") = some true)
    (xt_NoWeb : PySem.W.typeIn K (.ref fc_NoWeb) = some (.type "type"))
    (xi_NoWeb : PySem.W.isClsIn K fc_NoWeb = true)
    (xb_NoneYet : PySem.W.subIn K (.ref fc_NoneYet) (.type "BaseException") = some true)
    (xt_NoneYet : PySem.W.typeIn K (.ref fc_NoneYet) = some (.type "type"))
    (xi_NoneYet : PySem.W.isClsIn K fc_NoneYet = true)
    (xb_RideError : PySem.W.subIn K (.ref fc_RideError) (.type "BaseException") = some true)
    (xt_RideError : PySem.W.typeIn K (.ref fc_RideError) = some (.type "type"))
    (xi_RideError : PySem.W.isClsIn K fc_RideError = true)
    (xb_TooMany : PySem.W.subIn K (.ref fc_TooMany) (.type "BaseException") = some true)
    (xt_TooMany : PySem.W.typeIn K (.ref fc_TooMany) = some (.type "type"))
    (xi_TooMany : PySem.W.isClsIn K fc_TooMany = true)
    (xs_NoRide_NoCompany : PySem.W.subIn K (.ref fc_NoRide) (.ref fc_NoCompany) = some false)
    (xs_NoRide_NoEnd : PySem.W.subIn K (.ref fc_NoRide) (.ref fc_NoEnd) = some false)
    (xs_NoRide_NoForm : PySem.W.subIn K (.ref fc_NoRide) (.ref fc_NoForm) = some false)
    (xs_NoRide_NoLine : PySem.W.subIn K (.ref fc_NoRide) (.ref fc_NoLine) = some false)
    (xs_NoRide_NoNumber : PySem.W.subIn K (.ref fc_NoRide) (.ref fc_NoNumber) = some false)
    (xs_NoRide_NoPlace : PySem.W.subIn K (.ref fc_NoRide) (.ref fc_NoPlace) = some false)
    (xs_NoRide_NoRide : PySem.W.subIn K (.ref fc_NoRide) (.ref fc_NoRide) = some true)
    (xs_NoRide_NoText : PySem.W.subIn K (.ref fc_NoRide) (.ref fc_NoText) = some false)
    (xs_NoRide_NoTurning : PySem.W.subIn K (.ref fc_NoRide) (.ref fc_NoTurning) = some false)
    (xs_NoRide_NoWeb : PySem.W.subIn K (.ref fc_NoRide) (.ref fc_NoWeb) = some false)
    (xs_NoRide_NoneYet : PySem.W.subIn K (.ref fc_NoRide) (.ref fc_NoneYet) = some false)
    (xs_NoRide_RideError : PySem.W.subIn K (.ref fc_NoRide) (.ref fc_RideError) = some true)
    (xs_NoRide_TooMany : PySem.W.subIn K (.ref fc_NoRide) (.ref fc_TooMany) = some false)
    (xv_NoRide_ValueError : PySem.W.subIn K (.ref fc_NoRide) (.type "ValueError") = some true)
    : ∃ fd : FuncData, (∀ (s : Shared) (v : Value), BindsTo s fd ⟨[v], []⟩ [("script", v)]) ∧ ∀ base : Heap, K.In base → base.Ns mainGlobals mg → FnOk l.prog w K mg base CX0 12 fa fd ["script"] (spLaw K (mScr 12 g_law)) := by
  have e := hfa.symm.trans (PySem.W.mg_of X G a_law)
  cases e
  have T : Tx K mg := {
    d__law_spring := ⟨_, _, PySem.W.mg_of X G a__law_spring, fun_mk (st := s__law_spring) l__law_spring c__law_spring k__law_spring, (fun_mk (st := s__law_spring) l__law_spring c__law_spring k__law_spring).binds (ps := ["script"]) fun _ _ _ _ _ _ us hl => match us, hl with | [_], _ => rfl⟩
    d__law_draw := ⟨_, _, PySem.W.mg_of X G a__law_draw, fun_mk (st := s__law_draw) l__law_draw c__law_draw k__law_draw, (fun_mk (st := s__law_draw) l__law_draw c__law_draw k__law_draw).binds (ps := ["spring", "many"]) fun _ _ _ _ _ _ us hl => match us, hl with | [_, _], _ => rfl⟩
    d__law_lined := ⟨_, _, PySem.W.mg_of X G a__law_lined, fun_mk (st := s__law_lined) l__law_lined c__law_lined k__law_lined, (fun_mk (st := s__law_lined) l__law_lined c__law_lined k__law_lined).binds (ps := ["spring"]) fun _ _ _ _ _ _ us hl => match us, hl with | [_], _ => rfl⟩
    d__law_there_and_back := ⟨_, _, PySem.W.mg_of X G a__law_there_and_back, fun_mk (st := s__law_there_and_back) l__law_there_and_back c__law_there_and_back k__law_there_and_back, (fun_mk (st := s__law_there_and_back) l__law_there_and_back c__law_there_and_back k__law_there_and_back).binds (ps := ["spring", "web", "spots"]) fun _ _ _ _ _ _ us hl => match us, hl with | [_, _, _], _ => rfl⟩
    d__law_other := ⟨_, _, PySem.W.mg_of X G a__law_other, fun_mk (st := s__law_other) l__law_other c__law_other k__law_other, (fun_mk (st := s__law_other) l__law_other c__law_other k__law_other).binds (ps := ["end"]) fun _ _ _ _ _ _ us hl => match us, hl with | [_], _ => rfl⟩
    d__law_is_end := ⟨_, _, PySem.W.mg_of X G a__law_is_end, fun_mk (st := s__law_is_end) l__law_is_end c__law_is_end k__law_is_end, (fun_mk (st := s__law_is_end) l__law_is_end c__law_is_end k__law_is_end).binds (ps := ["web", "thing"]) fun _ _ _ _ _ _ us hl => match us, hl with | [_, _], _ => rfl⟩
    d__law_at := ⟨_, _, PySem.W.mg_of X G a__law_at, fun_mk (st := s__law_at) l__law_at c__law_at k__law_at, (fun_mk (st := s__law_at) l__law_at c__law_at k__law_at).binds (ps := ["web", "end"]) fun _ _ _ _ _ _ us hl => match us, hl with | [_, _], _ => rfl⟩
    d__law_goes := ⟨_, _, PySem.W.mg_of X G a__law_goes, fun_mk (st := s__law_goes) l__law_goes c__law_goes k__law_goes, (fun_mk (st := s__law_goes) l__law_goes c__law_goes k__law_goes).binds (ps := ["web", "end", "later"]) fun _ _ _ _ _ _ us hl => match us, hl with | [_, _, _], _ => rfl⟩
    d__law_is_ride := ⟨_, _, PySem.W.mg_of X G a__law_is_ride, fun_mk (st := s__law_is_ride) l__law_is_ride c__law_is_ride k__law_is_ride, (fun_mk (st := s__law_is_ride) l__law_is_ride c__law_is_ride k__law_is_ride).binds (ps := ["web", "thing"]) fun _ _ _ _ _ _ us hl => match us, hl with | [_, _], _ => rfl⟩
    d__law_is_round := ⟨_, _, PySem.W.mg_of X G a__law_is_round, fun_mk (st := s__law_is_round) l__law_is_round c__law_is_round k__law_is_round, (fun_mk (st := s__law_is_round) l__law_is_round c__law_is_round k__law_is_round).binds (ps := ["web", "thing"]) fun _ _ _ _ _ _ us hl => match us, hl with | [_, _], _ => rfl⟩
    d_place_of := ⟨_, _, PySem.W.mg_of X G a_place_of, fun_mk (st := s_place_of) l_place_of c_place_of k_place_of, (fun_mk (st := s_place_of) l_place_of c_place_of k_place_of).binds (ps := ["web", "end"]) fun _ _ _ _ _ _ us hl => match us, hl with | [_, _], _ => rfl⟩
    d_company_of := ⟨_, _, PySem.W.mg_of X G a_company_of, fun_mk (st := s_company_of) l_company_of c_company_of k_company_of, (fun_mk (st := s_company_of) l_company_of c_company_of k_company_of).binds (ps := ["web", "end"]) fun _ _ _ _ _ _ us hl => match us, hl with | [_, _], _ => rfl⟩
    d_far_end := ⟨_, _, PySem.W.mg_of X G a_far_end, fun_mk (st := s_far_end) l_far_end c_far_end k_far_end, (fun_mk (st := s_far_end) l_far_end c_far_end k_far_end).binds (ps := ["end"]) fun _ _ _ _ _ _ us hl => match us, hl with | [_], _ => rfl⟩
    d_can_go_on := ⟨_, _, PySem.W.mg_of X G a_can_go_on, fun_mk (st := s_can_go_on) l_can_go_on c_can_go_on k_can_go_on, (fun_mk (st := s_can_go_on) l_can_go_on c_can_go_on k_can_go_on).binds (ps := ["web", "end", "later"]) fun _ _ _ _ _ _ us hl => match us, hl with | [_, _, _], _ => rfl⟩
    d_is_row := ⟨_, _, PySem.W.mg_of X G a_is_row, fun_mk (st := s_is_row) l_is_row c_is_row k_is_row, (fun_mk (st := s_is_row) l_is_row c_is_row k_is_row).binds (ps := ["thing", "size"]) fun _ _ _ _ _ _ us hl => match us, hl with | [_, _], _ => rfl⟩
    d_is_whole := ⟨_, _, PySem.W.mg_of X G a_is_whole, fun_mk (st := s_is_whole) l_is_whole c_is_whole k_is_whole, (fun_mk (st := s_is_whole) l_is_whole c_is_whole k_is_whole).binds (ps := ["thing"]) fun _ _ _ _ _ _ us hl => match us, hl with | [_], _ => rfl⟩
    d_is_end := ⟨_, _, PySem.W.mg_of X G a_is_end, fun_mk (st := s_is_end) l_is_end c_is_end k_is_end, (fun_mk (st := s_is_end) l_is_end c_is_end k_is_end).binds (ps := ["web", "thing"]) fun _ _ _ _ _ _ us hl => match us, hl with | [_, _], _ => rfl⟩
    d_ride_is := ⟨_, _, PySem.W.mg_of X G a_ride_is, fun_mk (st := s_ride_is) l_ride_is c_ride_is k_ride_is, (fun_mk (st := s_ride_is) l_ride_is c_ride_is k_ride_is).binds (ps := ["web", "ride"]) fun _ _ _ _ _ _ us hl => match us, hl with | [_, _], _ => rfl⟩
    d_round_is := ⟨_, _, PySem.W.mg_of X G a_round_is, fun_mk (st := s_round_is) l_round_is c_round_is k_round_is, (fun_mk (st := s_round_is) l_round_is c_round_is k_round_is).binds (ps := ["web", "ride"]) fun _ _ _ _ _ _ us hl => match us, hl with | [_, _], _ => rfl⟩
    d_need_round := ⟨_, _, PySem.W.mg_of X G a_need_round, fun_mk (st := s_need_round) l_need_round c_need_round k_need_round, (fun_mk (st := s_need_round) l_need_round c_need_round k_need_round).binds (ps := ["web", "ride"]) fun _ _ _ _ _ _ us hl => match us, hl with | [_, _], _ => rfl⟩
    d_faced_about := ⟨_, _, PySem.W.mg_of X G a_faced_about, fun_mk (st := s_faced_about) l_faced_about c_faced_about k_faced_about, (fun_mk (st := s_faced_about) l_faced_about c_faced_about k_faced_about).binds (ps := ["ends"]) fun _ _ _ _ _ _ us hl => match us, hl with | [_], _ => rfl⟩
    d_all_ways := ⟨_, _, PySem.W.mg_of X G a_all_ways, fun_mk (st := s_all_ways) l_all_ways c_all_ways k_all_ways, (fun_mk (st := s_all_ways) l_all_ways c_all_ways k_all_ways).binds (ps := ["ends"]) fun _ _ _ _ _ _ us hl => match us, hl with | [_], _ => rfl⟩
    d_joined := ⟨_, _, PySem.W.mg_of X G a_joined, fun_mk (st := s_joined) l_joined c_joined k_joined, (fun_mk (st := s_joined) l_joined c_joined k_joined).binds (ps := ["web", "one", "other"]) fun _ _ _ _ _ _ us hl => match us, hl with | [_, _, _], _ => rfl⟩
    d_made_one := ⟨_, _, PySem.W.mg_of X G a_made_one, fun_mk (st := s_made_one) l_made_one c_made_one k_made_one, (fun_mk (st := s_made_one) l_made_one c_made_one k_made_one).binds (ps := ["web", "one", "other"]) fun _ _ _ _ _ _ us hl => match us, hl with | [_, _, _], _ => rfl⟩
    d__law_lists := ⟨_, _, PySem.W.mg_of X G a__law_lists, fun_mk (st := s__law_lists) l__law_lists c__law_lists k__law_lists, (fun_mk (st := s__law_lists) l__law_lists c__law_lists k__law_lists).binds (ps := ["thing"]) fun _ _ _ _ _ _ us hl => match us, hl with | [_], _ => rfl⟩
    d__law_handed := ⟨_, _, PySem.W.mg_of X G a__law_handed, fun_mk (st := s__law_handed) l__law_handed c__law_handed k__law_handed, (fun_mk (st := s__law_handed) l__law_handed c__law_handed k__law_handed).binds (ps := ["spring", "thing"]) fun _ _ _ _ _ _ us hl => match us, hl with | [_, _], _ => rfl⟩
    d__law_word := ⟨_, _, PySem.W.mg_of X G a__law_word, fun_mk (st := s__law_word) l__law_word c__law_word k__law_word, (fun_mk (st := s__law_word) l__law_word c__law_word k__law_word).binds (ps := ["caught"]) fun _ _ _ _ _ _ us hl => match us, hl with | [_], _ => rfl⟩
    d__law_right := ⟨_, _, PySem.W.mg_of X G a__law_right, fun_mk (st := s__law_right) l__law_right c__law_right k__law_right, (fun_mk (st := s__law_right) l__law_right c__law_right k__law_right).binds (ps := ["spring", "web", "one", "other"]) fun _ _ _ _ _ _ us hl => match us, hl with | [_, _, _, _], _ => rfl⟩
    d_law := ⟨_, _, PySem.W.mg_of X G a_law, fun_mk (st := s_law) l_law c_law k_law, (fun_mk (st := s_law) l_law c_law k_law).binds (ps := ["script"]) fun _ _ _ _ _ _ us hl => match us, hl with | [_], _ => rfl⟩
    z_ValueError := PySem.W.mg_none_of X G z_ValueError
    z_abs := PySem.W.mg_none_of X G z_abs
    z_all := PySem.W.mg_none_of X G z_all
    z_bool := PySem.W.mg_none_of X G z_bool
    z_enumerate := PySem.W.mg_none_of X G z_enumerate
    z_int := PySem.W.mg_none_of X G z_int
    z_isinstance := PySem.W.mg_none_of X G z_isinstance
    z_len := PySem.W.mg_none_of X G z_len
    z_list := PySem.W.mg_none_of X G z_list
    z_min := PySem.W.mg_none_of X G z_min
    z_range := PySem.W.mg_none_of X G z_range
    z_set := PySem.W.mg_none_of X G z_set
    z_sorted := PySem.W.mg_none_of X G z_sorted
    z_tuple := PySem.W.mg_none_of X G z_tuple
    z_zip := PySem.W.mg_none_of X G z_zip
    c_SIDES := ⟨_, PySem.W.mg_of X G n_SIDES⟩
    x_NoRide := ⟨_, ac_NoRide, PySem.W.mg_of X G ac_NoRide, xx_NoRide, xk_NoRide, xb_NoRide, xt_NoRide⟩
    i_NoCompany := ⟨_, PySem.W.mg_of X G ac_NoCompany, (alls_cons (ExcIs.mk ac_NoRide xe_NoRide (kit_own xx_NoRide xi_NoCompany xt_NoCompany xs_NoRide_NoCompany) (by decide +kernel)) alls_nil)⟩
    i_NoEnd := ⟨_, PySem.W.mg_of X G ac_NoEnd, (alls_cons (ExcIs.mk ac_NoRide xe_NoRide (kit_own xx_NoRide xi_NoEnd xt_NoEnd xs_NoRide_NoEnd) (by decide +kernel)) alls_nil)⟩
    i_NoForm := ⟨_, PySem.W.mg_of X G ac_NoForm, (alls_cons (ExcIs.mk ac_NoRide xe_NoRide (kit_own xx_NoRide xi_NoForm xt_NoForm xs_NoRide_NoForm) (by decide +kernel)) alls_nil)⟩
    i_NoLine := ⟨_, PySem.W.mg_of X G ac_NoLine, (alls_cons (ExcIs.mk ac_NoRide xe_NoRide (kit_own xx_NoRide xi_NoLine xt_NoLine xs_NoRide_NoLine) (by decide +kernel)) alls_nil)⟩
    i_NoNumber := ⟨_, PySem.W.mg_of X G ac_NoNumber, (alls_cons (ExcIs.mk ac_NoRide xe_NoRide (kit_own xx_NoRide xi_NoNumber xt_NoNumber xs_NoRide_NoNumber) (by decide +kernel)) alls_nil)⟩
    i_NoPlace := ⟨_, PySem.W.mg_of X G ac_NoPlace, (alls_cons (ExcIs.mk ac_NoRide xe_NoRide (kit_own xx_NoRide xi_NoPlace xt_NoPlace xs_NoRide_NoPlace) (by decide +kernel)) alls_nil)⟩
    i_NoRide := ⟨_, PySem.W.mg_of X G ac_NoRide, (alls_cons (ExcIs.mk ac_NoRide xe_NoRide (kit_own xx_NoRide xi_NoRide xt_NoRide xs_NoRide_NoRide) (by decide +kernel)) alls_nil)⟩
    i_NoText := ⟨_, PySem.W.mg_of X G ac_NoText, (alls_cons (ExcIs.mk ac_NoRide xe_NoRide (kit_own xx_NoRide xi_NoText xt_NoText xs_NoRide_NoText) (by decide +kernel)) alls_nil)⟩
    i_NoTurning := ⟨_, PySem.W.mg_of X G ac_NoTurning, (alls_cons (ExcIs.mk ac_NoRide xe_NoRide (kit_own xx_NoRide xi_NoTurning xt_NoTurning xs_NoRide_NoTurning) (by decide +kernel)) alls_nil)⟩
    i_NoWeb := ⟨_, PySem.W.mg_of X G ac_NoWeb, (alls_cons (ExcIs.mk ac_NoRide xe_NoRide (kit_own xx_NoRide xi_NoWeb xt_NoWeb xs_NoRide_NoWeb) (by decide +kernel)) alls_nil)⟩
    i_NoneYet := ⟨_, PySem.W.mg_of X G ac_NoneYet, (alls_cons (ExcIs.mk ac_NoRide xe_NoRide (kit_own xx_NoRide xi_NoneYet xt_NoneYet xs_NoRide_NoneYet) (by decide +kernel)) alls_nil)⟩
    i_TooMany := ⟨_, PySem.W.mg_of X G ac_TooMany, (alls_cons (ExcIs.mk ac_NoRide xe_NoRide (kit_own xx_NoRide xi_TooMany xt_TooMany xs_NoRide_TooMany) (by decide +kernel)) alls_nil)⟩
    b_ValueError := (alls_cons (ExcIs.mk ac_NoRide xe_NoRide (kit_bt (by decide +kernel) xv_NoRide_ValueError) rfl) alls_nil)
    t_RideError := ⟨_, PySem.W.mg_of X G ac_RideError, (alls_cons (cls_one ac_NoRide (exm_own xb_RideError xi_RideError xt_RideError xs_NoRide_RideError)) alls_nil)⟩
    xc := (alls_cons (fun D d => cls_same ac_NoRide d ▸ xe_NoRide) alls_nil)
  }
  exact ⟨PySem.W.fnOf "law" "law" (defArgs s_law) (defBody s_law) (defScope s_law) .none kV_law dc_law pm_law an_law cd_law ct_law, fun s v => .of_eq rfl, fun base _ _ => fn_law (fun B hB => trivial) (fun_mk (st := s_law) l_law c_law k_law) sc_law rfl (by decide) (law_body T _)⟩
end Lw.k85
open PySem PySem.W PyProof.Rows
set_option maxHeartbeats 0 in
theorem PySem.Challenge.cw_changeride_k85_rounds_that_share_a_line_holds : PySem.Challenge.rw_changeride_k85_rounds_that_share_a_line.Holds := by
  w_on; o_law; k_head; (case hw => w_witness2)
  k_fill
  refine L2.walk_of (l := PySem.Challenge.rw_changeride_k85_rounds_that_share_a_line) (n := 63) (k := 12) (x := "script") (CX := fun _ => L2.CX0) (sp := fun w => Fu.spLaw _ (Fu.mScr 12 Lw.k85.g_law)) rfl (by decide) rfl ⟨rfl, by decide, by decide⟩ (fun w h Y => PySem.W.kIn_of Y) ?F (fun _ H a ns hl ho hS => ⟨a, ns, rfl, hS, hl, fun b xs e => (by rcases ho b with z | ⟨o, ys, z⟩ <;> rw [e] at z <;> cases z), Lw.k85.law_true ns hl, fun _ => rfl⟩) (fun _ _ _ _ _ h => h)
  case F =>
    intro w mg fa h KX G hmg
    refine' Lw.k85.all_mk KX G hmg ?a__law_spring ?l__law_spring ?c__law_spring ?k__law_spring ?a__law_draw ?l__law_draw ?c__law_draw ?k__law_draw ?a__law_lined ?l__law_lined ?c__law_lined ?k__law_lined ?a__law_there_and_back ?l__law_there_and_back ?c__law_there_and_back ?k__law_there_and_back ?a__law_other ?l__law_other ?c__law_other ?k__law_other ?a__law_is_end ?l__law_is_end ?c__law_is_end ?k__law_is_end ?a__law_at ?l__law_at ?c__law_at ?k__law_at ?a__law_goes ?l__law_goes ?c__law_goes ?k__law_goes ?a__law_is_ride ?l__law_is_ride ?c__law_is_ride ?k__law_is_ride ?a__law_is_round ?l__law_is_round ?c__law_is_round ?k__law_is_round ?a_place_of ?l_place_of ?c_place_of ?k_place_of ?a_company_of ?l_company_of ?c_company_of ?k_company_of ?a_far_end ?l_far_end ?c_far_end ?k_far_end ?a_can_go_on ?l_can_go_on ?c_can_go_on ?k_can_go_on ?a_is_row ?l_is_row ?c_is_row ?k_is_row ?a_is_whole ?l_is_whole ?c_is_whole ?k_is_whole ?a_is_end ?l_is_end ?c_is_end ?k_is_end ?a_ride_is ?l_ride_is ?c_ride_is ?k_ride_is ?a_round_is ?l_round_is ?c_round_is ?k_round_is ?a_need_round ?l_need_round ?c_need_round ?k_need_round ?a_faced_about ?l_faced_about ?c_faced_about ?k_faced_about ?a_all_ways ?l_all_ways ?c_all_ways ?k_all_ways ?a_joined ?l_joined ?c_joined ?k_joined ?a_made_one ?l_made_one ?c_made_one ?k_made_one ?a__law_lists ?l__law_lists ?c__law_lists ?k__law_lists ?a__law_handed ?l__law_handed ?c__law_handed ?k__law_handed ?a__law_word ?l__law_word ?c__law_word ?k__law_word ?a__law_right ?l__law_right ?c__law_right ?k__law_right ?a_law ?l_law ?c_law ?k_law ?z_ValueError ?z_abs ?z_all ?z_bool ?z_enumerate ?z_int ?z_isinstance ?z_len ?z_list ?z_min ?z_range ?z_set ?z_sorted ?z_tuple ?z_zip ?n_SIDES ?ac_NoCompany ?ac_NoEnd ?ac_NoForm ?ac_NoLine ?ac_NoNumber ?ac_NoPlace ?ac_NoRide ?ac_NoText ?ac_NoTurning ?ac_NoWeb ?ac_NoneYet ?ac_RideError ?ac_TooMany ?xx_NoRide ?xk_NoRide ?xe_NoRide ?xb_NoCompany ?xt_NoCompany ?xi_NoCompany ?xb_NoEnd ?xt_NoEnd ?xi_NoEnd ?xb_NoForm ?xt_NoForm ?xi_NoForm ?xb_NoLine ?xt_NoLine ?xi_NoLine ?xb_NoNumber ?xt_NoNumber ?xi_NoNumber ?xb_NoPlace ?xt_NoPlace ?xi_NoPlace ?xb_NoRide ?xt_NoRide ?xi_NoRide ?xb_NoText ?xt_NoText ?xi_NoText ?xb_NoTurning ?xt_NoTurning ?xi_NoTurning ?xb_NoWeb ?xt_NoWeb ?xi_NoWeb ?xb_NoneYet ?xt_NoneYet ?xi_NoneYet ?xb_RideError ?xt_RideError ?xi_RideError ?xb_TooMany ?xt_TooMany ?xi_TooMany ?xs_NoRide_NoCompany ?xs_NoRide_NoEnd ?xs_NoRide_NoForm ?xs_NoRide_NoLine ?xs_NoRide_NoNumber ?xs_NoRide_NoPlace ?xs_NoRide_NoRide ?xs_NoRide_NoText ?xs_NoRide_NoTurning ?xs_NoRide_NoWeb ?xs_NoRide_NoneYet ?xs_NoRide_RideError ?xs_NoRide_TooMany ?xv_NoRide_ValueError
    (case a__law_spring => k_is)
    (case l__law_spring => k_is)
    (case c__law_spring => k_is)
    (case k__law_spring => k_is)
    (case a__law_draw => k_is)
    (case l__law_draw => k_is)
    (case c__law_draw => k_is)
    (case k__law_draw => k_is)
    (case a__law_lined => k_is)
    (case l__law_lined => k_is)
    (case c__law_lined => k_is)
    (case k__law_lined => k_is)
    (case a__law_there_and_back => k_is)
    (case l__law_there_and_back => k_is)
    (case c__law_there_and_back => k_is)
    (case k__law_there_and_back => k_is)
    (case a__law_other => k_is)
    (case l__law_other => k_is)
    (case c__law_other => k_is)
    (case k__law_other => k_is)
    (case a__law_is_end => k_is)
    (case l__law_is_end => k_is)
    (case c__law_is_end => k_is)
    (case k__law_is_end => k_is)
    (case a__law_at => k_is)
    (case l__law_at => k_is)
    (case c__law_at => k_is)
    (case k__law_at => k_is)
    (case a__law_goes => k_is)
    (case l__law_goes => k_is)
    (case c__law_goes => k_is)
    (case k__law_goes => k_is)
    (case a__law_is_ride => k_is)
    (case l__law_is_ride => k_is)
    (case c__law_is_ride => k_is)
    (case k__law_is_ride => k_is)
    (case a__law_is_round => k_is)
    (case l__law_is_round => k_is)
    (case c__law_is_round => k_is)
    (case k__law_is_round => k_is)
    (case a_place_of => k_is)
    (case l_place_of => k_is)
    (case c_place_of => k_is)
    (case k_place_of => k_is)
    (case a_company_of => k_is)
    (case l_company_of => k_is)
    (case c_company_of => k_is)
    (case k_company_of => k_is)
    (case a_far_end => k_is)
    (case l_far_end => k_is)
    (case c_far_end => k_is)
    (case k_far_end => k_is)
    (case a_can_go_on => k_is)
    (case l_can_go_on => k_is)
    (case c_can_go_on => k_is)
    (case k_can_go_on => k_is)
    (case a_is_row => k_is)
    (case l_is_row => k_is)
    (case c_is_row => k_is)
    (case k_is_row => k_is)
    (case a_is_whole => k_is)
    (case l_is_whole => k_is)
    (case c_is_whole => k_is)
    (case k_is_whole => k_is)
    (case a_is_end => k_is)
    (case l_is_end => k_is)
    (case c_is_end => k_is)
    (case k_is_end => k_is)
    (case a_ride_is => k_is)
    (case l_ride_is => k_is)
    (case c_ride_is => k_is)
    (case k_ride_is => k_is)
    (case a_round_is => k_is)
    (case l_round_is => k_is)
    (case c_round_is => k_is)
    (case k_round_is => k_is)
    (case a_need_round => k_is)
    (case l_need_round => k_is)
    (case c_need_round => k_is)
    (case k_need_round => k_is)
    (case a_faced_about => k_is)
    (case l_faced_about => k_is)
    (case c_faced_about => k_is)
    (case k_faced_about => k_is)
    (case a_all_ways => k_is)
    (case l_all_ways => k_is)
    (case c_all_ways => k_is)
    (case k_all_ways => k_is)
    (case a_joined => k_is)
    (case l_joined => k_is)
    (case c_joined => k_is)
    (case k_joined => k_is)
    (case a_made_one => k_is)
    (case l_made_one => k_is)
    (case c_made_one => k_is)
    (case k_made_one => k_is)
    (case a__law_lists => k_is)
    (case l__law_lists => k_is)
    (case c__law_lists => k_is)
    (case k__law_lists => k_is)
    (case a__law_handed => k_is)
    (case l__law_handed => k_is)
    (case c__law_handed => k_is)
    (case k__law_handed => k_is)
    (case a__law_word => k_is)
    (case l__law_word => k_is)
    (case c__law_word => k_is)
    (case k__law_word => k_is)
    (case a__law_right => k_is)
    (case l__law_right => k_is)
    (case c__law_right => k_is)
    (case k__law_right => k_is)
    (case a_law => k_is)
    (case l_law => k_is)
    (case c_law => k_is)
    (case k_law => k_is)
    (case z_ValueError => k_is)
    (case z_abs => k_is)
    (case z_all => k_is)
    (case z_bool => k_is)
    (case z_enumerate => k_is)
    (case z_int => k_is)
    (case z_isinstance => k_is)
    (case z_len => k_is)
    (case z_list => k_is)
    (case z_min => k_is)
    (case z_range => k_is)
    (case z_set => k_is)
    (case z_sorted => k_is)
    (case z_tuple => k_is)
    (case z_zip => k_is)
    (case n_SIDES => k_is)
    (case ac_NoCompany => k_is)
    (case ac_NoEnd => k_is)
    (case ac_NoForm => k_is)
    (case ac_NoLine => k_is)
    (case ac_NoNumber => k_is)
    (case ac_NoPlace => k_is)
    (case ac_NoRide => k_is)
    (case ac_NoText => k_is)
    (case ac_NoTurning => k_is)
    (case ac_NoWeb => k_is)
    (case ac_NoneYet => k_is)
    (case ac_RideError => k_is)
    (case ac_TooMany => k_is)
    (case xx_NoRide => k_exc)
    (case xk_NoRide => k_is)
    (case xe_NoRide => constructor <;> k_is)
    (case xb_NoCompany => k_is)
    (case xt_NoCompany => k_is)
    (case xi_NoCompany => k_is)
    (case xb_NoEnd => k_is)
    (case xt_NoEnd => k_is)
    (case xi_NoEnd => k_is)
    (case xb_NoForm => k_is)
    (case xt_NoForm => k_is)
    (case xi_NoForm => k_is)
    (case xb_NoLine => k_is)
    (case xt_NoLine => k_is)
    (case xi_NoLine => k_is)
    (case xb_NoNumber => k_is)
    (case xt_NoNumber => k_is)
    (case xi_NoNumber => k_is)
    (case xb_NoPlace => k_is)
    (case xt_NoPlace => k_is)
    (case xi_NoPlace => k_is)
    (case xb_NoRide => k_is)
    (case xt_NoRide => k_is)
    (case xi_NoRide => k_is)
    (case xb_NoText => k_is)
    (case xt_NoText => k_is)
    (case xi_NoText => k_is)
    (case xb_NoTurning => k_is)
    (case xt_NoTurning => k_is)
    (case xi_NoTurning => k_is)
    (case xb_NoWeb => k_is)
    (case xt_NoWeb => k_is)
    (case xi_NoWeb => k_is)
    (case xb_NoneYet => k_is)
    (case xt_NoneYet => k_is)
    (case xi_NoneYet => k_is)
    (case xb_RideError => k_is)
    (case xt_RideError => k_is)
    (case xi_RideError => k_is)
    (case xb_TooMany => k_is)
    (case xt_TooMany => k_is)
    (case xi_TooMany => k_is)
    (case xs_NoRide_NoCompany => k_is)
    (case xs_NoRide_NoEnd => k_is)
    (case xs_NoRide_NoForm => k_is)
    (case xs_NoRide_NoLine => k_is)
    (case xs_NoRide_NoNumber => k_is)
    (case xs_NoRide_NoPlace => k_is)
    (case xs_NoRide_NoRide => k_is)
    (case xs_NoRide_NoText => k_is)
    (case xs_NoRide_NoTurning => k_is)
    (case xs_NoRide_NoWeb => k_is)
    (case xs_NoRide_NoneYet => k_is)
    (case xs_NoRide_RideError => k_is)
    (case xs_NoRide_TooMany => k_is)
    (case xv_NoRide_ValueError => k_is)
