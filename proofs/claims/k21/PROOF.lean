import PyProof.Rows.All
import Wide.All
import OpenK.AllK
import Wide.FinOn
import HandS.ForMost
import HandS.Flow
import HandS.Deep
import HandS.TupAny
import HandS.Codes
import HandS.IsInst
import HandS.Style
import HandS.Wide
import HandS.Zip
import HandS.Rev
import HandS.Exc
import HandS.TupLe
import KE.DataMinMax
import KE.SortData
import HandS.Conv
import HandS.Ends
import HandS.RaiseMore
import KE.DataFind
import HandS.Flt
import HandS.ExcIs
import HandS.ExcValue
import HandS.WordsExc
import HandS.Dict
import PySem.Challenge.RW_changeride_k21_rides_refused
set_option Elab.async false
set_option linter.all false
set_option maxRecDepth 100000

set_option maxHeartbeats 4000000
namespace Fu
open PySem PySem.Spec PyProof.Rows L2

/-! ### the frame: what may be forgotten for the time of a call -/
def Loose : HO → Prop
  | .lst _ => True
  | .dK _ => True
  | .dT _ => True
  | .set _ _ => True
  | _ => False
def lpins (H G : Hp) (h : Heap) : List (Addr × Obj) :=
  (List.range h.objs.size).filterMap fun a => if (H a).isSome = true ∧ (G a).isNone = true then (h.get? a).map fun o => (a, o) else none
theorem mem_lpins {H G : Hp} {h : Heap} {a : Addr} {o : Obj} {u : HO} (h1 : H a = some u) (h2 : G a = none) (h3 : h.get? a = some o) : (a, o) ∈ lpins H G h :=
  List.mem_filterMap.mpr ⟨a, List.mem_range.mpr (Heap.lt_size h3), by simp [h1, h2, h3]⟩
theorem of_lpins {H G : Hp} {h : Heap} {p : Addr × Obj} (hp : p ∈ lpins H G h) : (∃ u, H p.1 = some u) ∧ G p.1 = none ∧ h.get? p.1 = some p.2 := by
  obtain ⟨b, _, e⟩ := List.mem_filterMap.mp hp
  split at e
  · rename_i hc
    cases q : h.get? b with
    | none => rw [q] at e; cases e
    | some u =>
      rw [q] at e
      have e' : (b, u) = p := Option.some.inj e
      subst e'
      exact ⟨Option.isSome_iff_exists.mp hc.1, Option.isNone_iff_eq_none.mp hc.2, q⟩
  · cases e
/-- G within H: what is over may be forgotten -/
structure Sub (G H : Hp) : Prop where
  same : Same G H
  loose : ∀ a o, H a = some o → G a = none → Loose o
theorem Sub.none {G H : Hp} (S : Sub G H) {b : Addr} (e : H b = none) : G b = none := S.same.free e
theorem Sub.keep {G H : Hp} (S : Sub G H) {b : Addr} {o : HO} (e : H b = some o) (n : ¬ Loose o) : G b = some o := by
  cases q : G b with
  | none => exact absurd (S.loose b o e q) n
  | some u => rw [S.same b u q] at e; exact e
theorem Sub.refl (H : Hp) : Sub H H := ⟨Same.refl H, fun a o e n => by rw [e] at n; cases n⟩
def mixH (G H G' : Hp) : Hp := fun a => match G a, H a with
  | none, some o => some o
  | _, _ => G' a
theorem mix_lost {G H G' : Hp} {a : Addr} {o : HO} (h1 : G a = none) (h2 : H a = some o) : mixH G H G' a = some o := by unfold mixH; rw [h1, h2]
theorem mix_held {G H G' : Hp} {a : Addr} {o : HO} (h1 : G a = some o) : mixH G H G' a = G' a := by unfold mixH; rw [h1]
theorem mix_free {G H G' : Hp} {a : Addr} (h2 : H a = none) : mixH G H G' a = G' a := by unfold mixH; rw [h2]; cases G a <;> rfl

section
variable {X : Cx} {pins : List (Addr × Obj)} {σ : L2.St} {H G G' : Hp} {s s' : Shared}
theorem fs_none (I : Inv X pins σ H s) {b : Addr} (hb : b ∈ X.fs) : H b = none := by
  obtain ⟨_, o, ho, _⟩ := I.ok.funs.mem hb
  exact I.base.free b o ho (I.ok.frf b hb) fun z => I.ok.exfs b z hb
theorem loose_cell {P : Program} {w : World} {h : Heap} {a : Addr} {u : HO} {o : Obj} (x : ObjOk P w H h a u) (l : Loose u) (e : h.get? a = some o) : ∀ v, o.data ≠ .cell v := by
  intro v z
  cases u with
  | lst xs => obtain ⟨_, its, n, _, e1⟩ := x; rw [e] at e1; cases e1; cases z
  | dK kvs => obtain ⟨_, _, vs, _, ob, es, ep, e1, _, d, _⟩ := x; rw [e] at e1; cases e1; rw [d] at z; cases z
  | dT kvs => obtain ⟨_, _, vs, _, ob, es, ep, e1, _, d, _⟩ := x; rw [e] at e1; cases e1; rw [d] at z; cases z
  | set S n => obtain ⟨ob, es, ep, t, e1, _, d, _⟩ := x; rw [e] at e1; cases e1; rw [d] at z; cases z
  | _ => exact l
theorem loose_there {P : Program} {w : World} {h : Heap} {a : Addr} {u : HO} (x : ObjOk P w H h a u) (l : Loose u) : ∃ o, h.get? a = some o := by
  cases u with
  | lst xs => obtain ⟨_, its, n, _, e1⟩ := x; exact ⟨_, e1⟩
  | dK kvs => obtain ⟨_, _, vs, _, ob, es, ep, e1, _⟩ := x; exact ⟨_, e1⟩
  | dT kvs => obtain ⟨_, _, vs, _, ob, es, ep, e1, _⟩ := x; exact ⟨_, e1⟩
  | set S n => obtain ⟨ob, es, ep, t, e1, _⟩ := x; exact ⟨_, e1⟩
  | _ => exact l.elim
theorem forget (I : Inv X pins σ H s) (S : Sub G H) : Inv X (pins ++ lpins H G s.heap) σ G s where
  ok := I.ok
  os := I.os
  bare := I.bare
  base := ⟨I.base.keep, I.base.slot, fun b o e n hx => S.none (I.base.free b o e n hx), I.base.there,
    fun b xs q => S.keep (I.base.tups b xs q) (fun z => z), fun b o u q => S.keep (I.base.frzs b o u q) (fun z => z),
    fun b ps q => by obtain ⟨m, e⟩ := I.base.tbls b ps q; exact ⟨m, S.keep e (fun z => z)⟩⟩
  loc := I.loc
  cell := I.cell
  free := S.none I.free
  freeC := fun x c e => S.none (I.freeC x c e)
  pin := fun p hp => by
    rcases List.mem_append.mp hp with hp | hp
    · obtain ⟨e, n, r⟩ := I.pin p (List.mem_append_left _ hp)
      exact ⟨e, S.none n, r⟩
    · rcases List.mem_append.mp hp with hp | hp
      · obtain ⟨e, n, r⟩ := I.pin p (List.mem_append_right _ hp)
        exact ⟨e, S.none n, r⟩
      · obtain ⟨⟨u, hu⟩, hg, he⟩ := of_lpins hp
        refine ⟨he, hg, fun z => ?_, fun z => ?_, loose_cell (I.hok p.1 u hu) (S.loose _ _ hu hg) he⟩
        · rw [z, I.free] at hu; cases hu
        · rw [fs_none I z] at hu; cases hu
  hok := fun a o e => (I.hok a o (S.same a o e)).stay (fun b u _ q => q) (fun b q => S.keep q (fun z => z)) (fun b xs q => S.keep q (fun z => z))
  len := I.len
theorem lost_of {τ : L2.St} (I : Inv X pins σ H s) (S : Sub G H) (J : Inv X (pins ++ lpins H G s.heap) τ G' s') : ∀ b o, H b = some o → G b = none → G' b = none := fun b o hb hg => by
  obtain ⟨ob, hob⟩ : ∃ ob, s.heap.get? b = some ob := loose_there (I.hok b o hb) (S.loose b o hb hg)
  exact (J.pin (b, ob) (List.mem_append_right _ (List.mem_append_right _ (mem_lpins hb hg hob)))).2.1
theorem remember {τ : L2.St} (I : Inv X pins σ H s) (S : Sub G H) (J : Inv X (pins ++ lpins H G s.heap) τ G' s') (ht : ∀ b xs, G b = some (.tup xs) → G' b = some (.tup xs)) :
    Inv X pins τ (mixH G H G') s' := by
  have lost : ∀ b o, H b = some o → G b = none → G' b = none ∧ ∀ ob, s.heap.get? b = some ob → s'.heap.get? b = some ob := fun b o hb hg => by
    obtain ⟨ob, hob⟩ : ∃ ob, s.heap.get? b = some ob := loose_there (I.hok b o hb) (S.loose b o hb hg)
    obtain ⟨e1, e2, _⟩ := J.pin (b, ob) (List.mem_append_right _ (List.mem_append_right _ (mem_lpins hb hg hob)))
    exact ⟨e2, fun ob' h' => by rw [hob] at h'; cases h'; exact e1⟩
  have up : ∀ b o, G' b = some o → mixH G H G' b = some o := fun b o e => by
    cases q : G b with
    | some u => rw [mix_held q]; exact e
    | none =>
      cases r : H b with
      | none => rw [mix_free r]; exact e
      | some u => rw [(lost b u r q).1] at e; cases e
  have nn : ∀ b, G' b = none → H b = none → mixH G H G' b = none := fun b e r => by rw [mix_free r]; exact e
  refine ⟨J.ok, J.os, J.bare, ⟨J.base.keep, J.base.slot, fun b o e n hx => nn b (J.base.free b o e n hx) (I.base.free b o e n hx), J.base.there,
    fun b xs q => up _ _ (J.base.tups b xs q), fun b o u q => up _ _ (J.base.frzs b o u q), fun b ps q => ?_⟩, J.loc, J.cell, nn _ J.free I.free, fun x c e => nn _ (J.freeC x c e) (I.freeC x c e), fun p hp => ?_, fun a o e => ?_, J.len⟩
  · obtain ⟨m, e⟩ := J.base.tbls b ps q
    exact ⟨m, up _ _ e⟩
  · have hp' : p ∈ X.pn ++ (pins ++ lpins H G s.heap) := (List.mem_append.mp hp).elim (fun z => List.mem_append_left _ z) fun z => List.mem_append_right _ (List.mem_append_left _ z)
    obtain ⟨e, n, r⟩ := J.pin p hp'
    exact ⟨e, nn _ n (I.pin p hp).2.1, r⟩
  · cases q : G a with
    | some u =>
      rw [mix_held q] at e
      exact (J.hok a o e).stay (fun b u _ q => q) (fun b q => up _ _ q) (fun b xs q => up _ _ q)
    | none =>
      cases r : H a with
      | none =>
        rw [mix_free r] at e
        exact (J.hok a o e).stay (fun b u _ q => q) (fun b q => up _ _ q) (fun b xs q => up _ _ q)
      | some u =>
        rw [mix_lost q r] at e
        cases e
        have k := (lost a o r q).2
        have x := I.hok a o r
        have l := S.loose a o r q
        cases o with
        | lst xs => obtain ⟨z, its, n, rv, e1⟩ := x; exact ⟨z, its, n, rv, k _ e1⟩
        | dK kvs => obtain ⟨z, y, vs, rv, ob, es, ep, e1, c⟩ := x; exact ⟨z, y, vs, rv, ob, es, ep, k _ e1, c⟩
        | dT kvs =>
          obtain ⟨z, y, xs, rv, ob, es, ep, e1, c⟩ := x
          exact ⟨z, y, xs, Paired.mapP rv fun p q z => ⟨z.1, up _ _ (ht _ _ (S.keep z.2.1 (fun z => z))), z.2.2⟩, ob, es, ep, k _ e1, c⟩
        | set T n => obtain ⟨ob, es, ep, t, e1, c⟩ := x; exact ⟨ob, es, ep, t, k _ e1, c⟩
        | _ => exact l.elim
end

section
variable {X : Cx} {CX : CXT} {k : Nat} {f C : Addr} {fd : FuncData} {ps : List Str} {sp : Sp} {dvs : List V} {ds : List Value} {E : XK} {x m : Str} {p pos apos : Pos} {e o : Expr} {es : List Expr} {ta : TE} {t : TA}
theorem run_fnF {pins : List (Addr × Obj)} {σ : L2.St} {H G : Hp} {s : Shared} {Q : VK} {us : List Value} {vs : List V} (F : FnOk X.prog X.w X.K X.mg X.base CX k f fd ps sp) (hr : Room k X.A) (hb : Binds X.K fd ps ds) (hd : Vals dvs ds) (hx : Passes CX X E)
    (I : Inv X pins σ H s) (r : Vals vs us) (S : Sub G H) (h : sp (vs ++ dvs) G (fun v G' => (∀ b xs, G b = some (.tup xs) → G' b = some (.tup xs)) ∧ ((∀ b o, H b = some o → G b = none → G' b = none) → Q v (mixH G H G'))) E) :
    wpAny (model X.prog X.w) X.A (call (.ref f) us) (EP X pins σ Q) X.xe s := by
  refine thn (run_fn F hr hb hd hx (forget I S) r h) fun u s' ⟨v, G', I', rv, ht, q⟩ => ⟨v, mixH G H G', remember I S I' ht, rv, q (lost_of I S I')⟩
/-- f(..) called over a part of the heap -/
def tCallF (sp : Sp) (dvs : List V) (E : XK) (t : TA) : TE := fun σ H Q => t σ H fun vs H1 => ∃ G, Sub G H1 ∧ sp (vs ++ dvs) G (fun v G' => (∀ b xs, G b = some (.tup xs) → G' b = some (.tup xs)) ∧ ((∀ b o, H1 b = some o → G b = none → G' b = none) → Q v (mixH G H1 G'))) E
theorem pe_callF (F : FnOk X.prog X.w X.K X.mg X.base CX k f fd ps sp) (hr : Room k X.A) (hg : Gl X x) (hm : X.mg x = some (.ref f)) (hk : PySem.W.keepIn X.K (.ref f) = true) (hb : Binds X.K fd ps ds) (hd : Vals dvs ds) (hx : Passes CX X E)
    (ha : PA X (e :: es) t) (hdb : (x == ("__debug__" : Str)) = false := by decide) (he : starEach (e :: es) X.env = (false, eval e X.env) :: starEach es X.env := by rfl) (hpl : (backTo pos (starEach es X.env)).any (·.1) = false := by rfl) :
    PE X (.Call (.Name x p) (e :: es) [] pos) (tCallF sp dvs E t) := by
  refine ⟨fun pins s σ H Q I h => ?_⟩
  refine wpAny_Call_Name_kw (ld_glob I hg hm ?_ hdb)
  refine PySem.W.callWith_K (h₀ := X.base) I.ok.mod.kin hk (thn (ha.run pos pins s σ H _ I h) fun us s1 ⟨vs, H1, I1, r, G, S, q⟩ => ⟨I1.kIn, ?_⟩) he hpl
  exact run_fnF F hr hb hd hx I1 r S q
end

/-! ### any expression, test, target, over a part of the heap -/
def Back (G H : Hp) (Q : Hp → Prop) : Hp → Prop := fun G' => (∀ b xs, G b = some (.tup xs) → G' b = some (.tup xs)) ∧ ((∀ b o, H b = some o → G b = none → G' b = none) → Q (mixH G H G'))
def tFr (t : TE) : TE := fun σ H Q => ∃ G, Sub G H ∧ t σ G fun v => Back G H (Q v)
def tFrT (t : TT) : TT := fun σ H Q => ∃ G, Sub G H ∧ t σ G fun v => Back G H (Q v)
def gFr (t : TG) : TG := fun x σ H Q => ∃ G, Sub G H ∧ t x σ G fun σ' => Back G H (Q σ')
section
variable {X : Cx} {e : Expr}
theorem pe_fr {t : TE} (h : PE X e t) : PE X e (tFr t) := ⟨fun pins s σ H Q I ⟨G, S, q⟩ =>
  thn (h.run _ s σ G _ (forget I S) q) fun u s' ⟨v, G', J, r, ht, q⟩ => ⟨v, _, remember I S J ht, r, q (lost_of I S J)⟩⟩
theorem pts_fr {es : List Expr} {t : TT} (h : PTs X es t) : PTs X es (tFrT t) := ⟨fun pins s σ H Q I ⟨G, S, q⟩ =>
  thn (h.run _ s σ G _ (forget I S) q) fun u s' ⟨G', J, ht, q⟩ => ⟨_, remember I S J ht, q (lost_of I S J)⟩⟩
theorem pg_fr {t : TG} (h : PG X e t) : PG X e (gFr t) := ⟨fun pins s σ H v u Q I r ⟨G, S, q⟩ =>
  thn (h.run _ s σ G v u _ (forget I S) r q) fun _ s' ⟨σ', G', J, ht, q⟩ => ⟨σ', _, remember I S J ht, q (lost_of I S J)⟩⟩
end
end Fu

set_option maxHeartbeats 4000000
namespace Fu
open PySem PySem.Spec PyProof.Rows L2

abbrev D := PyData

/-! ### a value, down to what is within, in a heap that stays -/
mutual
inductive Rp (K : PySem.W.Frag) (H : Hp) : V → PyData → Prop
  | non : Rp K H .non .none
  | bl (b : Bool) : Rp K H (.bl b) (.bool b)
  | int (i : Int) : Rp K H (.int i) (.int i)
  | str {x : Str} : x.length ≤ sizeLine → Rp K H (.str x) (.str x)
  | lst {a : Addr} {xs : List V} {ds : List PyData} : H a = some (.lst xs) → Rps K H xs ds → ds.length ≤ sizeLine → Rp K H (.ref a) (.list ds)
  | tup {a : Addr} {xs : List V} {ds : List PyData} : SqT K H a xs → Rps K H xs ds → ds.length ≤ sizeLine → Rp K H (.ref a) (.tuple ds)
  | dct {a : Addr} {kvs : List (PyData × PyData)} : ((∃ es, H a = some (.dK es)) ∨ ∃ es, H a = some (.dT es)) → (kvs = [] → H a = some (.dK [])) → Rp K H (.ref a) (.dict kvs)
inductive Rps (K : PySem.W.Frag) (H : Hp) : List V → List PyData → Prop
  | nil : Rps K H [] []
  | cons {v : V} {vs : List V} {d : PyData} {ds : List PyData} : Rp K H v d → Rps K H vs ds → Rps K H (v :: vs) (d :: ds)
end
section
variable {K : PySem.W.Frag} {H H' : Hp}
theorem sqT_same {a : Addr} {xs : List V} (e : Same H H') (h : SqT K H a xs) : SqT K H' a xs := by
  rcases h with (h | ⟨o, h⟩) | h
  · exact .inl (.inl (e _ _ h))
  · exact .inl (.inr ⟨o, e _ _ h⟩)
  · exact .inr h
mutual
theorem Rp.mono (e : Same H H') : ∀ (d : PyData) (v : V), Rp K H v d → Rp K H' v d
  | .none, _, h => by cases h; exact .non
  | .bool b, _, h => by cases h; exact .bl b
  | .int i, _, h => by cases h; exact .int i
  | .str x, _, h => by
    cases h with
    | str hz => exact .str hz
  | .list ds, _, h => by
    cases h with
    | lst hs ha hz => exact .lst (e _ _ hs) (Rps.mono e ds _ ha) hz
  | .tuple ds, _, h => by
    cases h with
    | tup hs ha hz => exact .tup (sqT_same e hs) (Rps.mono e ds _ ha) hz
  | .dict kvs, _, h => by
    cases h with
    | dct hd h0 =>
      refine .dct ?_ (fun z => e _ _ (h0 z))
      rcases hd with ⟨es, hd⟩ | ⟨es, hd⟩
      · exact .inl ⟨es, e _ _ hd⟩
      · exact .inr ⟨es, e _ _ hd⟩
theorem Rps.mono (e : Same H H') : ∀ (ds : List PyData) (vs : List V), Rps K H vs ds → Rps K H' vs ds
  | [], _, h => by cases h; exact .nil
  | d :: ds, _, h => by
    cases h with
    | cons h1 h2 => exact .cons (Rp.mono e d _ h1) (Rps.mono e ds _ h2)
end
mutual
theorem Rp.dp : ∀ (d : PyData) (v : V), d.canLay0 = true → Rp K H v d → Dp K H v d
  | .none, _, _, h => by cases h; exact .non
  | .bool b, _, _, h => by cases h; exact .bl b
  | .int i, _, _, h => by cases h; exact .int i
  | .str x, _, _, h => by cases h; exact .str x
  | .list ds, _, c, h => by
    cases h with
    | lst hs ha hz => exact .lst (SqL.of hs) (Rps.dp ds _ (by simpa [PyData.canLay0] using c) ha)
  | .tuple ds, _, c, h => by
    cases h with
    | tup hs ha hz => exact .tup hs (Rps.dp ds _ (by simpa [PyData.canLay0] using c) ha)
  | .dict kvs, _, c, _ => by simp [PyData.canLay0] at c
theorem Rps.dp : ∀ (ds : List PyData) (vs : List V), PyData.canLayAll0 ds = true → Rps K H vs ds → DpAll K H vs ds
  | [], _, _, h => by cases h; exact .nil
  | d :: ds, _, c, h => by
    have c' : d.canLay0 = true ∧ PyData.canLayAll0 ds = true := by simpa [PyData.canLayAll0] using c
    cases h with
    | cons h1 h2 => exact .cons (Rp.dp d _ c'.1 h1) (Rps.dp ds _ c'.2 h2)
end
theorem Rps.length : ∀ {ds : List PyData} {vs : List V}, Rps K H vs ds → vs.length = ds.length
  | [], _, h => by cases h; rfl
  | d :: ds, _, h => by
    cases h with
    | cons _ h2 => rw [List.length_cons, List.length_cons, Rps.length h2]
theorem Rps.get : ∀ {ds : List PyData} {vs : List V} {i : Nat} {d : PyData}, Rps K H vs ds → ds[i]? = some d → ∃ v, vs[i]? = some v ∧ Rp K H v d
  | [], _, _, _, _, e => by simp at e
  | _ :: _, _, 0, _, h, e => by
    cases h with
    | cons h1 h2 =>
      simp at e; subst e
      exact ⟨_, rfl, h1⟩
  | _ :: ds, _, i + 1, _, h, e => by
    cases h with
    | cons h1 h2 =>
      obtain ⟨v, e1, r⟩ := Rps.get (i := i) h2 (by simpa using e)
      exact ⟨v, by simpa using e1, r⟩
theorem Rps.append : ∀ {ds es : List PyData} {vs us : List V}, Rps K H vs ds → Rps K H us es → Rps K H (vs ++ us) (ds ++ es)
  | [], _, _, _, h, g => by cases h; exact g
  | _ :: _, _, _, _, h, g => by
    cases h with
    | cons h1 h2 => exact .cons h1 (h2.append g)
theorem Rps.take : ∀ {ds : List PyData} {vs : List V} (n : Nat), Rps K H vs ds → Rps K H (vs.take n) (ds.take n)
  | _, _, 0, _ => .nil
  | [], _, n + 1, h => by cases h; exact .nil
  | _ :: _, _, n + 1, h => by
    cases h with
    | cons h1 h2 => exact .cons h1 (h2.take n)
theorem Rps.drop : ∀ {ds : List PyData} {vs : List V} (n : Nat), Rps K H vs ds → Rps K H (vs.drop n) (ds.drop n)
  | _, _, 0, h => h
  | [], _, n + 1, h => by cases h; exact .nil
  | _ :: _, _, n + 1, h => by
    cases h with
    | cons h1 h2 => exact h2.drop n
theorem Rps.set : ∀ {ds : List PyData} {vs : List V} {v : V} {d : PyData} (i : Nat), Rp K H v d → Rps K H vs ds → Rps K H (vs.set i v) (ds.set i d)
  | [], _, _, _, _, _, h => by cases h; exact .nil
  | _ :: _, _, _, _, 0, r, h => by
    cases h with
    | cons h1 h2 => exact .cons r h2
  | _ :: _, _, _, _, i + 1, r, h => by
    cases h with
    | cons h1 h2 => exact .cons h1 (Rps.set i r h2)
theorem Rps.erase : ∀ {ds : List PyData} {vs : List V} (i : Nat), Rps K H vs ds → Rps K H (vs.eraseIdx i) (ds.eraseIdx i)
  | [], _, _, h => by cases h; exact .nil
  | _ :: _, _, 0, h => by
    cases h with
    | cons h1 h2 => exact h2
  | _ :: _, _, i + 1, h => by
    cases h with
    | cons h1 h2 => exact .cons h1 (Rps.erase i h2)
theorem Rps.reverse {ds : List PyData} {vs : List V} (h : Rps K H vs ds) : Rps K H vs.reverse ds.reverse := by
  induction ds generalizing vs with
  | nil => cases h; exact .nil
  | cons d ds ih =>
    cases h with
    | cons h1 h2 =>
      rw [List.reverse_cons, List.reverse_cons]
      exact (ih h2).append (.cons h1 .nil)
theorem Rps.rep {ds : List PyData} {vs : List V} (h : Rps K H vs ds) : ∀ n : Nat, Rps K H (List.replicate n vs).flatten (List.replicate n ds).flatten
  | 0 => .nil
  | n + 1 => by
    rw [List.replicate_succ, List.replicate_succ, List.flatten_cons, List.flatten_cons]
    exact h.append (h.rep n)
theorem Rps.ints : ∀ ns : List Int, Rps K H (ns.map V.int) (ns.map PyData.int)
  | [] => .nil
  | n :: ns => .cons (.int n) (Rps.ints ns)
end

/-! ### the state: slots, and things that are still written (cells) -/
/-- an exception object of the class cls stands at a -/
def XO (cls : Value) (a : Addr) : HO := .ext fun h => ∃ (o : Obj) (fs : Array Value), h.get? a = some o ∧ Zc cls none o ∧ o.data = .fields fs
inductive R where
  | dat (d : PyData)
  | own (j : Nat)
  | scr (ns : List Int)
  | tup (rs : List R)
  | exc (c : Str)
inductive Cell where
  | lst (xs : List PyData)
  | lR (xs : List R)
  | dR (kvs : List (Key × R))
  | tR (kvs : List (List Key × R))
structure Sx where
  sl : List (Option R)
  os : List (Option Cell)
abbrev M (α : Type) := Sx → Option (α × Sx)

mutual
/-- a value of the state: data, a cell's place, the script, a tuple of such -/
inductive Rr (K : PySem.W.Frag) (A : List Addr) (F : Hp) : V → R → Prop
  | dat {v : V} {d : PyData} : Rp K F v d → Rr K A F v (.dat d)
  | own {j : Nat} {a : Addr} : A[j]? = some a → Rr K A F (.ref a) (.own j)
  | scr {a : Addr} {ns : List Int} : ns.length ≤ 63 → SqL K F a (ns.map V.int) → Rr K A F (.ref a) (.scr ns)
  | tup {a : Addr} {vs : List V} {rs : List R} : SqT K F a vs → Rrs K A F vs rs → rs.length ≤ sizeLine → Rr K A F (.ref a) (.tup rs)
  | exc {a D : Addr} {c : Str} : PySem.W.nsIn K mainGlobals c = some (some (.ref D)) → F a = some (XO (.ref D) a) → Rr K A F (.ref a) (.exc c)
inductive Rrs (K : PySem.W.Frag) (A : List Addr) (F : Hp) : List V → List R → Prop
  | nil : Rrs K A F [] []
  | cons {v : V} {vs : List V} {r : R} {rs : List R} : Rr K A F v r → Rrs K A F vs rs → Rrs K A F (v :: vs) (r :: rs)
end
theorem pre_at {α : Type} {A B : List α} {j : Nat} {a : α} (p : A <+: B) (h : A[j]? = some a) : B[j]? = some a := by
  obtain ⟨C, rfl⟩ := p
  rw [List.getElem?_append_left (List.getElem?_eq_some_iff.mp h).1]; exact h
section
variable {K : PySem.W.Frag} {A A' : List Addr} {F F' : Hp}
mutual
theorem Rr.mono (p : A <+: A') (e : Same F F') : ∀ (r : R) (v : V), Rr K A F v r → Rr K A' F' v r
  | .dat d, _, h => by
    cases h with
    | dat h => exact .dat (Rp.mono e d _ h)
  | .own j, _, h => by
    cases h with
    | own h => exact .own (pre_at p h)
  | .scr ns, _, h => by
    cases h with
    | scr z h => exact .scr z (e.seq h)
  | .tup rs, _, h => by
    cases h with
    | tup s h z => exact .tup (sqT_same e s) (Rrs.mono p e rs _ h) z
  | .exc c, _, h => by
    cases h with
    | exc h1 h2 => exact .exc h1 (e _ _ h2)
theorem Rrs.mono (p : A <+: A') (e : Same F F') : ∀ (rs : List R) (vs : List V), Rrs K A F vs rs → Rrs K A' F' vs rs
  | [], _, h => by cases h; exact .nil
  | r :: rs, _, h => by
    cases h with
    | cons h1 h2 => exact .cons (Rr.mono p e r _ h1) (Rrs.mono p e rs _ h2)
end
theorem Rrs.length : ∀ {rs : List R} {vs : List V}, Rrs K A F vs rs → vs.length = rs.length
  | [], _, h => by cases h; rfl
  | _ :: rs, _, h => by
    cases h with
    | cons _ h2 => rw [List.length_cons, List.length_cons, Rrs.length h2]
theorem Rrs.get : ∀ {rs : List R} {vs : List V} {i : Nat} {r : R}, Rrs K A F vs rs → rs[i]? = some r → ∃ v, vs[i]? = some v ∧ Rr K A F v r
  | [], _, _, _, _, e => by simp at e
  | _ :: _, _, 0, _, h, e => by
    cases h with
    | cons h1 h2 =>
      simp at e; subst e
      exact ⟨_, rfl, h1⟩
  | _ :: rs, _, i + 1, _, h, e => by
    cases h with
    | cons h1 h2 =>
      obtain ⟨v, e1, r⟩ := Rrs.get (i := i) h2 (by simpa using e)
      exact ⟨v, by simpa using e1, r⟩
theorem Rrs.append : ∀ {rs ss : List R} {vs us : List V}, Rrs K A F vs rs → Rrs K A F us ss → Rrs K A F (vs ++ us) (rs ++ ss)
  | [], _, _, _, h, g => by cases h; exact g
  | _ :: _, _, _, _, h, g => by
    cases h with
    | cons h1 h2 => exact .cons h1 (h2.append g)
theorem Rrs.take : ∀ {rs : List R} {vs : List V} (n : Nat), Rrs K A F vs rs → Rrs K A F (vs.take n) (rs.take n)
  | _, _, 0, _ => .nil
  | [], _, n + 1, h => by cases h; exact .nil
  | _ :: _, _, n + 1, h => by
    cases h with
    | cons h1 h2 => exact .cons h1 (h2.take n)
theorem Rrs.drop : ∀ {rs : List R} {vs : List V} (n : Nat), Rrs K A F vs rs → Rrs K A F (vs.drop n) (rs.drop n)
  | _, _, 0, h => h
  | [], _, n + 1, h => by cases h; exact .nil
  | _ :: _, _, n + 1, h => by
    cases h with
    | cons h1 h2 => exact h2.drop n
theorem Rrs.set : ∀ {rs : List R} {vs : List V} {v : V} {r : R} (i : Nat), Rr K A F v r → Rrs K A F vs rs → Rrs K A F (vs.set i v) (rs.set i r)
  | [], _, _, _, _, _, h => by cases h; exact .nil
  | _ :: _, _, _, _, 0, r, h => by
    cases h with
    | cons h1 h2 => exact .cons r h2
  | _ :: _, _, _, _, i + 1, r, h => by
    cases h with
    | cons h1 h2 => exact .cons h1 (Rrs.set i r h2)
theorem Rrs.erase : ∀ {rs : List R} {vs : List V} (i : Nat), Rrs K A F vs rs → Rrs K A F (vs.eraseIdx i) (rs.eraseIdx i)
  | [], _, _, h => by cases h; exact .nil
  | _ :: _, _, 0, h => by
    cases h with
    | cons h1 h2 => exact h2
  | _ :: _, _, i + 1, h => by
    cases h with
    | cons h1 h2 => exact .cons h1 (Rrs.erase i h2)
end

abbrev PairR (K : PySem.W.Frag) (A : List Addr) (F : Hp) {κ : Type} (vs : List (κ × V)) (ks : List (κ × R)) : Prop := Paired (fun p q => p.1 = q.1 ∧ Rr K A F p.2 q.2) vs ks
def CellOk (K : PySem.W.Frag) (A : List Addr) (F H : Hp) (a : Addr) : Cell → Prop
  | .lst ds => ∃ vs, H a = some (.lst vs) ∧ Rps K F vs ds ∧ ds.length ≤ sizeLine
  | .lR rs => ∃ vs, H a = some (.lst vs) ∧ Rrs K A F vs rs ∧ rs.length ≤ sizeLine
  | .dR kvs => ∃ vs : List (Key × V), H a = some (.dK vs) ∧ PairR K A F vs kvs
  | .tR kvs => ∃ vs : List (List Key × V), H a = some (.dT vs) ∧ PairR K A F vs kvs
structure Ok (K : PySem.W.Frag) (A : List Addr) (F H : Hp) (S : Sx) (σ : L2.St) : Prop where
  sub : Sub F H
  len : S.sl.length = σ.length
  alen : S.os.length = A.length
  nd : A.Nodup
  rslot : ∀ (i : Nat) r, S.sl[i]? = some (some r) → ∃ v, σ[i]? = some (some v) ∧ Rr K A F v r
  cell : ∀ (j : Nat) c, S.os[j]? = some (some c) → ∃ a, A[j]? = some a ∧ F a = none ∧ CellOk K A F H a c
  trk : ∀ a ∈ A, ∃ o, H a = some o
section
variable {K : PySem.W.Frag} {A : List Addr} {F H : Hp} {S : Sx} {σ : L2.St}
theorem Ok.slot (k : Ok K A F H S σ) (i : Nat) (d : PyData) (h : S.sl[i]? = some (some (.dat d))) : ∃ v, σ[i]? = some (some v) ∧ Rp K F v d := by
  obtain ⟨v, e, r⟩ := k.rslot i _ h
  cases r with
  | dat r => exact ⟨v, e, r⟩
theorem Ok.oslot (k : Ok K A F H S σ) (i j : Nat) (h : S.sl[i]? = some (some (.own j))) : ∃ a, A[j]? = some a ∧ σ[i]? = some (some (.ref a)) := by
  obtain ⟨v, e, r⟩ := k.rslot i _ h
  cases r with
  | own r => exact ⟨_, r, e⟩
theorem Ok.sslot (k : Ok K A F H S σ) (i : Nat) (ns : List Int) (h : S.sl[i]? = some (some (.scr ns))) : ns.length ≤ 63 ∧ ∃ a, σ[i]? = some (some (.ref a)) ∧ SqL K F a (ns.map V.int) := by
  obtain ⟨v, e, r⟩ := k.rslot i _ h
  cases r with
  | scr z r => exact ⟨z, _, e, r⟩
end

theorem paired_mono {κ : Type} {K : PySem.W.Frag} {A A' : List Addr} {F F' : Hp} (p : A <+: A') (e : Same F F') {vs : List (κ × V)} {ks : List (κ × R)} (h : PairR K A F vs ks) : PairR K A' F' vs ks :=
  Paired.mapP h fun _ _ z => ⟨z.1, z.2.mono p e _ _⟩
/-- the cell at a stands over a greater heap -/
theorem CellOk.mono {K : PySem.W.Frag} {A A' : List Addr} {F F' H H' : Hp} {a : Addr} {c : Cell} (p : A <+: A') (e : Same F F') (ha : ∀ o, H a = some o → H' a = some o) (h : CellOk K A F H a c) : CellOk K A' F' H' a c := by
  cases c with
  | lst ds => obtain ⟨vs, h1, h2, hz⟩ := h; exact ⟨vs, ha _ h1, Rps.mono e _ _ h2, hz⟩
  | lR ds => obtain ⟨vs, h1, h2, hz⟩ := h; exact ⟨vs, ha _ h1, Rrs.mono p e _ _ h2, hz⟩
  | dR ds => obtain ⟨vs, h1, h2⟩ := h; exact ⟨vs, ha _ h1, paired_mono p e h2⟩
  | tR ds => obtain ⟨vs, h1, h2⟩ := h; exact ⟨vs, ha _ h1, paired_mono p e h2⟩

theorem same_upd {H : Hp} {p : Addr} {o : HO} (h : H p = none) : Same H (upd H p o) := fun b x e => by
  rw [upd_ne (ne_of_none e h)]
  exact e
section
variable {K : PySem.W.Frag} {A : List Addr} {F F' H H' : Hp} {S : Sx} {σ : L2.St}
/-- both heaps grow -/
theorem Ok.grow (k : Ok K A F H S σ) (sub : Sub F' H') (e : Same F F') (eh : ∀ a ∈ A, ∀ o, H a = some o → H' a = some o) (hf : ∀ a ∈ A, F a = none → F' a = none) : Ok K A F' H' S σ where
  sub := sub
  len := k.len
  alen := k.alen
  nd := k.nd
  rslot := fun i r h => by obtain ⟨v, e1, q⟩ := k.rslot i r h; exact ⟨v, e1, q.mono (List.prefix_refl _) e _ _⟩
  cell := fun j c h => by
    obtain ⟨a, e1, f, c⟩ := k.cell j c h
    have hm : a ∈ A := List.mem_of_getElem? e1
    exact ⟨a, e1, hf a hm f, c.mono (List.prefix_refl _) e (eh a hm)⟩
  trk := fun a h => by obtain ⟨o, q⟩ := k.trk a h; exact ⟨o, eh a h o q⟩
/-- a new object, known for good -/
theorem Ok.laid (k : Ok K A F H S σ) {p : Addr} {o : HO} (hp : H p = none) : Ok K A (upd F p o) (upd H p o) S σ := by
  have fp : F p = none := k.sub.none hp
  refine k.grow ⟨fun b u q => ?_, fun b u q n => ?_⟩ (same_upd fp) (fun a ha u q => by rw [upd_ne (ne_of_none q hp)]; exact q) fun a ha q => ?_
  · by_cases hb : b = p
    · subst hb; rw [upd_same] at q ⊢; exact q
    · rw [upd_ne hb] at q ⊢; exact k.sub.same b u q
  · by_cases hb : b = p
    · subst hb; rw [upd_same] at n; cases n
    · rw [upd_ne hb] at q n; exact k.sub.loose b u q n
  · obtain ⟨u, hu⟩ := k.trk a ha
    rw [upd_ne (ne_of_none hu hp)]; exact q
theorem sub_cell {G H : Hp} (s : Sub G H) {a : Addr} {o : HO} (g : G a = none) (l : Loose o) : Sub G (upd H a o) := ⟨fun b u q => by
    rw [upd_ne (ne_of_none q g)]; exact s.same b u q, fun b u q n => by
    by_cases hb : b = a
    · subst hb; rw [upd_same] at q; cases q; exact l
    · rw [upd_ne hb] at q; exact s.loose b u q n⟩
/-- a new cell -/
theorem Ok.cellNew (k : Ok K A F H S σ) {p : Addr} {o : HO} {c : Cell} (hp : H p = none) (l : Loose o) (hc : CellOk K (A ++ [p]) F (upd H p o) p c) : Ok K (A ++ [p]) F (upd H p o) { S with os := S.os ++ [some c] } σ := by
  have fp : F p = none := k.sub.none hp
  have np : p ∉ A := fun z => by obtain ⟨u, hu⟩ := k.trk p z; rw [hp] at hu; cases hu
  have pp : A <+: A ++ [p] := List.prefix_append _ _
  refine ⟨sub_cell k.sub fp l, k.len, by simp [k.alen], List.nodup_append.mpr ⟨k.nd, by simp, fun a ha b hb => by simp at hb; subst hb; intro z; subst z; exact np ha⟩, fun i r h => ?_, fun j c' h => ?_, fun a h => ?_⟩
  · obtain ⟨v, e1, q⟩ := k.rslot i r h
    exact ⟨v, e1, q.mono pp (Same.refl F) _ _⟩
  · by_cases hj : j < S.os.length
    · have h' : S.os[j]? = some (some c') := by
        have := h
        simp only at this
        rw [List.getElem?_append_left hj] at this; exact this
      obtain ⟨a, e1, f, q⟩ := k.cell j c' h'
      exact ⟨a, pre_at pp e1, f, q.mono pp (Same.refl F) fun u hu => by rw [upd_ne (ne_of_none hu hp)]; exact hu⟩
    · have e : j = S.os.length := by
        have := (List.getElem?_eq_some_iff.mp h).1
        simp at this
        omega
      subst e
      have h' : some c = some c' := by simpa using h
      cases h'
      exact ⟨p, by rw [k.alen]; simp, fp, hc⟩
  · rcases List.mem_append.mp h with h | h
    · obtain ⟨u, hu⟩ := k.trk a h
      exact ⟨u, by rw [upd_ne (ne_of_none hu hp)]; exact hu⟩
    · simp at h; subst h; exact ⟨o, upd_same⟩
theorem idx_nodup {α : Type} {A : List α} (nd : A.Nodup) {i j : Nat} {a : α} (h1 : A[i]? = some a) (h2 : A[j]? = some a) : i = j := by
  obtain ⟨l1, e1⟩ := List.getElem?_eq_some_iff.mp h1
  obtain ⟨l2, e2⟩ := List.getElem?_eq_some_iff.mp h2
  exact (List.getElem_inj nd).mp (e1.trans e2.symm)
/-- a cell written -/
theorem Ok.cellSet (k : Ok K A F H S σ) {j : Nat} {a : Addr} {o : HO} {c c' : Cell} (hj : S.os[j]? = some (some c)) (ha : A[j]? = some a) (l : Loose o) (hc : CellOk K A F (upd H a o) a c') :
    Ok K A F (upd H a o) { S with os := S.os.set j (some c') } σ := by
  obtain ⟨a', e1, fa, _⟩ := k.cell j c hj
  rw [ha] at e1; cases e1
  refine ⟨sub_cell k.sub fa l, k.len, by simp [k.alen], k.nd, k.rslot, fun i d h => ?_, fun b h => ?_⟩
  · by_cases hi : j = i
    · subst hi
      have hlt := (List.getElem?_eq_some_iff.mp hj).1
      rw [List.getElem?_set_self hlt] at h
      cases h
      exact ⟨a, ha, fa, hc⟩
    · rw [List.getElem?_set_ne hi] at h
      obtain ⟨b, e1, f, q⟩ := k.cell i d h
      have hb : b ≠ a := fun z => hi (idx_nodup k.nd ha (z ▸ e1))
      exact ⟨b, e1, f, q.mono (List.prefix_refl _) (Same.refl F) fun u hu => by rw [upd_ne hb]; exact hu⟩
  · by_cases hb : b = a
    · exact ⟨o, by rw [hb, upd_same]⟩
    · obtain ⟨u, hu⟩ := k.trk b h
      exact ⟨u, by rw [upd_ne hb]; exact hu⟩
/-- a cell is written no more: its object is known for good -/
theorem Ok.sealO (k : Ok K A F H S σ) {j : Nat} {a : Addr} {o : HO} {c : Cell} (hj : S.os[j]? = some (some c)) (ha : A[j]? = some a) (ho : H a = some o) :
    Same F (upd F a o) ∧ Ok K A (upd F a o) H { S with os := S.os.set j none } σ := by
  obtain ⟨a', e1, fa, _⟩ := k.cell j c hj
  rw [ha] at e1; cases e1
  have sm : Same F (upd F a o) := same_upd fa
  refine ⟨sm, ⟨⟨fun b u q => ?_, fun b u q n => ?_⟩, k.len, by simp [k.alen], k.nd, fun i r h => ?_, fun i d h => ?_, k.trk⟩⟩
  · by_cases hb : b = a
    · subst hb; rw [upd_same] at q; cases q; exact ho
    · rw [upd_ne hb] at q; exact k.sub.same b u q
  · by_cases hb : b = a
    · subst hb; rw [upd_same] at n; cases n
    · rw [upd_ne hb] at n; exact k.sub.loose b u q n
  · obtain ⟨v, e1, q⟩ := k.rslot i r h
    exact ⟨v, e1, q.mono (List.prefix_refl _) sm _ _⟩
  · by_cases hi : j = i
    · subst hi
      have hlt := (List.getElem?_eq_some_iff.mp hj).1
      rw [List.getElem?_set_self hlt] at h
      cases h
    · rw [List.getElem?_set_ne hi] at h
      obtain ⟨b, e1, f, q⟩ := k.cell i d h
      have hb : b ≠ a := fun z => hi (idx_nodup k.nd ha (z ▸ e1))
      exact ⟨b, e1, by rw [upd_ne hb]; exact f, q.mono (List.prefix_refl _) sm fun u hu => hu⟩
/-- .. a list of data -/
theorem Ok.seal (k : Ok K A F H S σ) {j : Nat} {ds : List PyData} (hj : S.os[j]? = some (some (.lst ds))) :
    ∃ a F', A[j]? = some a ∧ Same F F' ∧ Rp K F' (.ref a) (.list ds) ∧ Ok K A F' H { S with os := S.os.set j none } σ ∧ ∀ b, b ≠ a → F' b = F b := by
  obtain ⟨a, ha, fa, vs, hv, r, hz⟩ := k.cell j _ hj
  obtain ⟨sm, k'⟩ := k.sealO hj ha hv
  exact ⟨a, _, ha, sm, .lst upd_same (Rps.mono sm _ _ r) hz, k', fun b hb => upd_ne hb⟩
theorem Ok.setR (k : Ok K A F H S σ) {i : Nat} {r : R} {v : V} (q : Rr K A F v r) : Ok K A F H { S with sl := S.sl.set i (some r) } (σ.set i (some v)) := by
  refine ⟨k.sub, by simp [k.len], k.alen, k.nd, fun n e h => ?_, k.cell, k.trk⟩
  by_cases hi : i = n
  · subst hi
    have hlt : i < S.sl.length := by
      have := (List.getElem?_eq_some_iff.mp h).1
      simpa using this
    rw [List.getElem?_set_self hlt] at h
    cases h
    exact ⟨v, by rw [List.getElem?_set_self (by rw [← k.len]; exact hlt)], q⟩
  · rw [List.getElem?_set_ne hi] at h ⊢
    exact k.rslot n e h
theorem Ok.setDat (k : Ok K A F H S σ) {i : Nat} {d : PyData} {v : V} (r : Rp K F v d) : Ok K A F H { S with sl := S.sl.set i (some (.dat d)) } (σ.set i (some v)) := k.setR (.dat r)
theorem Ok.setOwn (k : Ok K A F H S σ) {i j : Nat} {a : Addr} (ha : A[j]? = some a) : Ok K A F H { S with sl := S.sl.set i (some (.own j)) } (σ.set i (some (.ref a))) := k.setR (.own ha)
theorem set_at {α : Type} {l : List (Option α)} {i : Nat} {v : α} (hv : l[i]? = some (some v)) : l.set i (some v) = l := by
  apply List.ext_getElem?
  intro n
  by_cases hi : i = n
  · subst hi
    rw [List.getElem?_set_self (List.getElem?_eq_some_iff.mp hv).1, hv]
  · rw [List.getElem?_set_ne hi]
/-- the slot's thing told otherwise, the value as it was -/
theorem Ok.rAt (k : Ok K A F H S σ) {i : Nat} {r : R} {v : V} (hv : σ[i]? = some (some v)) (q : Rr K A F v r) : Ok K A F H { S with sl := S.sl.set i (some r) } σ := by
  have := k.setR (i := i) q
  rwa [set_at hv] at this
theorem Ok.datAt (k : Ok K A F H S σ) {i : Nat} {d : PyData} {v : V} (hv : σ[i]? = some (some v)) (r : Rp K F v d) : Ok K A F H { S with sl := S.sl.set i (some (.dat d)) } σ := k.rAt hv (.dat r)
end
end Fu

set_option maxHeartbeats 4000000
namespace Fu
open PySem PySem.Spec PyProof.Rows L2

theorem bind_inv {α β : Type} {x : Option α} {f : α → Option β} {b : β} (h : x.bind f = some b) : ∃ a, x = some a ∧ f a = some b := by
  cases x with
  | none => cases h
  | some a => exact ⟨a, rfl, h⟩

/-! ### the judgements: an expression's reading meets a function on states -/
def RdE (K : PySem.W.Frag) (t : TE) (g : M D) : Prop := ∀ A F H S σ d S' (Q : VK), Ok K A F H S σ → g S = some (d, S') →
  (∀ A' F' H' v, A <+: A' → Same F F' → Ok K A' F' H' S' σ → Rp K F' v d → Q v H') → t σ H Q
def RdT (K : PySem.W.Frag) (t : TT) (g : M Bool) : Prop := ∀ A F H S σ b S' (Q : Bool → Hp → Prop), Ok K A F H S σ → g S = some (b, S') →
  (∀ A' F' H', A <+: A' → Same F F' → Ok K A' F' H' S' σ → Q b H') → t σ H Q
def RdA (K : PySem.W.Frag) (t : TA) (g : M (List D)) : Prop := ∀ A F H S σ ds S' (Q : List V → Hp → Prop), Ok K A F H S σ → g S = some (ds, S') →
  (∀ A' F' H' vs, A <+: A' → Same F F' → Ok K A' F' H' S' σ → Rps K F' vs ds → Q vs H') → t σ H Q
structure GE (X : Cx) (e : Expr) (g : M D) : Prop where
  ex : ∃ t, PE X e t ∧ RdE X.K t g
structure GT (X : Cx) (e : Expr) (g : M Bool) : Prop where
  ex : ∃ t, PT X e t ∧ RdT X.K t g
structure GW (X : Cx) (e : Expr) (g : M Bool) : Prop where
  ex : ∃ t, PW X e t ∧ RdT X.K t g
structure GA (X : Cx) (es : List Expr) (g : M (List D)) : Prop where
  ex : ∃ t, PA X es t ∧ RdA X.K t g

/-! ### names and constants -/
def gVar (i : Nat) : M D := fun S => match S.sl[i]? with
  | some (some (.dat d)) => some (d, S)
  | some (some (.own j)) => match S.os[j]? with
    | some (some (.lst ds)) => some (.list ds, ⟨S.sl.set i (some (.dat (.list ds))), S.os.set j none⟩)
    | _ => none
  | _ => none
def gC (d : D) : M D := fun S => some (d, S)
section
variable {X : Cx} {pos : Pos}
theorem rd_var {K : PySem.W.Frag} (i : Nat) : RdE K (tVar i) (gVar i) := by
  intro A F H S σ d S' Q k h post
  unfold gVar at h
  cases e : S.sl[i]? with
  | none => rw [e] at h; cases h
  | some r =>
    cases r with
    | none => rw [e] at h; cases h
    | some r =>
      cases r with
      | dat d' =>
        rw [e] at h; cases h
        obtain ⟨v, ev, r⟩ := k.slot i _ e
        exact ⟨v, ev, post A F H v (List.prefix_refl _) (Same.refl F) k r⟩
      | scr ns => rw [e] at h; cases h
      | tup rs => rw [e] at h; cases h
      | exc c => rw [e] at h; cases h
      | own j =>
        rw [e] at h
        simp only at h
        cases e2 : S.os[j]? with
        | none => rw [e2] at h; cases h
        | some c =>
          cases c with
          | none => rw [e2] at h; cases h
          | some c =>
            cases c with
            | lst ds =>
              rw [e2] at h; cases h
              obtain ⟨a, ha, ev⟩ := k.oslot i j e
              obtain ⟨a', F', ha', sm, r, k', _⟩ := k.seal e2
              rw [ha] at ha'; cases ha'
              exact ⟨_, ev, post A F' H _ (List.prefix_refl _) sm (k'.datAt ev r) r⟩
            | lR _ => rw [e2] at h; cases h
            | dR _ => rw [e2] at h; cases h
            | tR _ => rw [e2] at h; cases h
theorem e_var (i : Nat) {x : Str} (hN : X.N[i]? = some x := by rfl) (hv : Vis X.env.scope x := by first | exact Or.inl rfl | exact Or.inr (Or.inl rfl) | exact Or.inr (Or.inr rfl)) (hd : (x == ("__debug__" : Str)) = false := by decide)
    (hcd : (x == ("__classdict__" : Str)) = false := by decide) : GE X (.Name x pos) (gVar i) := ⟨_, pe_var hN hv hd hcd, rd_var i⟩
theorem rd_c {K : PySem.W.Frag} {v : V} {d : D} (r : ∀ F, Rp K F v d) : RdE K (tC v) (gC d) := by
  intro A F H S σ d' S' Q k h post
  cases h
  exact post A F H v (List.prefix_refl _) (Same.refl F) k (r F)
theorem e_int {i : Int} {j} : GE X (.Constant (.int i) j pos) (gC (.int i)) := ⟨_, pe_int, rd_c fun _ => .int i⟩
theorem e_bl {b : Bool} {j} : GE X (.Constant (.bool b) j pos) (gC (.bool b)) := ⟨_, pe_bl, rd_c fun _ => .bl b⟩
theorem e_non {j} : GE X (.Constant .none j pos) (gC .none) := ⟨_, pe_non, rd_c fun _ => .non⟩
theorem e_str {x : Str} {j} (hz : x.length ≤ sizeLine := by decide) : GE X (.Constant (.str x) j pos) (gC (.str x)) := ⟨_, pe_str, rd_c fun _ => .str hz⟩
/-- a module's constant -/
theorem e_gint {x : Str} {i : Int} {t : Tok} (hm : X.mg x = some (.int i t)) (hg : Gl X x := by rfl) (hd : (x == ("__debug__" : Str)) = false := by decide) : GE X (.Name x pos) (gC (.int i)) := ⟨_, pe_glob (v := .int i) hg hm ⟨t, rfl⟩ hd, rd_c fun _ => .int i⟩
end

/-! ### operators by values -/
def RdOp (K : PySem.W.Frag) (r : R2) (f : D → D → Option D) : Prop := ∀ A F H S σ x y d e z Q, Ok K A F H S σ → Rp K F x d → Rp K F y e → f d e = some z →
  (∀ F' H' v, Same F F' → Ok K A F' H' S σ → Rp K F' v z → Q v H') → r x y H Q
def gBin (f : D → D → Option D) (ga gb : M D) : M D := fun S => (ga S).bind fun p => (gb p.2).bind fun q => (f p.1 q.1).bind fun z => some (z, q.2)
section
variable {X : Cx} {pos : Pos} {a b : Expr} {ga gb : M D}
theorem rd_op {K : PySem.W.Frag} {r : R2} {f : D → D → Option D} {ta tb : TE} (hf : RdOp K r f) (ra : RdE K ta ga) (rb : RdE K tb gb) : RdE K (tOp r ta tb) (gBin f ga gb) := by
  intro A F H S σ d S' Q k h post
  obtain ⟨⟨x, S1⟩, h1, h⟩ := bind_inv h
  obtain ⟨⟨y, S2⟩, h2, h⟩ := bind_inv h
  obtain ⟨z, h3, h⟩ := bind_inv h
  cases h
  refine ra A F H S σ x S1 _ k h1 fun A1 F1 H1 v1 p1 s1 k1 r1 => rb A1 F1 H1 S1 σ y S2 _ k1 h2 fun A2 F2 H2 v2 p2 s2 k2 r2 => ?_
  exact hf A2 F2 H2 _ σ v1 v2 x y _ Q k2 (r1.mono s2 _ _) r2 h3 fun F3 H3 v s3 k3 r3 => post A2 F3 H3 v (p1.trans p2) (s1.trans (s2.trans s3)) k3 r3
theorem e_op {op : Operator} {r : R2} {f : D → D → Option D} (ho : OpR X (binaryOp op) r) (hf : RdOp X.K r f) (ha : GE X a ga) (hb : GE X b gb) : GE X (.BinOp a op b pos) (gBin f ga gb) :=
  let ⟨_, pa, ra⟩ := ha.ex; let ⟨_, pb, rb⟩ := hb.ex; ⟨_, pe_op ho pa pb, rd_op hf ra rb⟩
theorem e_cmpR {op : CmpOp} {r : R2} {f : D → D → Option D} (ho : OpR X (compareOp op) r) (hf : RdOp X.K r f) (hm : behindInMarks op b = false) (ha : GE X a ga) (hb : GE X b gb) : GE X (.Compare a [op] [b] pos) (gBin f ga gb) :=
  let ⟨_, pa, ra⟩ := ha.ex; let ⟨_, pb, rb⟩ := hb.ex; ⟨_, pe_cmpR ho pa pb hm, rd_op hf ra rb⟩
def gB (g : M D) : M Bool := fun S => (g S).bind fun p => match p.1 with
  | .bool b => some (b, p.2)
  | _ => none
theorem rd_test {K : PySem.W.Frag} {t : TE} {g : M D} (h : RdE K t g) : RdT K (tB t) (gB g) := by
  intro A F H S σ b S' Q k e post
  obtain ⟨⟨d, S1⟩, h1, e⟩ := bind_inv e
  refine h A F H S σ d S1 _ k h1 fun A1 F1 H1 v p1 s1 k1 r1 => ?_
  cases d <;> simp only at e <;> cases e
  cases r1
  exact ⟨_, rfl, post A1 F1 H1 p1 s1 k1⟩
theorem t_cmpR {op : CmpOp} {r : R2} {f : D → D → Option D} (ho : OpR X (compareOp op) r) (hf : RdOp X.K r f) (hm : behindInMarks op b = false) (ha : GE X a ga) (hb : GE X b gb) : GT X (.Compare a [op] [b] pos) (gB (gBin f ga gb)) :=
  let ⟨_, pa, ra⟩ := ha.ex; let ⟨_, pb, rb⟩ := hb.ex; ⟨_, pt_cmpR ho pa pb hm, rd_test (rd_op hf ra rb)⟩
theorem t_val {e : Expr} {g : M D} (h : GE X e g) (he : ∀ whole, isTrue e X.env whole = (do let v ← whole; standAt e.pos; holding [v] (truthy v)) := by intro _; rfl) : GT X e (gB g) :=
  let ⟨_, pe, re⟩ := h.ex; ⟨_, pt_val pe he, rd_test re⟩

/-! ### the operators -/
def dAdd : D → D → Option D
  | .int i, .int j => some (.int (i + j))
  | .str x, .str y => if x.length + y.length ≤ sizeLine then some (.str (x ++ y)) else none
  | .list xs, .list ys => if xs.length + ys.length ≤ sizeLine then some (.list (xs ++ ys)) else none
  | .tuple xs, .tuple ys => if xs.length + ys.length ≤ sizeLine then some (.tuple (xs ++ ys)) else none
  | _, _ => none

end

section
variable {K : PySem.W.Frag}
theorem rps_upd {F : Hp} {p : Addr} {o : HO} {vs : List V} {ds : List D} (h : F p = none) (r : Rps K F vs ds) : Rps K (upd F p o) vs ds := Rps.mono (same_upd h) _ _ r
/-- a new list, a new tuple, known for good -/
theorem Ok.newList {A : List Addr} {F H : Hp} {S : Sx} {σ : L2.St} (k : Ok K A F H S σ) {p : Addr} {vs : List V} {ds : List D} (hp : H p = none) (r : Rps K F vs ds) (hz : ds.length ≤ sizeLine) :
    Same F (upd F p (.lst vs)) ∧ Ok K A (upd F p (.lst vs)) (upd H p (.lst vs)) S σ ∧ Rp K (upd F p (.lst vs)) (.ref p) (.list ds) :=
  have fp := k.sub.none hp
  ⟨same_upd fp, k.laid hp, .lst upd_same (rps_upd fp r) hz⟩
theorem Ok.newTup {A : List Addr} {F H : Hp} {S : Sx} {σ : L2.St} (k : Ok K A F H S σ) {p : Addr} {vs : List V} {ds : List D} (hp : H p = none) (r : Rps K F vs ds) (hz : ds.length ≤ sizeLine) :
    Same F (upd F p (.tup vs)) ∧ Ok K A (upd F p (.tup vs)) (upd H p (.tup vs)) S σ ∧ Rp K (upd F p (.tup vs)) (.ref p) (.tuple ds) :=
  have fp := k.sub.none hp
  ⟨same_upd fp, k.laid hp, .tup (.inl (.inl upd_same)) (rps_upd fp r) hz⟩
theorem rp_list_inv {F : Hp} {v : V} {ds : List D} (h : Rp K F v (.list ds)) : ∃ a xs, v = .ref a ∧ F a = some (.lst xs) ∧ Rps K F xs ds ∧ ds.length ≤ sizeLine := by
  cases h with
  | lst h1 h2 h3 => exact ⟨_, _, rfl, h1, h2, h3⟩
theorem rp_tup_inv {F : Hp} {v : V} {ds : List D} (h : Rp K F v (.tuple ds)) : ∃ a xs, v = .ref a ∧ SqT K F a xs ∧ Rps K F xs ds ∧ ds.length ≤ sizeLine := by
  cases h with
  | tup h1 h2 h3 => exact ⟨_, _, rfl, h1, h2, h3⟩
theorem rp_str_inv {F : Hp} {v : V} {x : Str} (h : Rp K F v (.str x)) : v = .str x ∧ x.length ≤ sizeLine := by
  cases h with
  | str h => exact ⟨rfl, h⟩
theorem rp_int_inv {F : Hp} {v : V} {i : Int} (h : Rp K F v (.int i)) : v = .int i := by cases h; rfl
theorem rp_bool_inv {F : Hp} {v : V} {i : Bool} (h : Rp K F v (.bool i)) : v = .bl i := by cases h; rfl

def rAddAny (K : PySem.W.Frag) : R2 := fun x y H Q => (rI0 (fun i j => .int (i + j)) x y H Q) ∨ (∃ i j, x = .str i ∧ y = .str j ∧ i.length + j.length ≤ sizeLine ∧ Q (.str (i ++ j)) H) ∨ rCat x y H Q ∨ rCatA K x y H Q
theorem op_addAny {X : Cx} : OpR X (binaryOp .Add) (rAddAny X.K) := OpR.or op_add (OpR.or op_add_str (OpR.or op_cat op_catA))
theorem str_app_len (x y : Str) : (x ++ y).length = x.length + y.length := by
  show (Str.append x y).length = _
  simp [Str.append, Str.length]
theorem rd_add : RdOp K (rAddAny K) dAdd := by
  intro A F H S σ x y d e z Q k rx ry h post
  have id1 : ∀ v, Rp K F v z → Q v H := fun v r => post F H v (Same.refl F) k r
  cases d <;> cases e <;> simp only [dAdd] at h <;> try cases h
  · cases rp_int_inv rx; cases rp_int_inv ry
    exact .inl ⟨_, _, rfl, rfl, id1 _ (.int _)⟩
  · split at h
    · rename_i hz
      cases h
      obtain ⟨rfl, _⟩ := rp_str_inv rx
      obtain ⟨rfl, _⟩ := rp_str_inv ry
      exact .inr (.inl ⟨_, _, rfl, rfl, hz, id1 _ (.str (by rw [str_app_len]; exact hz))⟩)
    · cases h
  · split at h
    · rename_i hz
      cases h
      obtain ⟨a, xs, rfl, h1, h2, _⟩ := rp_list_inv rx
      obtain ⟨b, ys, rfl, g1, g2, _⟩ := rp_list_inv ry
      refine .inr (.inr (.inl ⟨a, b, xs, ys, rfl, rfl, k.sub.same _ _ h1, k.sub.same _ _ g1, by rw [h2.length, g2.length]; exact hz, fun p hp => ?_⟩))
      obtain ⟨s1, k1, r1⟩ := k.newList hp (h2.append g2) (by rw [List.length_append]; exact hz)
      exact post _ _ _ s1 k1 r1
    · cases h
  · split at h
    · rename_i hz
      cases h
      obtain ⟨a, xs, rfl, h1, h2, _⟩ := rp_tup_inv rx
      obtain ⟨b, ys, rfl, g1, g2, _⟩ := rp_tup_inv ry
      refine .inr (.inr (.inr ⟨a, b, xs, ys, rfl, rfl, sqT_same k.sub.same h1, sqT_same k.sub.same g1, by rw [h2.length, g2.length]; exact hz, fun e => ?_, fun e1 e2 => ?_, fun e1 e2 p hp => ?_⟩))
      · subst e
        cases h2
        exact id1 _ (by simpa using ry)
      · subst e2
        cases g2
        exact id1 _ (by simpa using rx)
      · obtain ⟨s1, k1, r1⟩ := k.newTup hp (h2.append g2) (by rw [List.length_append]; exact hz)
        exact post _ _ _ s1 k1 r1
    · cases h

/-! ### other operators on ints -/
def dSub : D → D → Option D
  | .int i, .int j => some (.int (i - j))
  | _, _ => none
theorem rd_sub : RdOp K (rI0 fun i j => .int (i - j)) dSub := by
  intro A F H S σ x y d e z Q k rx ry h post
  cases d <;> cases e <;> simp only [dSub] at h <;> cases h
  cases rp_int_inv rx; cases rp_int_inv ry
  exact ⟨_, _, rfl, rfl, post F H _ (Same.refl F) k (.int _)⟩
end
end Fu

set_option maxHeartbeats 4000000
namespace Fu
open PySem PySem.Spec PyProof.Rows L2
section
variable {K : PySem.W.Frag}
/-! ### products, quotients, rests, powers -/
instance (i j : Int) : Decidable (CMulW i j) := inferInstanceAs (Decidable (_ < _))
instance (i j : Int) : Decidable (CDivW i j) := inferInstanceAs (Decidable (_ ∧ _))
instance (i j : Int) : Decidable (CPow i j) := inferInstanceAs (Decidable (_ ∧ _ ∧ _))
def dMul : D → D → Option D
  | .int i, .int j => if CMulW i j then some (.int (i * j)) else none
  | .list xs, .int k => if -(2 ^ 63) ≤ k ∧ k < 2 ^ 63 ∧ xs.length * k.toNat ≤ sizeLine then some (.list (List.replicate k.toNat xs).flatten) else none
  | _, _ => none
def rMulAny : R2 := fun x y H Q => rI CMulW (fun i j => .int (i * j)) x y H Q ∨ rRep x y H Q
theorem op_mulAny {X : Cx} : OpR X (binaryOp .Mult) rMulAny := OpR.or op_mulW op_rep
theorem rd_mul : RdOp K rMulAny dMul := by
  intro A F H S σ x y d e z Q k rx ry h post
  cases d <;> cases e <;> simp only [dMul] at h <;> try cases h
  · split at h
    · rename_i hz
      cases h
      cases rp_int_inv rx; cases rp_int_inv ry
      exact .inl ⟨_, _, rfl, rfl, hz, post F H _ (Same.refl F) k (.int _)⟩
    · cases h
  · split at h
    · rename_i hz
      cases h
      obtain ⟨a, xs, rfl, h1, h2, _⟩ := rp_list_inv rx
      cases rp_int_inv ry
      refine .inr ⟨a, _, xs, rfl, rfl, k.sub.same _ _ h1, hz.1, hz.2.1, by rw [h2.length]; exact hz.2.2, fun p hp => ?_⟩
      obtain ⟨s1, k1, r1⟩ := k.newList hp (h2.rep _) (by rw [PyProof.Rows.lm_len_rep_flat, Nat.mul_comm]; exact hz.2.2)
      exact post _ _ _ s1 k1 r1
    · cases h
def dDiv : D → D → Option D
  | .int i, .int j => if CDivW i j then some (.int (i / j)) else none
  | _, _ => none
def dMod : D → D → Option D
  | .int i, .int j => if 0 < j then some (.int (i % j)) else none
  | _, _ => none
def dPow : D → D → Option D
  | .int i, .int j => if CPow i j then some (.int (i ^ j.toNat)) else none
  | _, _ => none
theorem rd_ii {C : Int → Int → Prop} [∀ i j, Decidable (C i j)] {f : Int → Int → Int} {g : D → D → Option D} (hg : ∀ d e z, g d e = some z → ∃ i j, d = .int i ∧ e = .int j ∧ C i j ∧ z = .int (f i j)) : RdOp K (rI C fun i j => .int (f i j)) g := by
  intro A F H S σ x y d e z Q k rx ry h post
  obtain ⟨i, j, rfl, rfl, c, rfl⟩ := hg d e z h
  cases rp_int_inv rx; cases rp_int_inv ry
  exact ⟨_, _, rfl, rfl, c, post F H _ (Same.refl F) k (.int _)⟩
theorem rd_div : RdOp K (rI CDivW fun i j => .int (i / j)) dDiv := rd_ii fun d e z h => by
  cases d <;> cases e <;> simp only [dDiv] at h <;> try cases h
  split at h
  · cases h; exact ⟨_, _, rfl, rfl, by assumption, rfl⟩
  · cases h
theorem rd_mod : RdOp K (rI (fun _ j => 0 < j) fun i j => .int (i % j)) dMod := rd_ii fun d e z h => by
  cases d <;> cases e <;> simp only [dMod] at h <;> try cases h
  split at h
  · cases h; exact ⟨_, _, rfl, rfl, by assumption, rfl⟩
  · cases h
theorem rd_pow : RdOp K (rI CPow fun i j => .int (i ^ j.toNat)) dPow := rd_ii fun d e z h => by
  cases d <;> cases e <;> simp only [dPow] at h <;> try cases h
  split at h
  · cases h; exact ⟨_, _, rfl, rfl, by assumption, rfl⟩
  · cases h

/-! ### comparisons -/
def dCmp (p : Int → Int → Bool) : D → D → Option D
  | .int i, .int j => some (.bool (p i j))
  | _, _ => none
theorem rd_cmp (p : Int → Int → Bool) : RdOp K (rI0 fun i j => .bl (p i j)) (dCmp p) := by
  intro A F H S σ x y d e z Q k rx ry h post
  cases d <;> cases e <;> simp only [dCmp] at h <;> cases h
  cases rp_int_inv rx; cases rp_int_inv ry
  exact ⟨_, _, rfl, rfl, post F H _ (Same.refl F) k (.bl _)⟩
def strEq : D → D → Option Bool
  | .str x, .str y => some (decide (x = y))
  | _, _ => none
def dEq (d e : D) : Option D := if SeqAt.shaped d = true ∧ SeqAt.shaped e = true then some (.bool (PyData.eqv d e)) else (strEq d e).map .bool
def dNe (d e : D) : Option D := if SeqAt.shaped d = true ∧ SeqAt.shaped e = true then some (.bool (!PyData.eqv d e)) else (strEq d e).map fun b => .bool (!b)
def rEqAny (K : PySem.W.Frag) : R2 := fun x y H Q => rEqD K x y H Q ∨ rEq x y H Q
def rNeAny (K : PySem.W.Frag) : R2 := fun x y H Q => rNeD K x y H Q ∨ rNe x y H Q
theorem op_eqAny {X : Cx} (hu : X.A.units + 64 < cLine) : OpR X (compareOp .Eq) (rEqAny X.K) := OpR.or (op_eqD hu) op_eq
theorem op_neAny {X : Cx} (hu : X.A.units + 64 < cLine) : OpR X (compareOp .NotEq) (rNeAny X.K) := OpR.or (op_neD hu) op_ne
theorem strEq_inv {d e : D} {b : Bool} (h : strEq d e = some b) : ∃ x y, d = .str x ∧ e = .str y ∧ b = decide (x = y) := by
  unfold strEq at h
  split at h
  · cases h; exact ⟨_, _, rfl, rfl, rfl⟩
  · cases h
theorem strV_eq (x y : Str) : decide (V.str x = V.str y) = decide (x = y) := by
  by_cases h : x = y
  · subst h; simp
  · rw [decide_eq_false h, decide_eq_false (fun z => h (by injection z))]
theorem Rp.dpH {F H : Hp} {v : V} {d : D} (s : Same F H) (c : SeqAt.shaped d = true) (r : Rp K F v d) : Dp K H v d := Rp.dp _ _ (SeqAt.canLay_of_shaped c) (r.mono s _ _)
theorem rd_eq : RdOp K (rEqAny K) dEq := by
  intro A F H S σ x y d e z Q k rx ry h post
  unfold dEq at h
  split at h
  · rename_i c
    cases h
    exact .inl ⟨d, e, rx.dpH k.sub.same c.1, ry.dpH k.sub.same c.2, c.1, c.2, post F H _ (Same.refl F) k (.bl _)⟩
  · obtain ⟨b, h1, rfl⟩ := Option.map_eq_some_iff.mp h
    obtain ⟨u, v, rfl, rfl, rfl⟩ := strEq_inv h1
    obtain ⟨rfl, _⟩ := rp_str_inv rx
    obtain ⟨rfl, _⟩ := rp_str_inv ry
    exact .inr ⟨rfl, post F H _ (Same.refl F) k (by rw [strV_eq]; exact .bl _)⟩
theorem rd_ne : RdOp K (rNeAny K) dNe := by
  intro A F H S σ x y d e z Q k rx ry h post
  unfold dNe at h
  split at h
  · rename_i c
    cases h
    exact .inl ⟨d, e, rx.dpH k.sub.same c.1, ry.dpH k.sub.same c.2, c.1, c.2, post F H _ (Same.refl F) k (.bl _)⟩
  · obtain ⟨b, h1, rfl⟩ := Option.map_eq_some_iff.mp h
    obtain ⟨u, v, rfl, rfl, rfl⟩ := strEq_inv h1
    obtain ⟨rfl, _⟩ := rp_str_inv rx
    obtain ⟨rfl, _⟩ := rp_str_inv ry
    exact .inr ⟨rfl, post F H _ (Same.refl F) k (by rw [strV_eq]; exact .bl _)⟩
/-- in a list, in a tuple, in a text -/
def dIn : D → D → Option D
  | .str x, .str y => some (.bool (!(Builtin.Str.occurrences y x 0 y.length 1).isEmpty))
  | d, .list ds => if SeqAt.shaped d = true ∧ SeqAt.shaped (.list ds) = true then some (.bool (ds.any fun z => PyData.eqv z d)) else none
  | d, .tuple ds => if SeqAt.shaped d = true ∧ SeqAt.shaped (.tuple ds) = true then some (.bool (ds.any fun z => PyData.eqv z d)) else none
  | _, _ => none
theorem rp_ne_non {F : Hp} {v : V} {d : D} (r : Rp K F v d) (h : d = .none → False) : decide (v = V.non) = false := by
  cases r <;> first | exact (h rfl).elim | simp
end

/-! ### the expressions' rules by operators -/
section
variable {X : Cx} {pos : Pos} {a b c : Expr} {ga gb gc : M D}
theorem e_add (ha : GE X a ga) (hb : GE X b gb) : GE X (.BinOp a .Add b pos) (gBin dAdd ga gb) := e_op op_addAny rd_add ha hb
theorem e_sub (ha : GE X a ga) (hb : GE X b gb) : GE X (.BinOp a .Sub b pos) (gBin dSub ga gb) := e_op op_sub rd_sub ha hb
theorem e_mul (ha : GE X a ga) (hb : GE X b gb) : GE X (.BinOp a .Mult b pos) (gBin dMul ga gb) := e_op op_mulAny rd_mul ha hb
theorem e_div (ha : GE X a ga) (hb : GE X b gb) : GE X (.BinOp a .FloorDiv b pos) (gBin dDiv ga gb) := e_op op_fdivW rd_div ha hb
theorem e_mod (ha : GE X a ga) (hb : GE X b gb) : GE X (.BinOp a .Mod b pos) (gBin dMod ga gb) := e_op op_mod rd_mod ha hb
theorem e_pow (ha : GE X a ga) (hb : GE X b gb) : GE X (.BinOp a .Pow b pos) (gBin dPow ga gb) := e_op op_pow rd_pow ha hb
abbrev dLt := dCmp fun i j => decide (i < j)
abbrev dLe := dCmp fun i j => decide (i ≤ j)
abbrev dGt := dCmp fun i j => decide (j < i)
abbrev dGe := dCmp fun i j => decide (j ≤ i)
theorem e_lt (ha : GE X a ga) (hb : GE X b gb) : GE X (.Compare a [.Lt] [b] pos) (gBin dLt ga gb) := e_cmpR op_lt (rd_cmp _) (nomark _) ha hb
theorem e_ge (ha : GE X a ga) (hb : GE X b gb) : GE X (.Compare a [.GtE] [b] pos) (gBin dGe ga gb) := e_cmpR op_ge (rd_cmp _) (nomark _) ha hb
theorem e_eq (hu : X.A.units + 64 < cLine) (ha : GE X a ga) (hb : GE X b gb) : GE X (.Compare a [.Eq] [b] pos) (gBin dEq ga gb) := e_cmpR (op_eqAny hu) rd_eq (nomark _) ha hb
theorem e_ne (hu : X.A.units + 64 < cLine) (ha : GE X a ga) (hb : GE X b gb) : GE X (.Compare a [.NotEq] [b] pos) (gBin dNe ga gb) := e_cmpR (op_neAny hu) rd_ne (nomark _) ha hb
theorem t_gt (ha : GE X a ga) (hb : GE X b gb) : GT X (.Compare a [.Gt] [b] pos) (gB (gBin dGt ga gb)) := t_cmpR op_gt (rd_cmp _) (nomark _) ha hb
theorem t_ge (ha : GE X a ga) (hb : GE X b gb) : GT X (.Compare a [.GtE] [b] pos) (gB (gBin dGe ga gb)) := t_cmpR op_ge (rd_cmp _) (nomark _) ha hb
theorem t_eq (hu : X.A.units + 64 < cLine) (ha : GE X a ga) (hb : GE X b gb) : GT X (.Compare a [.Eq] [b] pos) (gB (gBin dEq ga gb)) := t_cmpR (op_eqAny hu) rd_eq (nomark _) ha hb
theorem t_ne (hu : X.A.units + 64 < cLine) (ha : GE X a ga) (hb : GE X b gb) : GT X (.Compare a [.NotEq] [b] pos) (gB (gBin dNe ga gb)) := t_cmpR (op_neAny hu) rd_ne (nomark _) ha hb
/-! ### and, or, not, if -/
def gAnd (g h : M Bool) : M Bool := fun S => (g S).bind fun p => if p.1 = true then h p.2 else some (false, p.2)
def gOr (g h : M Bool) : M Bool := fun S => (g S).bind fun p => if p.1 = true then some (true, p.2) else h p.2
def gNot (g : M Bool) : M Bool := fun S => (g S).bind fun p => some (!p.1, p.2)
def gIf (t : M Bool) (g h : M D) : M D := fun S => (t S).bind fun p => if p.1 = true then g p.2 else h p.2
variable {rest : List Expr} {g h : M Bool}
theorem w_or1 (ha : GT X a g) : GW X (.BoolOp .Or [a] pos) g := let ⟨_, pa, ra⟩ := ha.ex; ⟨_, pw_or1 pa, ra⟩
theorem rd_or {K : PySem.W.Frag} {t u : TT} (ha : RdT K t g) (hb : RdT K u h) : RdT K (tOr t u) (gOr g h) := by
  intro A F H S σ d S' Q k e post
  obtain ⟨⟨x, S1⟩, h1, e⟩ := bind_inv e
  refine ha A F H S σ x S1 _ k h1 fun A1 F1 H1 p1 s1 k1 => ?_
  cases x with
  | false => exact hb A1 F1 H1 S1 σ d S' Q k1 e fun A2 F2 H2 p2 s2 k2 => post A2 F2 H2 (p1.trans p2) (s1.trans s2) k2
  | true =>
    cases e
    exact post A1 F1 H1 p1 s1 k1
theorem w_or (ha : GT X a g) (hb : GW X (.BoolOp .Or (b :: rest) pos) h) : GW X (.BoolOp .Or (a :: b :: rest) pos) (gOr g h) :=
  let ⟨_, pa, ra⟩ := ha.ex; let ⟨_, pb, rb⟩ := hb.ex; ⟨_, pw_or pa pb, rd_or ra rb⟩
theorem t_w {e : Expr} (hw : GW X e g) : GT X e g := let ⟨_, pa, ra⟩ := hw.ex; ⟨_, pa.pt, ra⟩
theorem t_not (ha : GT X a g) : GT X (.UnaryOp .Not a pos) (gNot g) := by
  obtain ⟨t, pa, ra⟩ := ha.ex
  refine ⟨_, pt_not pa, fun A F H S σ d S' Q k e post => ?_⟩
  obtain ⟨⟨x, S1⟩, h1, e⟩ := bind_inv e
  cases e
  exact ra A F H S σ x _ _ k h1 post
/-- as values -/
def gAndV (g h : M D) : M D := fun S => (g S).bind fun p => match p.1 with
  | .bool true => h p.2
  | .bool false => some (.bool false, p.2)
  | _ => none
def gOrV (g h : M D) : M D := fun S => (g S).bind fun p => match p.1 with
  | .bool true => some (.bool true, p.2)
  | .bool false => h p.2
  | _ => none
def gNotV (g : M D) : M D := fun S => (g S).bind fun p => match p.1 with
  | .bool b => some (.bool (!b), p.2)
  | _ => none
theorem e_one {op} (ha : GE X a ga) : GE X (.BoolOp op [a] pos) ga := let ⟨_, pa, ra⟩ := ha.ex; ⟨_, pe_one pa, ra⟩
theorem e_and (ha : GE X a ga) (hb : GE X (.BoolOp .And (b :: rest) pos) gb) : GE X (.BoolOp .And (a :: b :: rest) pos) (gAndV ga gb) := by
  obtain ⟨t, pa, ra⟩ := ha.ex
  obtain ⟨u, pb, rb⟩ := hb.ex
  refine ⟨_, pe_and pa pb, fun A F H S σ d S' Q k e post => ?_⟩
  obtain ⟨⟨x, S1⟩, h1, e⟩ := bind_inv e
  refine ra A F H S σ x S1 _ k h1 fun A1 F1 H1 v p1 s1 k1 r1 => ?_
  cases x <;> simp only at e <;> try cases e
  rename_i y
  cases rp_bool_inv r1
  refine ⟨y, rfl, ?_⟩
  cases y with
  | true => exact rb A1 F1 H1 S1 σ d S' Q k1 e fun A2 F2 H2 v p2 s2 k2 => post A2 F2 H2 v (p1.trans p2) (s1.trans s2) k2
  | false =>
    cases e
    exact post A1 F1 H1 _ p1 s1 k1 (.bl _)
theorem e_not (ha : GE X a ga) : GE X (.UnaryOp .Not a pos) (gNotV ga) := by
  obtain ⟨t, pa, ra⟩ := ha.ex
  refine ⟨_, pe_not pa, fun A F H S σ d S' Q k e post => ?_⟩
  obtain ⟨⟨x, S1⟩, h1, e⟩ := bind_inv e
  refine ra A F H S σ x S1 _ k h1 fun A1 F1 H1 v p1 s1 k1 r1 => ?_
  cases x <;> simp only at e <;> try cases e
  cases rp_bool_inv r1
  exact ⟨_, rfl, post A1 F1 H1 _ p1 s1 k1 (.bl _)⟩
theorem e_if (hc : GT X c g) (ha : GE X a ga) (hb : GE X b gb) : GE X (.IfExp c a b pos) (gIf g ga gb) := by
  obtain ⟨t, pc, rc⟩ := hc.ex
  obtain ⟨_, pa, ra⟩ := ha.ex
  obtain ⟨_, pb, rb⟩ := hb.ex
  refine ⟨_, pe_ifExp pc pa pb, fun A F H S σ d S' Q k e post => ?_⟩
  obtain ⟨⟨x, S1⟩, h1, e⟩ := bind_inv e
  refine rc A F H S σ x S1 _ k h1 fun A1 F1 H1 p1 s1 k1 => ?_
  cases x with
  | true => exact ra A1 F1 H1 S1 σ d S' Q k1 e fun A2 F2 H2 v p2 s2 k2 => post A2 F2 H2 v (p1.trans p2) (s1.trans s2) k2
  | false => exact rb A1 F1 H1 S1 σ d S' Q k1 e fun A2 F2 H2 v p2 s2 k2 => post A2 F2 H2 v (p1.trans p2) (s1.trans s2) k2
def gUn (f : D → Option D) (g : M D) : M D := fun S => (g S).bind fun p => (f p.1).bind fun z => some (z, p.2)
def dNeg : D → Option D
  | .int i => some (.int (-i))
  | _ => none
theorem e_neg (ha : GE X a ga) : GE X (.UnaryOp .USub a pos) (gUn dNeg ga) := by
  obtain ⟨t, pa, ra⟩ := ha.ex
  refine ⟨_, pe_un un_neg pa, fun A F H S σ d S' Q k e post => ?_⟩
  obtain ⟨⟨x, S1⟩, h1, e⟩ := bind_inv e
  obtain ⟨z, h2, e⟩ := bind_inv e
  cases e
  refine ra A F H S σ x _ _ k h1 fun A1 F1 H1 v p1 s1 k1 r1 => ?_
  cases x <;> simp only [dNeg] at h2 <;> cases h2
  cases rp_int_inv r1
  exact ⟨_, rfl, post A1 F1 H1 _ p1 s1 k1 (.int _)⟩

/-! ### arguments, displays -/
def gNil : M (List D) := fun S => some ([], S)
def gCons (g : M D) (gs : M (List D)) : M (List D) := fun S => (g S).bind fun p => (gs p.2).bind fun q => some (p.1 :: q.1, q.2)
variable {e : Expr} {es : List Expr} {ge : M D} {gs : M (List D)}
theorem a_nil : GA X [] gNil := ⟨_, pa_nil, fun A F H S σ d S' Q k e post => by cases e; exact post A F H _ (List.prefix_refl _) (Same.refl F) k .nil⟩
theorem a_cons (ha : GE X e ge) (hs : GA X es gs) (hst : starEach (e :: es) X.env = (false, eval e X.env) :: starEach es X.env := by rfl) : GA X (e :: es) (gCons ge gs) := by
  obtain ⟨t, pa, ra⟩ := ha.ex
  obtain ⟨u, pb, rb⟩ := hs.ex
  refine ⟨_, pa_cons pa pb hst, fun A F H S σ d S' Q k e post => ?_⟩
  obtain ⟨⟨x, S1⟩, h1, e⟩ := bind_inv e
  obtain ⟨⟨y, S2⟩, h2, e⟩ := bind_inv e
  cases e
  refine ra A F H S σ x S1 _ k h1 fun A1 F1 H1 v p1 s1 k1 r1 => rb A1 F1 H1 S1 σ y S2 _ k1 h2 fun A2 F2 H2 vs p2 s2 k2 r2 => ?_
  exact post A2 F2 H2 _ (p1.trans p2) (s1.trans s2) k2 (.cons (r1.mono s2 _ _) r2)
def gTup (g : M (List D)) : M D := fun S => (g S).bind fun p => if p.1.length ≤ sizeLine then some (.tuple p.1, p.2) else none
def gLst (g : M (List D)) : M D := fun S => (g S).bind fun p => if p.1.length ≤ sizeLine then some (.list p.1, p.2) else none
theorem e_tup {x1} (hs : GA X es gs) : GE X (.Tuple es x1 pos) (gTup gs) := by
  obtain ⟨u, pb, rb⟩ := hs.ex
  refine ⟨_, pe_tup pb, fun A F H S σ d S' Q k e post => ?_⟩
  obtain ⟨⟨x, S1⟩, h1, e⟩ := bind_inv e
  simp only at e
  split at e
  · rename_i hz
    cases e
    refine rb A F H S σ x _ _ k h1 fun A1 F1 H1 vs p1 s1 k1 r1 => ⟨by rw [r1.length]; exact hz, fun p hp => ?_⟩
    obtain ⟨s2, k2, r2⟩ := k1.newTup hp r1 hz
    exact post A1 _ _ _ p1 (s1.trans s2) k2 r2
  · cases e
theorem e_lst (hs : GA X es gs) : GE X (.List es pos) (gLst gs) := by
  obtain ⟨u, pb, rb⟩ := hs.ex
  refine ⟨_, pe_lst pb, fun A F H S σ d S' Q k e post => ?_⟩
  obtain ⟨⟨x, S1⟩, h1, e⟩ := bind_inv e
  simp only at e
  split at e
  · rename_i hz
    cases e
    refine rb A F H S σ x _ _ k h1 fun A1 F1 H1 vs p1 s1 k1 r1 => ⟨by rw [r1.length]; exact hz, fun p hp => ?_⟩
    obtain ⟨s2, k2, r2⟩ := k1.newList hp r1 hz
    exact post A1 _ _ _ p1 (s1.trans s2) k2 r2
  · cases e

/-! ### items, slices -/
def dIx : D → D → Option D
  | .list xs, .int i => atI xs i
  | .tuple xs, .int i => atI xs i
  | .str z, .int i => (atI z.cps.toList i).bind fun c => some (.str ⟨#[c]⟩)
  | _, _ => none
theorem rps_atI {K : PySem.W.Frag} {F : Hp} {vs : List V} {ds : List D} {i : Int} {d : D} (r : Rps K F vs ds) (h : atI ds i = some d) : ∃ v, atI vs i = some v ∧ Rp K F v d := by
  unfold atI at h ⊢
  rw [r.length]
  obtain ⟨j, h1, h2⟩ := bind_inv h
  rw [h1]
  exact r.get h2
def rIxAny (K : PySem.W.Frag) : R2 := fun x y H Q => rIxL K x y H Q ∨ rIxT K x y H Q ∨ rIxS x y H Q
theorem ix_any : IxR X (rIxAny X.K) := IxR.or ix_list (IxR.or ix_tup ix_str)
theorem one_len (c : Nat) : (⟨#[c]⟩ : Str).length ≤ sizeLine := by
  show 1 ≤ sizeLine
  decide
theorem rd_ix {K : PySem.W.Frag} : RdOp K (rIxAny K) dIx := by
  intro A F H S σ x y d e z Q k rx ry h post
  unfold dIx at h
  split at h
  · obtain ⟨a, xs, rfl, h1, h2, _⟩ := rp_list_inv rx
    cases rp_int_inv ry
    obtain ⟨v, e1, r⟩ := rps_atI h2 h
    exact .inl ⟨a, xs, _, v, rfl, rfl, SqL.of (k.sub.same _ _ h1), e1, post F H _ (Same.refl F) k r⟩
  · obtain ⟨a, xs, rfl, h1, h2, _⟩ := rp_tup_inv rx
    cases rp_int_inv ry
    obtain ⟨v, e1, r⟩ := rps_atI h2 h
    exact .inr (.inl ⟨a, xs, _, v, rfl, rfl, sqT_same k.sub.same h1, e1, post F H _ (Same.refl F) k r⟩)
  · obtain ⟨rfl, hz⟩ := rp_str_inv rx
    cases rp_int_inv ry
    obtain ⟨c, h1, h2⟩ := bind_inv h
    cases h2
    exact .inr (.inr ⟨_, _, c, rfl, rfl, hz, h1, post F H _ (Same.refl F) k (.str (one_len c))⟩)
  · cases h
theorem e_ix (ha : GE X a ga) (hb : GE X b gb) (hs : PlainIx b := by exact fun _ _ => rfl) : GE X (.Subscript a b pos) (gBin dIx ga gb) := by
  obtain ⟨t, pa, ra⟩ := ha.ex
  obtain ⟨u, pb, rb⟩ := hb.ex
  exact ⟨_, pe_ix ix_any pa pb hs, rd_op rd_ix ra rb⟩
/-- a slice's part -/
structure GO (X : Cx) (e : Option Expr) (g : M (Option Int)) : Prop where
  ex : ∃ t, PO X e t ∧ ∀ A F H S σ o S' (Q : Option Int → Hp → Prop), Ok X.K A F H S σ → g S = some (o, S') → (∀ A' F' H', A <+: A' → Same F F' → Ok X.K A' F' H' S' σ → Q o H') → t σ H Q
def gNo : M (Option Int) := fun S => some (none, S)
def gSo (g : M D) : M (Option Int) := fun S => (g S).bind fun p => match p.1 with
  | .int i => some (some i, p.2)
  | _ => none
theorem o_none : GO X none gNo := ⟨_, po_none, fun A F H S σ o S' Q k e post => by cases e; exact post A F H (List.prefix_refl _) (Same.refl F) k⟩
theorem o_some (ha : GE X a ga) : GO X (some a) (gSo ga) := by
  obtain ⟨t, pa, ra⟩ := ha.ex
  refine ⟨_, po_some pa, fun A F H S σ o S' Q k e post => ?_⟩
  obtain ⟨⟨x, S1⟩, h1, e⟩ := bind_inv e
  refine ra A F H S σ x _ _ k h1 fun A1 F1 H1 v p1 s1 k1 r1 => ?_
  cases x <;> simp only at e <;> cases e
  cases rp_int_inv r1
  exact ⟨_, rfl, post A1 F1 H1 p1 s1 k1⟩
def cutL {α : Type} (xs : List α) (lo hi : Option Int) : List α := (xs.drop (HT.sIx xs.length 0 lo)).take (HT.sIx xs.length xs.length hi - HT.sIx xs.length 0 lo)
theorem cutL_le {α : Type} (xs : List α) (lo hi : Option Int) : (cutL xs lo hi).length ≤ xs.length := by
  unfold cutL
  rw [List.length_take, List.length_drop]
  omega
def dSl : D → Option Int → Option Int → Option D
  | .list xs, lo, hi => some (.list (cutL xs lo hi))
  | .tuple xs, lo, hi => some (.tuple (cutL xs lo hi))
  | .str z, lo, hi => some (.str (cutS z lo hi))
  | _, _, _ => none
def gSl (g : M D) (gl gh : M (Option Int)) : M D := fun S => (g S).bind fun p => (gl p.2).bind fun q => (gh q.2).bind fun r => (dSl p.1 q.1 r.1).bind fun z => some (z, r.2)
def rSlAny (K : PySem.W.Frag) : V → Option Int → Option Int → Hp → VK → Prop := fun x lo hi H Q => rSlL K x lo hi H Q ∨ rSlA K x lo hi H Q ∨ rSlS x lo hi H Q
theorem sl_any : SlR X (rSlAny X.K) := SlR.or sl_list (SlR.or sl_tupA sl_str)
theorem rps_cut {K : PySem.W.Frag} {F : Hp} {vs : List V} {ds : List D} (r : Rps K F vs ds) (lo hi : Option Int) : Rps K F (cutV vs lo hi) (cutL ds lo hi) := by
  unfold cutV cutL
  rw [r.length]
  exact (r.drop _).take _
theorem rd_sl {K : PySem.W.Frag} {A : List Addr} {F H : Hp} {S : Sx} {σ : L2.St} {x : V} {d z : D} {lo hi : Option Int} {Q : VK} (k : Ok K A F H S σ) (rx : Rp K F x d) (h : dSl d lo hi = some z)
    (post : ∀ F' H' v, Same F F' → Ok K A F' H' S σ → Rp K F' v z → Q v H') : rSlAny K x lo hi H Q := by
  cases d <;> simp only [dSl] at h <;> cases h
  · obtain ⟨rfl, hz⟩ := rp_str_inv rx
    exact .inr (.inr ⟨_, rfl, hz, post F H _ (Same.refl F) k (.str (Nat.le_trans (cutS_length _ _ _) hz))⟩)
  · obtain ⟨a, xs, rfl, h1, h2, h3⟩ := rp_list_inv rx
    refine .inl ⟨a, xs, rfl, SqL.of (k.sub.same _ _ h1), fun p hp => ?_⟩
    obtain ⟨s1, k1, r1⟩ := k.newList hp (rps_cut h2 lo hi) (Nat.le_trans (cutL_le _ _ _) h3)
    exact post _ _ _ s1 k1 r1
  · obtain ⟨a, xs, rfl, h1, h2, h3⟩ := rp_tup_inv rx
    refine .inr (.inl ⟨a, xs, rfl, sqT_same k.sub.same h1, fun hw => ?_, fun _ p hp => ?_⟩)
    · refine post F H _ (Same.refl F) k ?_
      rename_i ds
      have : cutL ds lo hi = ds := by
        unfold cutL
        rw [← h2.length, hw.1, hw.2, h2.length]
        simp
      rw [this]
      exact rx
    · obtain ⟨s1, k1, r1⟩ := k.newTup hp (rps_cut h2 lo hi) (Nat.le_trans (cutL_le _ _ _) h3)
      exact post _ _ _ s1 k1 r1
theorem e_sl {lo hi : Option Expr} {p2 : Pos} {gl gh : M (Option Int)} (ha : GE X a ga) (hl : GO X lo gl) (hh : GO X hi gh) : GE X (.Subscript a (.Slice lo hi none p2) pos) (gSl ga gl gh) := by
  obtain ⟨t, pa, ra⟩ := ha.ex
  obtain ⟨_, pl, rl⟩ := hl.ex
  obtain ⟨_, ph, rh⟩ := hh.ex
  refine ⟨_, pe_slice sl_any pa pl ph, fun A F H S σ d S' Q k e post => ?_⟩
  obtain ⟨⟨x, S1⟩, h1, e⟩ := bind_inv e
  obtain ⟨⟨l, S2⟩, h2, e⟩ := bind_inv e
  obtain ⟨⟨u, S3⟩, h3, e⟩ := bind_inv e
  obtain ⟨z, h4, e⟩ := bind_inv e
  cases e
  refine ra A F H S σ x _ _ k h1 fun A1 F1 H1 v p1 s1 k1 r1 => rl A1 F1 H1 _ σ l _ _ k1 h2 fun A2 F2 H2 p2 s2 k2 => rh A2 F2 H2 _ σ u _ _ k2 h3 fun A3 F3 H3 p3 s3 k3 => ?_
  exact rd_sl k3 ((r1.mono s2 _ _).mono s3 _ _) h4 fun F4 H4 w s4 k4 r4 => post A3 F4 H4 w (p1.trans (p2.trans p3)) (s1.trans (s2.trans (s3.trans s4))) k4 r4
end
end Fu

set_option maxHeartbeats 4000000
namespace Fu
open PySem PySem.Spec PyProof.Rows L2

/-! ### calls of built-ins by name -/
def RdC (K : PySem.W.Frag) (r : List V → Hp → VK → Prop) (f : List D → Option D) : Prop := ∀ A F H S σ xs ds z Q, Ok K A F H S σ → Rps K F xs ds → f ds = some z →
  (∀ F' H' v, Same F F' → Ok K A F' H' S σ → Rp K F' v z → Q v H') → r xs H Q
def gCall (f : List D → Option D) (g : M (List D)) : M D := fun S => (g S).bind fun p => (f p.1).bind fun z => some (z, p.2)
section
variable {X : Cx} {pos p p2 : Pos} {x : Str} {e : Expr} {es : List Expr} {gs : M (List D)} {r : List V → Hp → VK → Prop} {f : List D → Option D} {id T : String}
theorem rd_callB {K : PySem.W.Frag} {t : TA} (hf : RdC K r f) (rs : RdA K t gs) : RdE K (tCB r t) (gCall f gs) := by
  intro A F H S σ d S' Q k h post
  obtain ⟨⟨ds, S1⟩, h1, h⟩ := bind_inv h
  obtain ⟨z, h2, h⟩ := bind_inv h
  cases h
  exact rs A F H S σ ds _ _ k h1 fun A1 F1 H1 vs p1 s1 k1 r1 => hf A1 F1 H1 _ σ vs ds _ Q k1 r1 h2 fun F2 H2 v s2 k2 r2 => post A1 F2 H2 v p1 (s1.trans s2) k2 r2
theorem e_callB (hc : CallR X (.builtin id) r) (hf : RdC X.K r f) (hm : X.mg x = none) (hv : bootBuiltins x = some (.builtin id)) (ha : GA X (e :: es) gs) (hg : Gl X x := by rfl) (hn : x ≠ "__name__" := by decide) (hdb : (x == ("__debug__" : Str)) = false := by decide)
    (he : starEach (e :: es) X.env = (false, eval e X.env) :: starEach es X.env := by rfl) (hpl : (backTo pos (starEach es X.env)).any (·.1) = false := by rfl) : GE X (.Call (.Name x p) (e :: es) [] pos) (gCall f gs) :=
  let ⟨_, pa, ra⟩ := ha.ex; ⟨_, pe_callB hc hg hm hv pa hn hdb he hpl, rd_callB hf ra⟩
theorem e_callTy (hc : CallR X (.type T) r) (hf : RdC X.K r f) (hm : X.mg x = none) (hv : bootBuiltins x = some (.type T)) (ha : GA X (e :: es) gs) (hg : Gl X x := by rfl) (hn : x ≠ "__name__" := by decide) (hdb : (x == ("__debug__" : Str)) = false := by decide)
    (he : starEach (e :: es) X.env = (false, eval e X.env) :: starEach es X.env := by rfl) (hpl : (backTo pos (starEach es X.env)).any (·.1) = false := by rfl) : GE X (.Call (.Name x p) (e :: es) [] pos) (gCall f gs) :=
  let ⟨_, pa, ra⟩ := ha.ex; ⟨_, pe_callTy hc hg hm hv pa hn hdb he hpl, rd_callB hf ra⟩
end

section
variable {K : PySem.W.Frag}
theorem rps1 {F : Hp} {vs : List V} {d : D} (r : Rps K F vs [d]) : ∃ v, vs = [v] ∧ Rp K F v d := by
  cases r with
  | cons h1 h2 => cases h2; exact ⟨_, rfl, h1⟩
theorem rps2 {F : Hp} {vs : List V} {d e : D} (r : Rps K F vs [d, e]) : ∃ v u, vs = [v, u] ∧ Rp K F v d ∧ Rp K F u e := by
  cases r with
  | cons h1 h2 => cases h2 with
    | cons h3 h4 => cases h4; exact ⟨_, _, rfl, h1, h3⟩
def dLen : List D → Option D
  | [.list xs] => some (.int xs.length)
  | [.tuple xs] => some (.int xs.length)
  | [.str x] => some (.int x.length)
  | _ => none
theorem rd_len : RdC K (fun xs H Q => ∃ x n, xs = [x] ∧ LenV K x H n ∧ Q (.int n) H) dLen := by
  intro A F H S σ xs ds z Q k r h post
  unfold dLen at h
  split at h <;> cases h
  · obtain ⟨v, rfl, rv⟩ := rps1 r
    obtain ⟨a, vs, rfl, h1, h2, _⟩ := rp_list_inv rv
    exact ⟨_, _, rfl, .inl ⟨vs, SqL.of (k.sub.same _ _ h1), h2.length.symm⟩, post F H _ (Same.refl F) k (.int _)⟩
  · obtain ⟨v, rfl, rv⟩ := rps1 r
    obtain ⟨a, vs, rfl, h1, h2, _⟩ := rp_tup_inv rv
    exact ⟨_, _, rfl, .inr ⟨vs, sqT_same k.sub.same h1, h2.length.symm⟩, post F H _ (Same.refl F) k (.int _)⟩
  · obtain ⟨v, rfl, rv⟩ := rps1 r
    obtain ⟨rfl, hz⟩ := rp_str_inv rv
    exact ⟨_, _, rfl, ⟨hz, rfl⟩, post F H _ (Same.refl F) k (.int _)⟩
def dInt : List D → Option D
  | [.int i] => some (.int i)
  | [.bool b] => some (.int (if b then 1 else 0))
  | _ => none
def dAbs : List D → Option D
  | [.int i] => some (.int (if i < 0 then -i else i))
  | _ => none
theorem rd_abs : RdC K (fun xs H Q => ∃ i, xs = [.int i] ∧ Q (.int (if i < 0 then -i else i)) H) dAbs := by
  intro A F H S σ xs ds z Q k r h post
  unfold dAbs at h
  split at h <;> cases h
  obtain ⟨v, rfl, rv⟩ := rps1 r
  cases rp_int_inv rv
  exact ⟨_, rfl, post F H _ (Same.refl F) k (.int _)⟩
def dMax2 : List D → Option D
  | [.int i, .int j] => some (.int (if j > i then j else i))
  | _ => none
def dMin2 : List D → Option D
  | [.int i, .int j] => some (.int (if j < i then j else i))
  | _ => none
theorem rd_min2 : RdC K (fun xs H Q => ∃ i j, xs = [.int i, .int j] ∧ Q (.int (if j < i then j else i)) H) dMin2 := by
  intro A F H S σ xs ds z Q k r h post
  unfold dMin2 at h
  split at h <;> cases h
  obtain ⟨v, u, rfl, rv, ru⟩ := rps2 r
  cases rp_int_inv rv; cases rp_int_inv ru
  exact ⟨_, _, rfl, post F H _ (Same.refl F) k (.int _)⟩
def dList : List D → Option D
  | [.list xs] => some (.list xs)
  | [.tuple xs] => some (.list xs)
  | _ => none
def dTuple : List D → Option D
  | [.list xs] => some (.tuple xs)
  | [.tuple xs] => some (.tuple xs)
  | _ => none
theorem rd_tuple : RdC K (fun xs H Q => ∃ p ys, xs = [.ref p] ∧ ((SqL K H p ys ∧ ∀ l, H l = none → Q (.ref l) (upd H l (.tup ys))) ∨ (SqT K H p ys ∧ Q (.ref p) H))) dTuple := by
  intro A F H S σ xs ds z Q k r h post
  unfold dTuple at h
  split at h <;> cases h
  · obtain ⟨v, rfl, rv⟩ := rps1 r
    obtain ⟨a, vs, rfl, h1, h2, h3⟩ := rp_list_inv rv
    refine ⟨_, _, rfl, .inl ⟨SqL.of (k.sub.same _ _ h1), fun l hl => ?_⟩⟩
    obtain ⟨s1, k1, r1⟩ := k.newTup hl h2 h3
    exact post _ _ _ s1 k1 r1
  · obtain ⟨v, rfl, rv⟩ := rps1 r
    obtain ⟨a, vs, rfl, h1, h2, h3⟩ := rp_tup_inv rv
    exact ⟨_, _, rfl, .inr ⟨sqT_same k.sub.same h1, post F H _ (Same.refl F) k rv⟩⟩
/-- all items are truths -/
def allBools : List D → Option (List Bool)
  | [] => some []
  | .bool b :: ds => (allBools ds).bind fun bs => some (b :: bs)
  | _ => none
theorem allBools_map : ∀ {ds : List D} {bs : List Bool}, allBools ds = some bs → ds = bs.map .bool
  | [], _, h => by cases h; rfl
  | .bool b :: ds, _, h => by
    obtain ⟨bs, h1, h2⟩ := bind_inv h
    cases h2
    rw [List.map_cons, allBools_map h1]
  | .none :: _, _, h => by simp [allBools] at h
  | .int _ :: _, _, h => by simp [allBools] at h
  | .str _ :: _, _, h => by simp [allBools] at h
  | .list _ :: _, _, h => by simp [allBools] at h
  | .tuple _ :: _, _, h => by simp [allBools] at h
  | .dict _ :: _, _, h => by simp [allBools] at h
theorem rps_bools {F : Hp} : ∀ {vs : List V} {bs : List Bool}, Rps K F vs (bs.map .bool) → vs = bs.map V.bl
  | _, [], h => by cases h; rfl
  | _, b :: bs, h => by
    cases h with
    | cons h1 h2 => rw [rp_bool_inv h1, rps_bools h2]; rfl
def dAll : List D → Option D
  | [.list xs] => (allBools xs).bind fun bs => some (.bool (bs.all id))
  | _ => none
theorem rd_all : RdC K (rAll K) dAll := by
  intro A F H S σ xs ds z Q k r h post
  unfold dAll at h
  split at h
  · obtain ⟨bs, h1, h2⟩ := bind_inv h
    cases h2
    obtain ⟨v, rfl, rv⟩ := rps1 r
    obtain ⟨a, vs, rfl, g1, g2, g3⟩ := rp_list_inv rv
    rw [allBools_map h1] at g2
    rw [rps_bools g2] at g1
    exact ⟨a, bs, rfl, SqL.of (k.sub.same _ _ g1), post F H _ (Same.refl F) k (.bl _)⟩
  · cases h
end
section
variable {X : Cx} {pos p p2 : Pos} {e : Expr} {es : List Expr} {gs : M (List D)}
theorem e_len (hm : X.mg "len" = none) (ha : GA X [e] gs) (hg : Gl X "len" := by rfl) (he : starEach [e] X.env = (false, eval e X.env) :: starEach [] X.env := by rfl) : GE X (.Call (.Name "len" p) [e] [] pos) (gCall dLen gs) :=
  e_callB call_len rd_len hm PySem.boot_len ha hg (he := he) (hpl := by rfl)
theorem e_abs (hm : X.mg "abs" = none) (ha : GA X [e] gs) (hg : Gl X "abs" := by rfl) (he : starEach [e] X.env = (false, eval e X.env) :: starEach [] X.env := by rfl) : GE X (.Call (.Name "abs" p) [e] [] pos) (gCall dAbs gs) :=
  e_callB call_abs rd_abs hm (by decide +kernel) ha hg (he := he) (hpl := by rfl)
theorem e_tuple (hm : X.mg "tuple" = none) (ha : GA X [e] gs) (hg : Gl X "tuple" := by rfl) (he : starEach [e] X.env = (false, eval e X.env) :: starEach [] X.env := by rfl) : GE X (.Call (.Name "tuple" p) [e] [] pos) (gCall dTuple gs) :=
  e_callTy call_tuple_of rd_tuple hm (by decide +kernel) ha hg (he := he) (hpl := by rfl)
theorem e_all (hm : X.mg "all" = none) (ha : GA X [e] gs) (hc : X.calm = true := by rfl) (hg : Gl X "all" := by rfl) (he : starEach [e] X.env = (false, eval e X.env) :: starEach [] X.env := by rfl) : GE X (.Call (.Name "all" p) [e] [] pos) (gCall dAll gs) :=
  e_callB (cr_all hc) rd_all hm (by decide +kernel) ha hg (he := he) (hpl := by rfl)
variable {e2 : Expr}
theorem e_min2 (hm : X.mg "min" = none) (ha : GA X [e, e2] gs) (hc : X.calm = true := by rfl) (hg : Gl X "min" := by rfl) (he : starEach [e, e2] X.env = (false, eval e X.env) :: starEach [e2] X.env := by rfl) (hpl : (backTo pos (starEach [e2] X.env)).any (·.1) = false := by rfl) :
    GE X (.Call (.Name "min" p) [e, e2] [] pos) (gCall dMin2 gs) := e_callB (call_min2 hc) rd_min2 hm (by decide +kernel) ha hg (he := he) (hpl := hpl)
end

/-! ### isinstance -/
def dTy : D → String
  | .none => "NoneType"
  | .bool _ => "bool"
  | .int _ => "int"
  | .str _ => "str"
  | .list _ => "list"
  | .tuple _ => "tuple"
  | .dict _ => "dict"
def isT (T : String) (d : D) : Bool := (dTy d == T) || (T == "int" && dTy d == "bool")
theorem kit_int (d : D) : kitB (dTy d) "int" = some (isT "int" d) := by cases d <;> simp only [dTy, isT] <;> decide +kernel
theorem kit_bool (d : D) : kitB (dTy d) "bool" = some (isT "bool" d) := by cases d <;> simp only [dTy, isT] <;> decide +kernel
theorem kit_list (d : D) : kitB (dTy d) "list" = some (isT "list" d) := by cases d <;> simp only [dTy, isT] <;> decide +kernel
theorem kit_tuple (d : D) : kitB (dTy d) "tuple" = some (isT "tuple" d) := by cases d <;> simp only [dTy, isT] <;> decide +kernel
theorem rp_ty {K : PySem.W.Frag} {F H : Hp} {v : V} {d : D} (s : Same F H) (r : Rp K F v d) : TyX K H v (.type (dTy d)) := by
  cases r with
  | non => exact .base .non
  | bl b => exact .base (.bl b)
  | int i => exact .base (.int i)
  | str _ => exact .base (.str _)
  | lst h1 _ _ => exact .base (.lst (s _ _ h1))
  | tup h1 _ _ =>
    rcases sqT_same s h1 with (h | ⟨o, h⟩) | ⟨o, its, n, h, hc, _⟩
    · exact .base (.tup h)
    · exact .fTuple h
    · exact .kTuple h hc
  | dct h _ =>
    rcases h with ⟨es, h⟩ | ⟨es, h⟩
    · exact .base (.dK (s _ _ h))
    · exact .base (.dT (s _ _ h))
section
variable {X : Cx} {pos p p2 p3 p4 : Pos} {e : Expr} {g : M D} {x y : Str} {T U : String}
def gIsi (T : String) (g : M D) : M D := fun S => (g S).bind fun p => some (.bool (isT T p.1), p.2)
def gIsi2 (T U : String) (g : M D) : M D := fun S => (g S).bind fun p => some (.bool (isT T p.1 || isT U p.1), p.2)
theorem e_isi (hm : X.mg "isinstance" = none) (hmx : X.mg x = none) (hv : bootBuiltins x = some (.type T)) (kt : ∀ d, kitB (dTy d) T = some (isT T d)) (ha : GE X e g) (hg : Gl X "isinstance" := by rfl) (hgx : Gl X x := by rfl)
    (hnx : x ≠ "__name__" := by decide) (hdx : (x == ("__debug__" : Str)) = false := by decide)
    (he : starEach [e, .Name x p2] X.env = (false, eval e X.env) :: starEach [.Name x p2] X.env := by rfl) (he2 : starEach [.Name x p2] X.env = (false, eval (.Name x p2) X.env) :: starEach [] X.env := by rfl)
    (hpl : (backTo pos (starEach [.Name x p2] X.env)).any (·.1) = false := by rfl) :
    GE X (.Call (.Name "isinstance" p) [e, .Name x p2] [] pos) (gIsi T g) := by
  obtain ⟨t, pa, ra⟩ := ha.ex
  refine ⟨_, pe_callB call_isi hg hm (by decide +kernel) (pa_cons pa (pa_cons (pe_bltn (v := .ty T) hgx hmx hv rfl hnx hdx) pa_nil he2) he) (by decide) (by decide) he hpl, fun A F H S σ d S' Q k h post => ?_⟩
  obtain ⟨⟨d1, S1⟩, h1, h⟩ := bind_inv h
  cases h
  refine ra A F H S σ d1 _ _ k h1 fun A1 F1 H1 v p1 s1 k1 r1 => ?_
  exact ⟨v, .ty T, _, _, _, rfl, .ty T, rp_ty k1.sub.same r1, kit_ty (kt d1), post A1 F1 H1 _ p1 s1 k1 (.bl _)⟩
theorem e_isi2 {kx} (hm : X.mg "isinstance" = none) (hmx : X.mg x = none) (hv : bootBuiltins x = some (.type T)) (kt : ∀ d, kitB (dTy d) T = some (isT T d)) (hmy : X.mg y = none) (hw : bootBuiltins y = some (.type U)) (ku : ∀ d, kitB (dTy d) U = some (isT U d))
    (ha : GE X e g) (hg : Gl X "isinstance" := by rfl) (hgx : Gl X x := by rfl) (hgy : Gl X y := by rfl)
    (hnx : x ≠ "__name__" := by decide) (hdx : (x == ("__debug__" : Str)) = false := by decide) (hny : y ≠ "__name__" := by decide) (hdy : (y == ("__debug__" : Str)) = false := by decide)
    (he : starEach [e, .Tuple [.Name x p2, .Name y p3] kx p4] X.env = (false, eval e X.env) :: starEach [.Tuple [.Name x p2, .Name y p3] kx p4] X.env := by rfl)
    (he2 : starEach [.Tuple [.Name x p2, .Name y p3] kx p4] X.env = (false, eval (.Tuple [.Name x p2, .Name y p3] kx p4) X.env) :: starEach [] X.env := by rfl)
    (he3 : starEach [.Name x p2, .Name y p3] X.env = (false, eval (.Name x p2) X.env) :: starEach [.Name y p3] X.env := by rfl)
    (he4 : starEach [.Name y p3] X.env = (false, eval (.Name y p3) X.env) :: starEach [] X.env := by rfl)
    (hpl : (backTo pos (starEach [.Tuple [.Name x p2, .Name y p3] kx p4] X.env)).any (·.1) = false := by rfl) :
    GE X (.Call (.Name "isinstance" p) [e, .Tuple [.Name x p2, .Name y p3] kx p4] [] pos) (gIsi2 T U g) := by
  obtain ⟨t, pa, ra⟩ := ha.ex
  refine ⟨_, pe_callB call_isiT hg hm (by decide +kernel) (pa_cons pa (pa_cons (pe_tup (pa_cons (pe_bltn (v := .ty T) hgx hmx hv rfl hnx hdx) (pa_cons (pe_bltn (v := .ty U) hgy hmy hw rfl hny hdy) pa_nil he4) he3)) pa_nil he2) he) (by decide) (by decide) he hpl, fun A F H S σ d S' Q k h post => ?_⟩
  obtain ⟨⟨d1, S1⟩, h1, h⟩ := bind_inv h
  cases h
  refine ra A F H S σ d1 _ _ k h1 fun A1 F1 H1 v p1 s1 k1 r1 => ?_
  refine ⟨by show 2 ≤ sizeLine; decide, fun q hq => ?_⟩
  have k2 := k1.laid (o := .tup [.ty T, .ty U]) hq
  have s2 : Same F1 (upd F1 q (.tup [.ty T, .ty U])) := same_upd (k1.sub.none hq)
  refine ⟨v, q, _, _, _, _, rfl, upd_same, .cons (.ty T) (.cons (.ty U) .nil), rp_ty k2.sub.same (r1.mono s2 _ _), ?_, post A1 _ _ _ p1 (s1.trans s2) k2 (.bl _)⟩
  refine kitAny_cons (kit_ty (kt d1)) (fun e1 => ?_) (fun e1 => by rw [e1]; rfl)
  rw [e1]
  exact kitAny_cons (kit_ty (ku d1)) (fun e2 => by rw [e2]; exact kitAny_nil) (fun e2 => by rw [e2]; rfl)
end

/-! ### the calls of the text's own defs -/
/-- a def that writes nothing that was there: its value by data -/
def spF (K : PySem.W.Frag) (n : Nat) (f : List D → Option D) : Sp := fun vs H Q _ => ∃ ds z, ds.length = n ∧ Rps K H vs ds ∧ f ds = some z ∧ ∀ H' v, Same H H' → Rp K H' v z → Q v H'
theorem spF_len {K : PySem.W.Frag} {n : Nat} {f : List D → Option D} {ps : List Str} (h : ps.length = n) : ∀ vs H Q E, spF K n f vs H Q E → vs.length = ps.length := by
  intro vs H Q E ⟨ds, z, e, r, _⟩
  rw [r.length, e, h]
theorem same_mix {G H G' : Hp} (lost : ∀ b o, H b = some o → G b = none → G' b = none) : Same G' (mixH G H G') := fun b o e => by
  cases q : G b with
  | some u => rw [mix_held q]; exact e
  | none =>
    cases r : H b with
    | none => rw [mix_free r]; exact e
    | some u => rw [lost b u r q] at e; cases e
theorem Ok.mix {K : PySem.W.Frag} {A : List Addr} {F H G' : Hp} {S : Sx} {σ : L2.St} (k : Ok K A F H S σ) (s : Same F G') (lost : ∀ b o, H b = some o → F b = none → G' b = none) : Ok K A G' (mixH F H G') S σ := by
  refine k.grow ⟨same_mix lost, fun b o e n => ?_⟩ s (fun a ha o e => ?_) fun a ha e => ?_
  · cases q : F b with
    | some u => rw [mix_held q, n] at e; cases e
    | none =>
      cases r : H b with
      | none => rw [mix_free r, n] at e; cases e
      | some u => rw [mix_lost q r] at e; cases e; exact k.sub.loose b _ r q
  · cases q : F a with
    | some u =>
      rw [mix_held q]
      have e2 := k.sub.same a u q
      rw [e] at e2; cases e2
      exact s a _ q
    | none => exact mix_lost q e
  · obtain ⟨o, ho⟩ := k.trk a ha
    exact lost a o ho e
def gCallF (n : Nat) (f : List D → Option D) (g : M (List D)) : M D := fun S => (g S).bind fun p => if p.1.length = n then (f p.1).bind fun z => some (z, p.2) else none
section
variable {X : Cx} {pos p p2 : Pos} {x : Str} {e : Expr} {es : List Expr} {gs : M (List D)} {f : List D → Option D} {CX : CXT} {k n : Nat} {fa : Addr} {fd : FuncData} {ps : List Str} {E : XK}
theorem e_call (F : FnOk X.prog X.w X.K X.mg X.base CX k fa fd ps (spF X.K n f)) (hr : Room k X.A) (hm : X.mg x = some (.ref fa)) (hk : PySem.W.keepIn X.K (.ref fa) = true) (hb : L2.Binds X.K fd ps []) (hx : Passes CX X E) (ha : GA X (e :: es) gs)
    (hg : Gl X x := by rfl) (hdb : (x == ("__debug__" : Str)) = false := by decide) (he : starEach (e :: es) X.env = (false, eval e X.env) :: starEach es X.env := by rfl) (hpl : (backTo pos (starEach es X.env)).any (·.1) = false := by rfl) :
    GE X (.Call (.Name x p) (e :: es) [] pos) (gCallF n f gs) := by
  obtain ⟨t, pa, ra⟩ := ha.ex
  refine ⟨_, pe_callF F hr hg hm hk hb .nil hx pa hdb he hpl, fun A F H S σ d S' Q k h post => ?_⟩
  obtain ⟨⟨ds, S1⟩, h1, h⟩ := bind_inv h
  simp only at h
  split at h
  · rename_i hn
    obtain ⟨z, h2, h⟩ := bind_inv h
    cases h
    refine ra A F H S σ ds _ _ k h1 fun A1 F1 H1 vs p1 s1 k1 r1 => ⟨F1, k1.sub, ds, _, hn, by rw [List.append_nil]; exact r1, h2, fun G' v sm rv => ⟨fun b xs q => sm b _ q, fun lost => ?_⟩⟩
    exact post A1 G' _ v p1 (s1.trans sm) (k1.mix sm lost) rv
  · cases h
/-- a def that writes one list that is handed in, the first argument -/
def spIO (K : PySem.W.Frag) (n : Nat) (f : List D → List D → Option (D × List D)) : Sp := fun vs H Q _ => ∃ (a : Addr) (xs : List V) (rest : List V) (F : Hp) (cs ds : List D) (r : D) (cs' : List D), vs = .ref a :: rest ∧ F a = none ∧ H = upd F a (.lst xs) ∧ cs.length ≤ sizeLine ∧
  Rps K F xs cs ∧ Rps K F rest ds ∧ ds.length = n ∧ f cs ds = some (r, cs') ∧ ∀ F' xs' v, Same F F' → F' a = none → Rps K F' xs' cs' → cs'.length ≤ sizeLine → Rp K F' v r → Q v (upd F' a (.lst xs'))
theorem spIO_len {K : PySem.W.Frag} {n : Nat} {f : List D → List D → Option (D × List D)} {ps : List Str} (h : ps.length = n + 1) : ∀ vs H Q E, spIO K n f vs H Q E → vs.length = ps.length := by
  intro vs H Q E ⟨a, xs, rest, F, cs, ds, r, cs', e, _, _, _, _, hr, hn, _⟩
  rw [e, List.length_cons, hr.length, hn, h]
def gIO (i n : Nat) (f : List D → List D → Option (D × List D)) (g : M (List D)) : M D := fun S => match S.sl[i]? with
  | some (some (.own j)) => (g S).bind fun p => match p.2.os[j]? with
    | some (some (.lst cs)) => if p.1.length = n then (f cs p.1).bind fun z => some (z.1, ⟨p.2.sl, p.2.os.set j (some (.lst z.2))⟩) else none
    | _ => none
  | _ => none
theorem prefix_at {α : Type} {A B : List α} {j : Nat} {a : α} (p : A <+: B) (h : A[j]? = some a) : B[j]? = some a := by
  obtain ⟨C, rfl⟩ := p
  rw [List.getElem?_append_left (List.getElem?_eq_some_iff.mp h).1]; exact h
theorem e_callIO {f : List D → List D → Option (D × List D)} {y : Str} {py : Pos} (i : Nat) (F : FnOk X.prog X.w X.K X.mg X.base CX k fa fd ps (spIO X.K n f)) (hr : Room k X.A) (hm : X.mg x = some (.ref fa)) (hk : PySem.W.keepIn X.K (.ref fa) = true) (hb : L2.Binds X.K fd ps []) (hx : Passes CX X E) (ha : GA X es gs)
    (hN : X.N[i]? = some y := by rfl) (hv : Vis X.env.scope y := by first | exact Or.inl rfl | exact Or.inr (Or.inl rfl) | exact Or.inr (Or.inr rfl)) (hdy : (y == ("__debug__" : Str)) = false := by decide) (hcd : (y == ("__classdict__" : Str)) = false := by decide)
    (hg : Gl X x := by rfl) (hdb : (x == ("__debug__" : Str)) = false := by decide) (he : starEach (.Name y py :: es) X.env = (false, eval (.Name y py) X.env) :: starEach es X.env := by rfl) (hpl : (backTo pos (starEach es X.env)).any (·.1) = false := by rfl) :
    GE X (.Call (.Name x p) (.Name y py :: es) [] pos) (gIO i n f gs) := by
  obtain ⟨t, pa, ra⟩ := ha.ex
  refine ⟨_, pe_callF F hr hg hm hk hb .nil hx (pa_cons (pe_var hN hv hdy hcd) pa he) hdb he hpl, fun A F H S σ d S' Q k h post => ?_⟩
  unfold gIO at h
  split at h
  · rename_i j ej
    obtain ⟨⟨ds, S1⟩, h1, h⟩ := bind_inv h
    simp only at h
    split at h
    · rename_i cs ec
      split at h
      · rename_i hn
        obtain ⟨⟨r, cs'⟩, h2, h⟩ := bind_inv h
        cases h
        obtain ⟨a, ea, ev⟩ := k.oslot i j ej
        refine ⟨_, ev, ra A F H S σ ds S1 _ k h1 fun A1 F1 H1 vs p1 s1 k1 r1 => ?_⟩
        obtain ⟨a', ea', fa', xs, hxs, rxs, hz⟩ := k1.cell j _ ec
        rw [prefix_at p1 ea] at ea'; cases ea'
        have sub1 : Sub (upd F1 a (.lst xs)) H1 := ⟨fun b u q => by
            by_cases hb : b = a
            · subst hb; rw [upd_same] at q; cases q; exact hxs
            · rw [upd_ne hb] at q; exact k1.sub.same b u q, fun b u q n => by
            by_cases hb : b = a
            · subst hb; rw [upd_same] at n; cases n
            · rw [upd_ne hb] at n; exact k1.sub.loose b u q n⟩
        refine ⟨upd F1 a (.lst xs), sub1, a, xs, vs, F1, cs, ds, r, cs', by rw [List.append_nil], fa', rfl, hz, rxs, r1, hn, h2, fun F' xs' v sm fa2 rx hz' rv => ⟨fun b ys q => ?_, fun lost => ?_⟩⟩
        · by_cases hb : b = a
          · subst hb; rw [upd_same] at q; cases q
          · rw [upd_ne hb] at q ⊢; exact sm b _ q
        · have lostF : ∀ b o, b ≠ a → H1 b = some o → F1 b = none → F' b = none := fun b o hb ho hf => by
            have := lost b o ho (by rw [upd_ne hb]; exact hf)
            rwa [upd_ne hb] at this
          have ma : mixH (upd F1 a (.lst xs)) H1 (upd F' a (.lst xs')) a = some (.lst xs') := by rw [mix_held upd_same, upd_same]
          have mb : ∀ b, b ≠ a → mixH (upd F1 a (.lst xs)) H1 (upd F' a (.lst xs')) b = mixH F1 H1 F' b := fun b hb => by
            unfold mixH
            rw [upd_ne hb, upd_ne hb]
          have km : Ok X.K A1 F' (upd (mixH F1 H1 F') a (.lst xs')) ⟨S1.sl, S1.os.set j (some (.lst cs'))⟩ σ := by
            have e1 : Ok X.K A1 F' (mixH F1 H1 F') S1 σ := by
              refine k1.mix sm fun b o ho hf => ?_
              by_cases hb : b = a
              · subst hb; exact fa2
              · exact lostF b o hb ho hf
            exact e1.cellSet ec (prefix_at p1 ea) trivial ⟨xs', upd_same, rx, hz'⟩
          have em : mixH (upd F1 a (.lst xs)) H1 (upd F' a (.lst xs')) = upd (mixH F1 H1 F') a (.lst xs') := by
            funext b
            by_cases hb : b = a
            · subst hb; rw [ma, upd_same]
            · rw [mb b hb, upd_ne hb]
          rw [em]
          exact post A1 F' _ v p1 (s1.trans sm) km rv
      · cases h
    · cases h
  · cases h
end
end Fu

set_option maxHeartbeats 4000000
namespace Fu
open PySem PySem.Spec PyProof.Rows L2 RZ

/-! ### what is walked -/
/-- J yields the data ds, one by one, wherever F stands -/
structure Walk (K : PySem.W.Frag) (F : Hp) (J : It) (ds : List D) : Prop where
  stop : ∀ i H, Same F H → ds.length ≤ i → J.stop i H
  go : ∀ i H, Same F H → i < ds.length → J.go i H
  yld : ∀ (i : Nat) d H x H', Same F H → ds[i]? = some d → J.yld i H x H' → (H' = H ∧ Rp K F x d) ∨ ∃ T vs es, x = .ref T ∧ H T = none ∧ H' = upd H T (.tup vs) ∧ d = .tuple es ∧ Rps K F vs es ∧ es.length ≤ sizeLine
def RdI (K : PySem.W.Frag) (t : TI) (g : M (List D)) : Prop := ∀ A F H S σ ds S' (R : It → Hp → Prop), Ok K A F H S σ → g S = some (ds, S') →
  (∀ A' F' H' J, A <+: A' → Same F F' → Ok K A' F' H' S' σ → Walk K F' J ds → ds.length ≤ sizeLine → R J H') → t σ H R
structure GI (X : Cx) (tg iter : Expr) (g : M (List D)) : Prop where
  ex : ∃ t, PI X tg iter t ∧ RdI X.K t g
/-- .. of numbers alone: they stand in any heap -/
structure GI0 (X : Cx) (tg iter : Expr) (g : M (List D)) : Prop where
  ex : ∃ t, PI X tg iter t ∧ ∀ A F H S σ ds S' (R : It → Hp → Prop), Ok X.K A F H S σ → g S = some (ds, S') →
    (∀ A' F' H' J, A <+: A' → Same F F' → Ok X.K A' F' H' S' σ → Walk X.K (fun _ => none) J ds → R J H') → t σ H R
theorem PI.or {X : Cx} {tg iter : Expr} {t u : TI} (h1 : PI X tg iter t) (h2 : PI X tg iter u) : PI X tg iter (fun σ H R => t σ H R ∨ u σ H R) :=
  ⟨fun pins s σ H R I h => h.elim (h1.run pins s σ H R I) (h2.run pins s σ H R I)⟩
section
variable {K : PySem.W.Frag} {F : Hp}
theorem walk_list {a : Addr} {vs : List V} {ds : List D} (h : F a = some (.lst vs)) (r : Rps K F vs ds) : Walk K F (Itl K a) ds where
  stop := fun i H s hi => ⟨vs, SqL.of (s _ _ h), by rw [r.length]; exact hi⟩
  go := fun i H s hi => by
    obtain ⟨v, e, _⟩ := r.get (List.getElem?_eq_getElem hi)
    exact ⟨vs, v, SqL.of (s _ _ h), e⟩
  yld := fun i d H x H' s hd y => by
    obtain ⟨e, y⟩ := y
    obtain ⟨v, ev, rv⟩ := r.get hd
    have := y vs (SqL.of (s _ _ h))
    rw [ev] at this; cases this
    exact .inl ⟨e, rv⟩
theorem walk_tup {a : Addr} {vs : List V} {ds : List D} (h : SqT K F a vs) (r : Rps K F vs ds) : Walk K F (Itt K a) ds where
  stop := fun i H s hi => ⟨vs, sqT_same s h, by rw [r.length]; exact hi⟩
  go := fun i H s hi => by
    obtain ⟨v, e, _⟩ := r.get (List.getElem?_eq_getElem hi)
    exact ⟨vs, v, sqT_same s h, e⟩
  yld := fun i d H x H' s hd y => by
    obtain ⟨e, y⟩ := y
    obtain ⟨v, ev, rv⟩ := r.get hd
    have := y vs (sqT_same s h)
    rw [ev] at this; cases this
    exact .inl ⟨e, rv⟩
def chars (x : Str) : List D := x.cps.toList.map fun c => .str ⟨#[c]⟩
theorem walk_str (x : Str) : Walk K F (Its x) (chars x) where
  stop := fun i H s hi => by
    have : x.cps.size ≤ i := by simpa [chars] using hi
    exact this
  go := fun i H s hi => by
    have : i < x.cps.size := by simpa [chars] using hi
    exact this
  yld := fun i d H v H' s hd y => by
    obtain ⟨e, c, hc, rfl⟩ := y
    have h2 : x.cps.toList[i]? = some c := by rw [Array.getElem?_toList]; exact hc
    unfold chars at hd
    rw [List.getElem?_map, h2] at hd
    cases hd
    exact .inl ⟨e, .str (one_len c)⟩
def rng (lo : Int) (n : Nat) : List D := (List.range n).map fun i : Nat => .int (lo + (i : Int))
theorem walk_range (lo : Int) (n : Nat) : Walk K F (Itr lo n) (rng lo n) where
  stop := fun i H s hi => by
    have : n ≤ i := by simpa [rng] using hi
    exact this
  go := fun i H s hi => by
    have : i < n := by simpa [rng] using hi
    exact this
  yld := fun i d H v H' s hd y => by
    obtain ⟨e, rfl⟩ := y
    unfold rng at hd
    rw [List.getElem?_map] at hd
    obtain ⟨j, hj, rfl⟩ := Option.map_eq_some_iff.mp hd
    rw [List.getElem?_range (by
      have := (List.getElem?_eq_some_iff.mp hj).1
      simpa using this)] at hj
    cases hj
    exact .inl ⟨e, .int _⟩
def zipD : List D → List D → List D
  | x :: xs, y :: ys => .tuple [x, y] :: zipD xs ys
  | _, _ => []
theorem zipD_eq : ∀ xs ys : List D, zipD xs ys = (xs.zip ys).map fun p => .tuple [p.1, p.2]
  | x :: xs, y :: ys => by rw [zipD, zipD_eq xs ys]; rfl
  | [], _ => by simp [zipD]
  | _ :: _, [] => by simp [zipD]
theorem walk_zip {a b : Addr} {vs us : List V} {xs ys : List D} (h : F a = some (.lst vs)) (g : F b = some (.lst us)) (r : Rps K F vs xs) (q : Rps K F us ys) : Walk K F (Itz K a b) (zipD xs ys) where
  stop := fun i H s hi => by
    refine ⟨vs, us, SqL.of (s _ _ h), SqL.of (s _ _ g), ?_⟩
    rw [zipD_eq, List.length_map, List.length_zip] at hi
    rw [r.length, q.length]
    omega
  go := fun i H s hi => by
    rw [zipD_eq, List.length_map, List.length_zip] at hi
    obtain ⟨v, e, _⟩ := r.get (List.getElem?_eq_getElem (show i < xs.length by omega))
    obtain ⟨u, e2, _⟩ := q.get (List.getElem?_eq_getElem (show i < ys.length by omega))
    exact ⟨vs, us, v, u, SqL.of (s _ _ h), SqL.of (s _ _ g), e, e2⟩
  yld := fun i d H x H' s hd y => by
    obtain ⟨T, v, u, rfl, hT, rfl, e1, e2⟩ := y
    rw [zipD_eq, List.getElem?_map] at hd
    obtain ⟨⟨d1, d2⟩, hz, rfl⟩ := Option.map_eq_some_iff.mp hd
    rw [List.getElem?_zip_eq_some] at hz
    obtain ⟨v', g1, r1⟩ := r.get hz.1
    obtain ⟨u', g2, r2⟩ := q.get hz.2
    have f1 := e1 vs (SqL.of (s _ _ h))
    have f2 := e2 us (SqL.of (s _ _ g))
    rw [g1] at f1; cases f1
    rw [g2] at f2; cases f2
    exact .inr ⟨T, _, _, rfl, hT, rfl, rfl, .cons r1 (.cons r2 .nil), by show 2 ≤ sizeLine; decide⟩
end
def itemsOf : D → Option (List D)
  | .list xs => some xs
  | .tuple xs => some xs
  | .str x => some (chars x)
  | _ => none
/-- the items of a list, a tuple, a text -/
def gItems (g : M D) : M (List D) := fun S => (g S).bind fun p => (itemsOf p.1).bind fun xs => some (xs, p.2)
section
variable {X : Cx} {tg e e2 e3 : Expr} {ge ge2 : M D} {pos p p2 : Pos} {gs : M (List D)}
theorem chars_len {x : Str} (h : x.length ≤ sizeLine) : (chars x).length ≤ sizeLine := by
  unfold chars
  rw [List.length_map, Array.length_toList]
  exact h
theorem i_any (h : GE X e ge) : GI X tg e (gItems ge) := by
  obtain ⟨t, pe, re⟩ := h.ex
  refine ⟨_, PI.or (pi_list pe) (PI.or (pi_tup pe) (pi_str pe)), fun A F H S σ ds S' R k e post => ?_⟩
  obtain ⟨⟨d, S1⟩, h1, e⟩ := bind_inv e
  obtain ⟨xs, h2, e⟩ := bind_inv e
  cases e
  cases d <;> simp only [itemsOf] at h2 <;> cases h2
  · refine .inr (.inr (re A F H S σ _ _ _ k h1 fun A1 F1 H1 v p1 s1 k1 r1 => ?_))
    obtain ⟨rfl, hz⟩ := rp_str_inv r1
    exact ⟨_, rfl, post A1 F1 H1 _ p1 s1 k1 (walk_str _) (chars_len hz)⟩
  · refine .inl (re A F H S σ _ _ _ k h1 fun A1 F1 H1 v p1 s1 k1 r1 => ?_)
    obtain ⟨a, vs, rfl, g1, g2, g3⟩ := rp_list_inv r1
    exact ⟨a, rfl, ⟨vs, SqL.of (k1.sub.same _ _ g1)⟩, post A1 F1 H1 _ p1 s1 k1 (walk_list g1 g2) g3⟩
  · refine .inr (.inl (re A F H S σ _ _ _ k h1 fun A1 F1 H1 v p1 s1 k1 r1 => ?_))
    obtain ⟨a, vs, rfl, g1, g2, g3⟩ := rp_tup_inv r1
    exact ⟨a, rfl, ⟨vs, sqT_same k1.sub.same g1⟩, post A1 F1 H1 _ p1 s1 k1 (walk_tup g1 g2) g3⟩
/-- range(n), range(a, b) -/
def gRng1 (g : M (List D)) : M (List D) := fun S => (g S).bind fun p => match p.1 with
  | [.int j] => if -(2 ^ 62) ≤ j ∧ j ≤ sizeLine then some (rng 0 j.toNat, p.2) else none
  | _ => none
def gRng2 (g : M (List D)) : M (List D) := fun S => (g S).bind fun p => match p.1 with
  | [.int i, .int j] => if -(2 ^ 32) ≤ i ∧ i ≤ 2 ^ 32 ∧ -(2 ^ 32) ≤ j ∧ j ≤ 2 ^ 32 ∧ j - i ≤ sizeLine then some (rng i (j - i).toNat, p.2) else none
  | _ => none
theorem rng_len (lo : Int) (n : Nat) : (rng lo n).length = n := by simp [rng]
theorem rps_int1 {K : PySem.W.Frag} {F : Hp} {vs : List V} {i : Int} (r : Rps K F vs [.int i]) : vs = [.int i] := by
  obtain ⟨v, rfl, q⟩ := rps1 r
  cases rp_int_inv q; rfl
theorem rps_int2 {K : PySem.W.Frag} {F : Hp} {vs : List V} {i j : Int} (r : Rps K F vs [.int i, .int j]) : vs = [.int i, .int j] := by
  obtain ⟨v, u, rfl, q, q2⟩ := rps2 r
  cases rp_int_inv q; cases rp_int_inv q2; rfl
theorem line_int : (sizeLine : Int) < 2 ^ 32 := by rw [sizeLine_eq]; decide
theorem rd_rng1 {K : PySem.W.Frag} {ta : TA} (ra : RdA K ta gs) : ∀ A F H S σ ds S' (R : It → Hp → Prop), Ok K A F H S σ → gRng1 gs S = some (ds, S') →
    (∀ A' F' H' J, A <+: A' → Same F F' → Ok K A' F' H' S' σ → (∀ G, Walk K G J ds) → ds.length ≤ sizeLine → R J H') → iRng1 ta σ H R := by
  intro A F H S σ ds S' R k e post
  obtain ⟨⟨xs, S1⟩, h1, e⟩ := bind_inv e
  simp only at e
  split at e
  · split at e
    · rename_i j hj
      cases e
      refine ra A F H S σ _ _ _ k h1 fun A1 F1 H1 vs p1 s1 k1 r1 => ?_
      have hl := line_int
      exact ⟨j, rps_int1 r1, hj.1, by omega, post A1 F1 H1 _ p1 s1 k1 (fun G => walk_range 0 _) (by rw [rng_len]; omega)⟩
    · cases e
  · cases e
theorem rd_rng2 {K : PySem.W.Frag} {ta : TA} (ra : RdA K ta gs) : ∀ A F H S σ ds S' (R : It → Hp → Prop), Ok K A F H S σ → gRng2 gs S = some (ds, S') →
    (∀ A' F' H' J, A <+: A' → Same F F' → Ok K A' F' H' S' σ → (∀ G, Walk K G J ds) → ds.length ≤ sizeLine → R J H') → iRng2 ta σ H R := by
  intro A F H S σ ds S' R k e post
  obtain ⟨⟨xs, S1⟩, h1, e⟩ := bind_inv e
  simp only at e
  split at e
  · split at e
    · rename_i i j hj
      cases e
      refine ra A F H S σ _ _ _ k h1 fun A1 F1 H1 vs p1 s1 k1 r1 => ?_
      have hl := line_int
      exact ⟨i, j, rps_int2 r1, by omega, post A1 F1 H1 _ p1 s1 k1 (fun G => walk_range i _) (by rw [rng_len]; omega)⟩
    · cases e
  · cases e
theorem i_range1 (hm : X.mg "range" = none) (ha : GA X [e] gs) (hg : Gl X "range" := by rfl) (hs : starEach [e] X.env = [(false, eval e X.env)] := by rfl) : GI X tg (.Call (.Name "range" p) [e] [] pos) (gRng1 gs) := by
  obtain ⟨t, pa, ra⟩ := ha.ex
  exact ⟨_, pi_range1 hg hm pa hs, fun A F H S σ ds S' R k e post => rd_rng1 ra A F H S σ ds S' R k e fun A1 F1 H1 J p1 s1 k1 w hz => post A1 F1 H1 J p1 s1 k1 (w _) hz⟩
theorem i0_range1 (hm : X.mg "range" = none) (ha : GA X [e] gs) (hg : Gl X "range" := by rfl) (hs : starEach [e] X.env = [(false, eval e X.env)] := by rfl) : GI0 X tg (.Call (.Name "range" p) [e] [] pos) (gRng1 gs) := by
  obtain ⟨t, pa, ra⟩ := ha.ex
  exact ⟨_, pi_range1 hg hm pa hs, fun A F H S σ ds S' R k e post => rd_rng1 ra A F H S σ ds S' R k e fun A1 F1 H1 J p1 s1 k1 w hz => post A1 F1 H1 J p1 s1 k1 (w _)⟩
theorem i_range2 (hm : X.mg "range" = none) (ha : GA X [e, e2] gs) (hg : Gl X "range" := by rfl) (hs : starEach [e, e2] X.env = [(false, eval e X.env), (false, eval e2 X.env)] := by rfl) (hs2 : starEach [e2] X.env = [(false, eval e2 X.env)] := by rfl) : GI X tg (.Call (.Name "range" p) [e, e2] [] pos) (gRng2 gs) := by
  obtain ⟨t, pa, ra⟩ := ha.ex
  exact ⟨_, pi_range2 hg hm pa hs hs2, fun A F H S σ ds S' R k e post => rd_rng2 ra A F H S σ ds S' R k e fun A1 F1 H1 J p1 s1 k1 w hz => post A1 F1 H1 J p1 s1 k1 (w _) hz⟩
/-- zip(xs, ys): both lists or both tuples -/
def gZip (g : M (List D)) : M (List D) := fun S => (g S).bind fun p => match p.1 with
  | [.list xs, .list ys] => some (zipD xs ys, p.2)
  | [.tuple xs, .tuple ys] => some (zipD xs ys, p.2)
  | _ => none
theorem zipD_len (xs ys : List D) : (zipD xs ys).length ≤ xs.length := by
  rw [zipD_eq, List.length_map, List.length_zip]
  omega
theorem walk_zipT {K : PySem.W.Frag} {F : Hp} {a b : Addr} {vs us : List V} {xs ys : List D} (h : SqT K F a vs) (g : SqT K F b us) (r : Rps K F vs xs) (q : Rps K F us ys) : Walk K F (ItzT K a b) (zipD xs ys) where
  stop := fun i H s hi => by
    refine ⟨vs, us, sqT_same s h, sqT_same s g, ?_⟩
    rw [zipD_eq, List.length_map, List.length_zip] at hi
    rw [r.length, q.length]
    omega
  go := fun i H s hi => by
    rw [zipD_eq, List.length_map, List.length_zip] at hi
    obtain ⟨v, e, _⟩ := r.get (List.getElem?_eq_getElem (show i < xs.length by omega))
    obtain ⟨u, e2, _⟩ := q.get (List.getElem?_eq_getElem (show i < ys.length by omega))
    exact ⟨vs, us, v, u, sqT_same s h, sqT_same s g, e, e2⟩
  yld := fun i d H x H' s hd y => by
    obtain ⟨T, v, u, rfl, hT, rfl, e1, e2⟩ := y
    rw [zipD_eq, List.getElem?_map] at hd
    obtain ⟨⟨d1, d2⟩, hz, rfl⟩ := Option.map_eq_some_iff.mp hd
    rw [List.getElem?_zip_eq_some] at hz
    obtain ⟨v', g1, r1⟩ := r.get hz.1
    obtain ⟨u', g2, r2⟩ := q.get hz.2
    have f1 := e1 vs (sqT_same s h)
    have f2 := e2 us (sqT_same s g)
    rw [g1] at f1; cases f1
    rw [g2] at f2; cases f2
    exact .inr ⟨T, _, _, rfl, hT, rfl, rfl, .cons r1 (.cons r2 .nil), by show 2 ≤ sizeLine; decide⟩
theorem i_zip {elts : List Expr} {kk : Nat} {tpos : Pos} (hm : X.mg "zip" = none) (ha : GA X [e, e2] gs) (hg : Gl X "zip" := by rfl) (hs : starEach [e, e2] X.env = (false, eval e X.env) :: starEach [e2] X.env := by rfl) (hpl : (backTo pos (starEach [e2] X.env)).any (·.1) = false := by rfl) :
    GI X (.Tuple elts kk tpos) (.Call (.Name "zip" p) [e, e2] [] pos) (gZip gs) := by
  obtain ⟨t, pa, ra⟩ := ha.ex
  refine ⟨_, pi_zipA hg hm pa hs hpl, fun A F H S σ ds S' R k e post => ?_⟩
  obtain ⟨⟨xs, S1⟩, h1, e⟩ := bind_inv e
  simp only at e
  split at e
  · cases e
    refine ra A F H S σ _ _ _ k h1 fun A1 F1 H1 vs p1 s1 k1 r1 => ?_
    obtain ⟨v, u, rfl, q1, q2⟩ := rps2 r1
    obtain ⟨a, ws, rfl, g1, g2, g3⟩ := rp_list_inv q1
    obtain ⟨b, us, rfl, f1, f2, f3⟩ := rp_list_inv q2
    exact ⟨a, b, ws, us, rfl, .inl ⟨SqL.of (k1.sub.same _ _ g1), SqL.of (k1.sub.same _ _ f1), post A1 F1 H1 _ p1 s1 k1 (walk_zip g1 f1 g2 f2) (Nat.le_trans (zipD_len _ _) g3)⟩⟩
  · cases e
    refine ra A F H S σ _ _ _ k h1 fun A1 F1 H1 vs p1 s1 k1 r1 => ?_
    obtain ⟨v, u, rfl, q1, q2⟩ := rps2 r1
    obtain ⟨a, ws, rfl, g1, g2, g3⟩ := rp_tup_inv q1
    obtain ⟨b, us, rfl, f1, f2, f3⟩ := rp_tup_inv q2
    exact ⟨a, b, ws, us, rfl, .inr ⟨sqT_same k1.sub.same g1, sqT_same k1.sub.same f1, post A1 F1 H1 _ p1 s1 k1 (walk_zipT g1 f1 g2 f2) (Nat.le_trans (zipD_len _ _) g3)⟩⟩
  · cases e
end

/-! ### targets: names, tuples of them -/
def RdG (K : PySem.W.Frag) (tgt : List Nat) (t : TG) (g : D → Sx → Option Sx) : Prop := ∀ A F H S σ v d S' (Q : L2.St → Hp → Prop), Ok K A F H S σ → Rp K F v d → g d S = some S' →
  (∀ A' F' H' σ', A <+: A' → Same F F' → Ok K A' F' H' S' σ' → (∀ vs, (∀ i ∈ tgt, i ∈ vs) → wipe σ' vs = wipe σ vs) → Q σ' H') → t v σ H Q
def RdGs (K : PySem.W.Frag) (tgt : List Nat) (t : TGs) (g : List D → Sx → Option Sx) : Prop := ∀ A F H S σ vs ds S' (Q : L2.St → Hp → Prop), Ok K A F H S σ → Rps K F vs ds → g ds S = some S' →
  (∀ A' F' H' σ', A <+: A' → Same F F' → Ok K A' F' H' S' σ' → (∀ vs, (∀ i ∈ tgt, i ∈ vs) → wipe σ' vs = wipe σ vs) → Q σ' H') → t vs σ H Q
structure GG (X : Cx) (tgt : List Nat) (e : Expr) (g : D → Sx → Option Sx) : Prop where
  ex : ∃ t, PG X e t ∧ RdG X.K tgt t g
structure GGs (X : Cx) (tgt : List Nat) (es : List Expr) (g : List D → Sx → Option Sx) : Prop where
  ex : ∃ t, PGs X es t ∧ RdGs X.K tgt t g
def sName (i : Nat) : D → Sx → Option Sx := fun d S => some ⟨S.sl.set i (some (.dat d)), S.os⟩
def sNil : List D → Sx → Option Sx := fun ds S => match ds with
  | [] => some S
  | _ => none
def sCons (g : D → Sx → Option Sx) (gs : List D → Sx → Option Sx) : List D → Sx → Option Sx := fun ds S => match ds with
  | d :: ds => (g d S).bind fun S1 => gs ds S1
  | [] => none
def sTup (n : Nat) (gs : List D → Sx → Option Sx) : D → Sx → Option Sx := fun d S => match d with
  | .tuple ds => if ds.length = n then gs ds S else none
  | _ => none
theorem wipe_set {σ : L2.St} {i : Nat} {x : Option V} : ∀ {vs : List Nat}, i ∈ vs → wipe (σ.set i x) vs = wipe σ vs
  | v :: vs, h => by
    unfold wipe
    by_cases hv : i = v
    · subst hv
      by_cases hm : i ∈ vs
      · rw [wipe_set hm]
      · have comm : ∀ ws : List Nat, i ∉ ws → wipe (σ.set i x) ws = (wipe σ ws).set i x := by
          intro ws
          induction ws with
          | nil => intro _; rfl
          | cons w ws ih =>
            intro hn
            simp only [List.mem_cons, not_or] at hn
            unfold wipe
            rw [ih hn.2, List.set_comm _ _ hn.1]
        rw [comm vs hm, List.set_set]
    · rcases List.mem_cons.mp h with e | h
      · exact absurd e hv
      · rw [wipe_set h]
section
variable {X : Cx} {pos : Pos} {e : Expr} {es : List Expr} {n : Nat} {tg ts : List Nat} {g : D → Sx → Option Sx} {gs : List D → Sx → Option Sx}
theorem g_name (i : Nat) {x : Str} (hN : X.N.Nodup) (hx : Loc X.env.scope x := by first | exact Or.inl rfl | exact Or.inr rfl) (hi : X.N[i]? = some x := by rfl) (hf : X.fn x = true ∨ X.env.scope.names.lookup x = some .local := by first | exact .inl rfl | exact .inr rfl | assumption) : GG X [i] (.Name x pos) (sName i) :=
  ⟨_, pg_name hN hi hx hf, fun A F H S σ v d S' Q k r e post => by
    cases e
    exact post A F H _ (List.prefix_refl _) (Same.refl F) (k.setDat r) fun vs h => wipe_set (h i (by simp))⟩
theorem gs_nil : GGs X [] [] sNil := ⟨_, pgs_nil, fun A F H S σ vs ds S' Q k r e post => by
  cases ds with
  | cons _ _ => cases e
  | nil => cases e; cases r; exact ⟨rfl, post A F H σ (List.prefix_refl _) (Same.refl F) k fun _ _ => rfl⟩⟩
theorem gs_cons (h1 : GG X tg e g) (h2 : GGs X ts es gs) (hs : (assignEach (e :: es) X.env).map (·.2) = assign e X.env :: (assignEach es X.env).map (·.2) := by rfl) : GGs X (tg ++ ts) (e :: es) (sCons g gs) := by
  obtain ⟨t, p1, r1⟩ := h1.ex
  obtain ⟨u, p2, r2⟩ := h2.ex
  refine ⟨_, pgs_cons p1 p2 hs, fun A F H S σ vs ds S' Q k r e post => ?_⟩
  cases ds with
  | nil => cases e
  | cons d ds =>
    cases r with
    | cons ra rb =>
      obtain ⟨S1, e1, e⟩ := bind_inv e
      refine ⟨_, _, rfl, r1 A F H S σ _ d S1 _ k ra e1 fun A1 F1 H1 σ1 q1 s1 k1 w1 => r2 A1 F1 H1 S1 σ1 _ ds S' Q k1 (Rps.mono s1 _ _ rb) e fun A2 F2 H2 σ2 q2 s2 k2 w2 => ?_⟩
      exact post A2 F2 H2 σ2 (q1.trans q2) (s1.trans s2) k2 fun vs h => (w2 vs fun i hi => h i (List.mem_append_right _ hi)).trans (w1 vs fun i hi => h i (List.mem_append_left _ hi))
theorem g_tup {k} (h : GGs X ts es gs) (hc : X.calm = true := by rfl) (hn : (assignEach es X.env).length = n := by rfl) (hst : (assignEach es X.env).findIdx? (·.1) = none := by rfl) : GG X ts (.Tuple es k pos) (sTup n gs) := by
  obtain ⟨t, p1, r1⟩ := h.ex
  refine ⟨_, pg_tup hc p1 hn hst, fun A F H S σ v d S' Q k r e post => ?_⟩
  cases d <;> simp only [sTup] at e <;> try cases e
  split at e
  · rename_i hl
    obtain ⟨a, vs, rfl, g1, g2, g3⟩ := rp_tup_inv r
    exact ⟨a, vs, rfl, sqT_same k.sub.same g1, by rw [g2.length]; exact hl, r1 A F H S σ vs _ S' Q k g2 e post⟩
  · cases e
end
end Fu

set_option maxHeartbeats 4000000
namespace Fu
open PySem PySem.Spec PyProof.Rows L2 RZ

/-! ### slots of a comprehension's own names -/
def wipeS (sl : List (Option R)) : List Nat → List (Option R)
  | [] => sl
  | v :: vs => (wipeS sl vs).set v none
def backS (old new : List (Option R)) : List Nat → List (Option R)
  | [] => new
  | v :: vs => match old[v]? with
    | some x => (backS old new vs).set v x
    | none => backS old new vs
theorem wipeS_len (sl : List (Option R)) : ∀ vs, (wipeS sl vs).length = sl.length
  | [] => rfl
  | v :: vs => by unfold wipeS; rw [List.length_set, wipeS_len sl vs]
theorem backS_len (old new : List (Option R)) : ∀ vs, (backS old new vs).length = new.length
  | [] => rfl
  | v :: vs => by
    unfold backS
    split
    · rw [List.length_set, backS_len old new vs]
    · exact backS_len old new vs
theorem wipeS_in {sl : List (Option R)} {i : Nat} {r : R} : ∀ {vs : List Nat}, (wipeS sl vs)[i]? = some (some r) → sl[i]? = some (some r) ∧ i ∉ vs
  | [], h => ⟨h, by simp⟩
  | v :: vs, h => by
    unfold wipeS at h
    by_cases hi : v = i
    · subst hi
      by_cases hv : v < (wipeS sl vs).length
      · rw [List.getElem?_set_self hv] at h; cases h
      · rw [List.getElem?_eq_none (by simpa using hv)] at h; cases h
    · rw [List.getElem?_set_ne hi] at h
      obtain ⟨h1, h2⟩ := wipeS_in h
      exact ⟨h1, by simp only [List.mem_cons, not_or]; exact ⟨fun e => hi e.symm, h2⟩⟩
theorem wipeS_out {sl : List (Option R)} {i : Nat} : ∀ {vs : List Nat}, i ∉ vs → (wipeS sl vs)[i]? = sl[i]?
  | [], _ => rfl
  | v :: vs, h => by
    simp only [List.mem_cons, not_or] at h
    unfold wipeS
    rw [List.getElem?_set_ne (Ne.symm h.1), wipeS_out h.2]
theorem wipe_outV {σ : L2.St} {i : Nat} : ∀ {vs : List Nat}, i ∉ vs → (wipe σ vs)[i]? = σ[i]?
  | [], _ => rfl
  | v :: vs, h => by
    simp only [List.mem_cons, not_or] at h
    unfold wipe
    rw [List.getElem?_set_ne (Ne.symm h.1), wipe_outV h.2]
theorem backS_in {old new : List (Option R)} {i : Nat} : ∀ {vs : List Nat}, old.length = new.length → (backS old new vs)[i]? = if i ∈ vs then old[i]? else new[i]?
  | [], _ => by simp [backS]
  | v :: vs, h => by
    have ih := backS_in (i := i) (vs := vs) h
    unfold backS
    by_cases hv : v = i
    · subst hv
      simp only [List.mem_cons, true_or, if_true]
      cases e : old[v]? with
      | none =>
        show (backS old new vs)[v]? = none
        rw [ih]
        have hl : new[v]? = none := List.getElem?_eq_none (by rw [← h]; exact List.getElem?_eq_none_iff.mp e)
        split
        · exact e
        · exact hl
      | some x =>
        show ((backS old new vs).set v x)[v]? = some x
        rw [List.getElem?_set_self]
        rw [backS_len, ← h]
        exact (List.getElem?_eq_some_iff.mp e).1
    · have e2 : (match old[v]? with | some x => (backS old new vs).set v x | none => backS old new vs)[i]? = (backS old new vs)[i]? := by
        split
        · rw [List.getElem?_set_ne hv]
        · rfl
      rw [e2, ih]
      have : (i ∈ v :: vs) ↔ i ∈ vs := by
        simp only [List.mem_cons]
        exact ⟨fun z => z.elim (fun e => absurd e.symm hv) id, .inr⟩
      by_cases hm : i ∈ vs
      · rw [if_pos hm, if_pos (this.mpr hm)]
      · rw [if_neg hm, if_neg (fun z => hm (this.mp z))]
section
variable {K : PySem.W.Frag} {A A' : List Addr} {F F' G H : Hp} {S S' : Sx} {σ τ : L2.St}
theorem Ok.wipe {vs : List Nat} (k : Ok K A F H S τ) (e : L2.wipe τ vs = L2.wipe σ vs) : Ok K A F H ⟨wipeS S.sl vs, S.os⟩ (L2.wipe σ vs) := by
  refine ⟨k.sub, by rw [wipeS_len, k.len, ← e, wipe_length], k.alen, k.nd, fun i r h => ?_, k.cell, k.trk⟩
  obtain ⟨h1, h2⟩ := wipeS_in h
  obtain ⟨v, e1, q⟩ := k.rslot i r h1
  exact ⟨v, by rw [← e, wipe_outV h2]; exact e1, q⟩
theorem Ok.back {vs : List Nat} (k0 : Ok K A F H S σ) (k : Ok K A' F' G ⟨wipeS S'.sl vs, S'.os⟩ (L2.wipe σ vs)) (p : A <+: A') (s : Same F F') : Ok K A' F' G ⟨backS S.sl S'.sl vs, S'.os⟩ σ := by
  have hl : S.sl.length = S'.sl.length := by
    have := k.len
    rw [wipeS_len, wipe_length] at this
    rw [k0.len, this]
  refine ⟨k.sub, by rw [backS_len, ← hl]; exact k0.len, k.alen, k.nd, fun i r h => ?_, k.cell, k.trk⟩
  simp only at h
  rw [backS_in hl] at h
  by_cases hi : i ∈ vs
  · rw [if_pos hi] at h
    obtain ⟨v, e1, q⟩ := k0.rslot i r h
    exact ⟨v, e1, q.mono p s _ _⟩
  · rw [if_neg hi] at h
    obtain ⟨v, e1, q⟩ := k.rslot i r (by simp only; rw [wipeS_out hi]; exact h)
    rw [wipe_outV hi] at e1
    exact ⟨v, e1, q⟩
/-- one list over a heap: what may be forgotten -/
theorem sub_one {p : Addr} {o : HO} (h : G p = none) (l : Loose o) : Sub G (upd G p o) := ⟨fun b u e => by rw [upd_ne (ne_of_none e h)]; exact e, fun b u e n => by
  by_cases hb : b = p
  · subst hb; rw [upd_same] at e; cases e; exact l
  · rw [upd_ne hb, n] at e; cases e⟩
theorem mix_one {G' : Hp} {p : Addr} {o : HO} (h : G p = none) (h' : G' p = none) : mixH G (upd G p o) G' = upd G' p o := by
  funext b
  by_cases hb : b = p
  · subst hb
    rw [mix_lost h upd_same, upd_same]
  · rw [upd_ne hb]
    cases q : G b with
    | some u => exact mix_held q
    | none => exact mix_free (by rw [upd_ne hb]; exact q)
end

/-! ### tests of a comprehension -/
structure GTs (X : Cx) (ifs : List Expr) (g : M Bool) : Prop where
  ex : ∃ t, PTs X ifs t ∧ RdT X.K t g
def gYes : M Bool := fun S => some (true, S)
theorem ts_nil {X : Cx} : GTs X [] gYes := ⟨_, pts_nil, fun A F H S σ b S' Q k e post => by cases e; exact post A F H (List.prefix_refl _) (Same.refl F) k⟩
theorem ts_one {X : Cx} {c : Expr} {g : M Bool} (h : GT X c g) : GTs X [c] g := let ⟨_, p, r⟩ := h.ex; ⟨_, pts_one p, r⟩

/-! ### the turns of a comprehension -/
def gTurns (gg : D → Sx → Option Sx) (gt : M Bool) (ge : M D) (vs : List Nat) : List D → Sx → Option (List D × Sx)
  | [], S => some ([], S)
  | d :: ds, S => (gg d ⟨wipeS S.sl vs, S.os⟩).bind fun S1 => (gt S1).bind fun p =>
    if p.1 = true then (ge p.2).bind fun q => (gTurns gg gt ge vs ds q.2).bind fun r => some (q.1 :: r.1, r.2)
    else gTurns gg gt ge vs ds p.2
def gLc (gi : M (List D)) (gg : D → Sx → Option Sx) (gt : M Bool) (ge : M D) (vs : List Nat) : M D := fun S => (gi S).bind fun p => (gTurns gg gt ge vs p.1 p.2).bind fun r => some (.list r.1, ⟨backS p.2.sl r.2.sl vs, r.2.os⟩)
section
variable {K : PySem.W.Frag}
/-- a new list that is nobody's yet -/
def RdN (K : PySem.W.Frag) (t : TE) (g : M D) : Prop := ∀ A F H S σ d S' (Q : VK), Ok K A F H S σ → g S = some (d, S') →
  (∀ A' F' G p vs ds, A <+: A' → Same F F' → Ok K A' F' G S' σ → G p = none → d = .list ds → Rps K F' vs ds → ds.length ≤ sizeLine → Q (.ref p) (upd G p (.lst vs))) → t σ H Q
theorem RdN.e {t : TE} {g : M D} (h : RdN K t g) : RdE K t g := by
  intro A F H S σ d S' Q k e post
  refine h A F H S σ d S' Q k e fun A1 F1 G p vs ds p1 s1 k1 hp ed r hz => ?_
  subst ed
  obtain ⟨s2, k2, r2⟩ := k1.newList hp r hz
  exact post A1 _ _ _ p1 (s1.trans s2) k2 r2
theorem rd_lc {wi : TI} {g : TG} {tt : TT} {te : TE} {gi : M (List D)} {gg : D → Sx → Option Sx} {gt : M Bool} {ge : M D} {tgt vs : List Nat} (hi : RdI K wi gi) (hg : RdG K tgt g gg) (ht : RdT K tt gt) (he : RdE K te ge) (hv : ∀ i ∈ tgt, i ∈ vs) :
    RdN K (tLc wi (gFr g) (tFrT tt) (tFr te) vs) (gLc gi gg gt ge vs) := by
  intro A F H S σ d S' Q k e post
  obtain ⟨⟨ds, S1⟩, e1, e⟩ := bind_inv e
  obtain ⟨⟨rs, S2⟩, e2, e⟩ := bind_inv e
  cases e
  refine hi A F H S σ ds S1 _ k e1 fun A1 F1 H1 J p1 s1 k1 w hz => fun L hL => ?_
  refine ⟨fun i m H => m = ds.length - i ∧ i ≤ ds.length ∧ ∃ A F G S acc us rest, Same F1 F ∧ A1 <+: A ∧ Ok K A F G ⟨wipeS S.sl vs, S.os⟩ (wipe σ vs) ∧ G L = none ∧ H = upd G L (.lst us) ∧ Rps K F us acc ∧ acc.length ≤ i ∧
    gTurns gg gt ge vs (ds.drop i) S = some (rest, S2) ∧ acc ++ rest = rs, ⟨ds.length, by simp, Nat.zero_le _, A1, F1, H1, S1, [], [], rs, Same.refl _, List.prefix_refl _, k1.wipe rfl, hL, rfl, .nil, Nat.le_refl _, by simpa using e2, rfl⟩, ?_⟩
  rintro i m H ⟨rfl, hil, A2, F2, G2, S3, acc, us, rest, s2, p2, k2, hG, rfl, ru, hla, et, ea⟩
  have sFH : Same F1 (upd G2 L (.lst us)) := (s2.trans k2.sub.same).trans (same_upd hG)
  by_cases hlt : i < ds.length
  · refine .inr ⟨w.go i _ sFH hlt, fun H' => i + 1 ≤ ds.length ∧ ∃ A F G S acc us rest, Same F1 F ∧ A1 <+: A ∧ Ok K A F G ⟨wipeS S.sl vs, S.os⟩ (wipe σ vs) ∧ G L = none ∧ H' = upd G L (.lst us) ∧ Rps K F us acc ∧ acc.length ≤ i + 1 ∧
      gTurns gg gt ge vs (ds.drop (i + 1)) S = some (rest, S2) ∧ acc ++ rest = rs, fun H' h => ⟨ds.length - (i + 1), by omega, rfl, h⟩, fun x H' hy => ?_⟩
    rw [List.drop_eq_getElem_cons hlt] at et
    obtain ⟨S4, e4, et⟩ := bind_inv (show (gg ds[i] ⟨wipeS S3.sl vs, S3.os⟩).bind _ = _ from et)
    obtain ⟨⟨b, S5⟩, e5, et⟩ := bind_inv et
    -- the item
    have key : ∃ F3 G3, Same F2 F3 ∧ Ok K A2 F3 G3 ⟨wipeS S3.sl vs, S3.os⟩ (wipe σ vs) ∧ G3 L = none ∧ H' = upd G3 L (.lst us) ∧ Rp K F3 x ds[i] := by
      rcases w.yld i ds[i] _ x H' sFH (List.getElem?_eq_getElem hlt) hy with ⟨rfl, r⟩ | ⟨T, ws, es, rfl, hT, rfl, ed, r, hz2⟩
      · exact ⟨F2, G2, Same.refl _, k2, hG, rfl, r.mono s2 _ _⟩
      · have hTL : T ≠ L := fun z => by subst z; rw [upd_same] at hT; cases hT
        have gT : G2 T = none := by rwa [upd_ne hTL] at hT
        obtain ⟨s3, k3, r3⟩ := k2.newTup gT (Rps.mono s2 _ _ r) hz2
        refine ⟨_, _, s3, k3, by rw [upd_ne (Ne.symm hTL)]; exact hG, ?_, by rw [ed]; exact r3⟩
        funext c
        by_cases h1 : c = T
        · subst h1; rw [upd_same, upd_ne hTL, upd_same]
        · rw [upd_ne h1]
          by_cases h2 : c = L
          · subst h2; rw [upd_same, upd_same]
          · rw [upd_ne h2, upd_ne h2, upd_ne h1]
    obtain ⟨F3, G3, s3, k3, hG3, rfl, rx⟩ := key
    refine ⟨G3, sub_one hG3 trivial, hg A2 F3 G3 _ _ x ds[i] S4 _ k3 rx e4 fun A4 F4 G4 σ4 p4 s4 k4 w4 => ⟨fun c xs q => ?_, fun lost => ?_⟩⟩
    · exact k4.sub.keep (k4.sub.same c _ (by
        have := k3.sub.keep q (fun z => z)
        exact s4 c _ this)) (fun z => z) |> fun z => k4.sub.same c _ z
    · have hG4 : G4 L = none := lost L _ upd_same hG3
      rw [mix_one hG3 hG4]
      refine ⟨(w4 vs hv).trans (by
        have : ∀ ws : List Nat, wipe (wipe σ ws) ws = wipe σ ws := by
          intro ws
          apply List.ext_getElem?
          intro n
          by_cases hn : n ∈ ws
          · have h1 : ∀ {τ : L2.St} {n : Nat} {ws : List Nat}, n ∈ ws → (wipe τ ws)[n]? = if n < τ.length then some none else none := by
              intro τ n ws
              induction ws with
              | nil => intro h; cases h
              | cons v ws ih =>
                intro h
                unfold wipe
                by_cases hv : v = n
                · subst hv
                  by_cases hl : v < τ.length
                  · rw [List.getElem?_set_self (by rw [wipe_length]; exact hl), if_pos hl]
                  · rw [List.getElem?_eq_none (by rw [List.length_set, wipe_length]; omega), if_neg hl]
                · rw [List.getElem?_set_ne hv]
                  exact ih ((List.mem_cons.mp h).resolve_left fun z => hv z.symm)
            rw [h1 hn, h1 hn, wipe_length]
          · rw [wipe_outV hn]
        exact this vs), G4, sub_one hG4 trivial, ht A4 F4 G4 S4 σ4 b S5 _ k4 e5 fun A5 F5 G5 p5 s5 k5 => ⟨fun c xs q => ?_, fun lost => ?_⟩⟩
      · exact k5.sub.same c _ (s5 c _ (k4.sub.keep q (fun z => z)))
      · have hG5 : G5 L = none := lost L _ upd_same hG4
        rw [mix_one hG4 hG5]
        have w5 : wipe σ4 vs = wipe σ vs := (w4 vs hv).trans (by
          have h1 : ∀ {τ : L2.St} {n : Nat} {ws : List Nat}, n ∈ ws → (wipe τ ws)[n]? = if n < τ.length then some none else none := by
            intro τ n ws
            induction ws with
            | nil => intro h; cases h
            | cons v ws ih =>
              intro h
              unfold wipe
              by_cases hv : v = n
              · subst hv
                by_cases hl : v < τ.length
                · rw [List.getElem?_set_self (by rw [wipe_length]; exact hl), if_pos hl]
                · rw [List.getElem?_eq_none (by rw [List.length_set, wipe_length]; omega), if_neg hl]
              · rw [List.getElem?_set_ne hv]
                exact ih ((List.mem_cons.mp h).resolve_left fun z => hv z.symm)
          apply List.ext_getElem?
          intro n
          by_cases hn : n ∈ vs
          · rw [h1 hn, h1 hn, wipe_length]
          · rw [wipe_outV hn])
        cases b with
        | false =>
          rw [if_neg Bool.false_ne_true] at et
          show if false = true then _ else _
          rw [if_neg Bool.false_ne_true]
          exact ⟨hlt, A5, F5, G5, S5, acc, us, rest, s2.trans (s3.trans (s4.trans s5)), p2.trans (p4.trans p5), k5.wipe w5, hG5, rfl, Rps.mono (s3.trans (s4.trans s5)) _ _ ru, Nat.le_succ_of_le hla, et, ea⟩
        | true =>
          rw [if_pos rfl] at et
          show if true = true then _ else _
          rw [if_pos rfl]
          obtain ⟨⟨y, S6⟩, e6, et⟩ := bind_inv et
          obtain ⟨⟨rest', S7⟩, e7, et⟩ := bind_inv et
          cases et
          refine ⟨G5, sub_one hG5 trivial, he A5 F5 G5 S5 σ4 y S6 _ k5 e6 fun A6 F6 G6 v p6 s6 k6 r6 => ⟨fun c xs q => ?_, fun lost => ?_⟩⟩
          · exact k6.sub.same c _ (s6 c _ (k5.sub.keep q (fun z => z)))
          · have hG6 : G6 L = none := lost L _ upd_same hG5
            rw [mix_one hG5 hG6]
            have ru' : Rps K F6 us acc := Rps.mono (s3.trans (s4.trans (s5.trans s6))) _ _ ru
            refine ⟨us, upd_same, ?_, hlt, A6, F6, G6, S6, acc ++ [y], us ++ [v], rest', s2.trans (s3.trans (s4.trans (s5.trans s6))), p2.trans (p4.trans (p5.trans p6)), k6.wipe w5, hG6, upd_upd, ru'.append (.cons r6 .nil), ?_, e7, ?_⟩
            · rw [ru'.length]
              omega
            · rw [List.length_append, List.length_singleton]
              omega
            · rw [← ea, List.append_assoc]; rfl
  · have ei : i = ds.length := by omega
    subst ei
    rw [List.drop_length] at et
    cases et
    refine .inl ⟨w.stop _ _ sFH (Nat.le_refl _), ?_⟩
    rw [List.append_nil] at ea
    subst ea
    exact post A2 F2 G2 L us acc (p1.trans p2) (s1.trans s2) (k1.back k2 p2 s2) hG rfl ru (Nat.le_trans hla hz)
end

/-! ### the one reading of each judgement -/
def tOf (K : PySem.W.Frag) (g : M D) : TE := fun σ H Q => ∃ A F S d S', Ok K A F H S σ ∧ g S = some (d, S') ∧ ∀ A' F' H' v, A <+: A' → Same F F' → Ok K A' F' H' S' σ → Rp K F' v d → Q v H'
def ttOf (K : PySem.W.Frag) (g : M Bool) : TT := fun σ H Q => ∃ A F S d S', Ok K A F H S σ ∧ g S = some (d, S') ∧ ∀ A' F' H', A <+: A' → Same F F' → Ok K A' F' H' S' σ → Q d H'
def gOf (K : PySem.W.Frag) (tgt : List Nat) (g : D → Sx → Option Sx) : TG := fun v σ H Q => ∃ A F S d S', Ok K A F H S σ ∧ Rp K F v d ∧ g d S = some S' ∧ ∀ A' F' H' σ', A <+: A' → Same F F' → Ok K A' F' H' S' σ' → (∀ vs, (∀ i ∈ tgt, i ∈ vs) → wipe σ' vs = wipe σ vs) → Q σ' H'
def iOf (K : PySem.W.Frag) (g : M (List D)) : TI := fun σ H R => ∃ A F S ds S', Ok K A F H S σ ∧ g S = some (ds, S') ∧ ∀ A' F' H' J, A <+: A' → Same F F' → Ok K A' F' H' S' σ → Walk K F' J ds → ds.length ≤ sizeLine → R J H'
theorem GE.pe {X : Cx} {e : Expr} {g : M D} (h : GE X e g) : PE X e (tOf X.K g) := by
  obtain ⟨t, p, r⟩ := h.ex
  exact ⟨fun pins s σ H Q I ⟨A, F, S, d, S', k, e, post⟩ => p.run pins s σ H Q I (r A F H S σ d S' Q k e post)⟩
theorem rd_of {K : PySem.W.Frag} {g : M D} : RdE K (tOf K g) g := fun A F H S σ d S' Q k e post => ⟨A, F, S, d, S', k, e, post⟩
theorem GTs.pts {X : Cx} {es : List Expr} {g : M Bool} (h : GTs X es g) : PTs X es (ttOf X.K g) := by
  obtain ⟨t, p, r⟩ := h.ex
  exact ⟨fun pins s σ H Q I ⟨A, F, S, d, S', k, e, post⟩ => p.run pins s σ H Q I (r A F H S σ d S' Q k e post)⟩
theorem rd_tof {K : PySem.W.Frag} {g : M Bool} : RdT K (ttOf K g) g := fun A F H S σ d S' Q k e post => ⟨A, F, S, d, S', k, e, post⟩
theorem GG.pg {X : Cx} {tgt : List Nat} {e : Expr} {g : D → Sx → Option Sx} (h : GG X tgt e g) : PG X e (gOf X.K tgt g) := by
  obtain ⟨t, p, r⟩ := h.ex
  exact ⟨fun pins s σ H v u Q I rv ⟨A, F, S, d, S', k, rd, e, post⟩ => p.run pins s σ H v u Q I rv (r A F H S σ v d S' Q k rd e post)⟩
theorem rd_gof {K : PySem.W.Frag} {tgt : List Nat} {g : D → Sx → Option Sx} : RdG K tgt (gOf K tgt g) g := fun A F H S σ v d S' Q k r e post => ⟨A, F, S, d, S', k, r, e, post⟩
theorem GI.pi {X : Cx} {tg e : Expr} {g : M (List D)} (h : GI X tg e g) : PI X tg e (iOf X.K g) := by
  obtain ⟨t, p, r⟩ := h.ex
  exact ⟨fun pins s σ H R I ⟨A, F, S, d, S', k, e, post⟩ => p.run pins s σ H R I (r A F H S σ d S' R k e post)⟩
theorem rd_iof {K : PySem.W.Frag} {g : M (List D)} : RdI K (iOf K g) g := fun A F H S σ d S' Q k e post => ⟨A, F, S, d, S', k, e, post⟩

/-! ### comprehensions -/
section
variable {X : Cx} {pos : Pos} {elt tg iter : Expr} {ifs : List Expr} {scope : Scope} {gi : M (List D)} {gg : D → Sx → Option Sx} {gt : M Bool} {ge : M D} {tgt : List Nat}
/-- the block of a comprehension, wherever it stands -/
abbrev InBlk (X : Cx) (scope : Scope) (P : Cx → Prop) : Prop := ∀ (s : Shared) (H : Hp) (C : Addr) (cl : List (Str × Addr)) (fp : List Addr), P (X.blk s H scope (compEnvC scope cl C X.env) fp)
structure GN (X : Cx) (e : Expr) (g : M D) : Prop where
  ex : ∃ t, PE X e t ∧ RdN X.K t g
theorem GN.e {X : Cx} {e : Expr} {g : M D} (h : GN X e g) : GE X e g := let ⟨_, p, r⟩ := h.ex; ⟨_, p, r.e⟩
theorem n_lc (own : List (Str × Nat)) (hN : X.N.Nodup) (hi : GI X tg iter gi) (ok : BlkOk X.N X.env.scope scope own) (hg : InBlk X scope fun Y => GG Y tgt tg gg) (ht : InBlk X scope fun Y => GTs Y ifs gt) (he : InBlk X scope fun Y => GE Y elt ge)
    (hv : ∀ i ∈ tgt, i ∈ own.map (·.2) := by decide) (hc : X.calm = true := by rfl) (hs : ∀ x, foldedSetIterable iter X.env x = pure x := by intro _; rfl) : GN X (.ListComp elt [⟨tg, iter, ifs, 0⟩] scope pos) (gLc gi gg gt ge (own.map (·.2))) :=
  ⟨_, pe_lc hc hN hi.pi ok (fun s H C cl fp => pg_fr (hg s H C cl fp).pg) (fun s H C cl fp => pts_fr (ht s H C cl fp).pts) (fun s H C cl fp => pe_fr (he s H C cl fp).pe) hs, rd_lc rd_iof rd_gof rd_tof rd_of hv⟩
end
end Fu

set_option maxHeartbeats 4000000
namespace Fu
open PySem PySem.Spec PyProof.Rows L2 RZ

section
variable {K : PySem.W.Frag}
end
/-! ### two clauses -/
section
variable {K : PySem.W.Frag}
end
section
variable {X : Cx} {pos : Pos} {elt tg iter tg1 iter1 : Expr} {ifs ifs1 : List Expr} {scope : Scope} {gi gi1 : M (List D)} {gg gg1 : D → Sx → Option Sx} {gt gt1 : M Bool} {ge : M D} {tgt tgt1 : List Nat}
end
end Fu

set_option maxHeartbeats 4000000
namespace Fu
open PySem PySem.Spec PyProof.Rows L2 RZ

/-! ### statements -/
inductive Out where
  | nx (S : Sx)
  | rt (d : D) (S : Sx)
  | bk (S : Sx)
  | ct (S : Sx)
  | ro (j : Nat) (S : Sx)
/-- what a statement's end hands on; B: what stands for good, A0: the cells that were there -/
def OutP (K : PySem.W.Frag) (B : Hp) (A0 : List Addr) (o : Out) (E : Ends) : Prop := match o with
  | .nx S' => ∀ A F H σ, Same B F → A0 <+: A → Ok K A F H S' σ → E.nx σ H
  | .rt d S' => ∀ A F H σ v, Same B F → A0 <+: A → Ok K A F H S' σ → Rp K F v d → E.rt v H
  | .bk S' => ∀ A F H σ, Same B F → A0 <+: A → Ok K A F H S' σ → E.bk σ H
  | .ct S' => ∀ A F H σ, Same B F → A0 <+: A → Ok K A F H S' σ → E.ct σ H
  | .ro j S' => ∀ A F H σ a, Same B F → A0 <+: A → Ok K A F H S' σ → A[j]? = some a → E.rt (.ref a) H
def RdS (K : PySem.W.Frag) (P : Hp → Prop) (t : TS) (g : Sx → Option Out) : Prop := ∀ B A0 A F H S σ o (E : Ends), P B → Same B F → A0 <+: A → Ok K A F H S σ → g S = some o → OutP K B A0 o E → t E σ H
structure GS (X : Cx) (P : Hp → Prop) (st : Stmt) (g : Sx → Option Out) : Prop where
  ex : ∃ t, PS X st t ∧ RdS X.K P t g
structure GSs (X : Cx) (P : Hp → Prop) (st : List Stmt) (g : Sx → Option Out) : Prop where
  ex : ∃ t, PSs X st t ∧ RdS X.K P t g
def qNx : Sx → Option Out := fun S => some (.nx S)
def qSeq (g h : Sx → Option Out) : Sx → Option Out := fun S => (g S).bind fun o => match o with
  | .nx S1 => h S1
  | o => some o
def qDrop (g : M D) : Sx → Option Out := fun S => (g S).bind fun p => some (.nx p.2)
def qRet (g : M D) : Sx → Option Out := fun S => (g S).bind fun p => some (.rt p.1 p.2)
def qRetN : Sx → Option Out := fun S => some (.rt .none S)
def qIf (t : M Bool) (g h : Sx → Option Out) : Sx → Option Out := fun S => (t S).bind fun p => if p.1 = true then g p.2 else h p.2
def qSet (i : Nat) (g : M D) : Sx → Option Out := fun S => (g S).bind fun p => some (.nx ⟨p.2.sl.set i (some (.dat p.1)), p.2.os⟩)
def qAsg (gg : D → Sx → Option Sx) (g : M D) : Sx → Option Out := fun S => (g S).bind fun p => (gg p.1 p.2).bind fun S1 => some (.nx S1)
/-- a new list of one's own -/
def qOwn (i : Nat) (g : M D) : Sx → Option Out := fun S => (g S).bind fun p => match p.1 with
  | .list ds => some (.nx ⟨p.2.sl.set i (some (.own p.2.os.length)), p.2.os ++ [some (.lst ds)]⟩)
  | _ => none
section
variable {X : Cx} {P : Hp → Prop} {st : Stmt} {sts : List Stmt} {g h : Sx → Option Out} {e : Expr} {ge : M D} {pos : Pos}
theorem ss_nil : GSs X P [] qNx := ⟨_, pss_nil, fun B A0 A F H S σ o E hP s p k e post => by cases e; exact post A F H σ s p k⟩
theorem rd_seq {K : PySem.W.Frag} {t u : TS} (hg : RdS K P t g) (hh : RdS K P u h) : RdS K P (tSeq t u) (qSeq g h) := by
  intro B A0 A F H S σ o E hP s p k e post
  obtain ⟨o1, e1, e⟩ := bind_inv e
  refine hg B A0 A F H S σ o1 _ hP s p k e1 ?_
  cases o1 with
  | nx S1 => exact fun A1 F1 H1 σ1 s1 p1 k1 => hh B A0 A1 F1 H1 S1 σ1 o E hP s1 p1 k1 e post
  | rt d S1 => cases e; exact post
  | bk S1 => cases e; exact post
  | ct S1 => cases e; exact post
  | ro j S1 => cases e; exact post
theorem ss_cons (h1 : GS X P st g) (h2 : GSs X P sts h) : GSs X P (st :: sts) (qSeq g h) :=
  let ⟨_, p1, r1⟩ := h1.ex; let ⟨_, p2, r2⟩ := h2.ex; ⟨_, pss_cons p1 p2, rd_seq r1 r2⟩
theorem ss_one (h1 : GS X P st g) : GSs X P [st] g := let ⟨_, p1, r1⟩ := h1.ex; ⟨_, pss_one p1, r1⟩
theorem s_expr (he : GE X e ge) (hs : swapsWith e none pos.line X.env = pure false := by rfl) : GS X P (.Expr e pos) (qDrop ge) := by
  obtain ⟨t, p1, r1⟩ := he.ex
  refine ⟨_, ps_expr p1 hs, fun B A0 A F H S σ o E hP s p k e post => ?_⟩
  obtain ⟨⟨d, S1⟩, e1, e⟩ := bind_inv e
  cases e
  exact r1 A F H S σ d S1 _ k e1 fun A1 F1 H1 v p1 s1 k1 _ => post A1 F1 H1 σ (s.trans s1) (p.trans p1) k1
theorem s_ret (he : GE X e ge) : GS X P (.Return (some e) pos) (qRet ge) := by
  obtain ⟨t, p1, r1⟩ := he.ex
  refine ⟨_, ps_ret p1, fun B A0 A F H S σ o E hP s p k e post => ?_⟩
  obtain ⟨⟨d, S1⟩, e1, e⟩ := bind_inv e
  cases e
  exact r1 A F H S σ d S1 _ k e1 fun A1 F1 H1 v p1 s1 k1 rv => post A1 F1 H1 σ v (s.trans s1) (p.trans p1) k1 rv
theorem s_if {c : Expr} {a b : List Stmt} {gt : M Bool} (hc : GT X c gt) (ha : GSs X P a g) (hb : GSs X P b h) : GS X P (.If c a b pos) (qIf gt g h) := by
  obtain ⟨t, pc, rc⟩ := hc.ex
  obtain ⟨_, pa, ra⟩ := ha.ex
  obtain ⟨_, pb, rb⟩ := hb.ex
  refine ⟨_, ps_if pc pa pb, fun B A0 A F H S σ o E hP s p k e post => ?_⟩
  obtain ⟨⟨x, S1⟩, e1, e⟩ := bind_inv e
  refine rc A F H S σ x S1 _ k e1 fun A1 F1 H1 p1 s1 k1 => ?_
  cases x with
  | true => exact ra B A0 A1 F1 H1 S1 σ o E hP (s.trans s1) (p.trans p1) k1 e post
  | false => exact rb B A0 A1 F1 H1 S1 σ o E hP (s.trans s1) (p.trans p1) k1 e post
theorem rd_asgN {K : PySem.W.Frag} {t : TE} (i : Nat) (r : RdE K t ge) : RdS K P (tAsg t (gName i)) (qSet i ge) := by
  intro B A0 A F H S σ o E hP s p k e post
  obtain ⟨⟨d, S1⟩, e1, e⟩ := bind_inv e
  cases e
  exact r A F H S σ d S1 _ k e1 fun A1 F1 H1 v p1 s1 k1 rv => post A1 F1 H1 _ (s.trans s1) (p.trans p1) (k1.setDat rv)
theorem s_set {x : Str} {pos' : Pos} (i : Nat) (hN : X.N.Nodup) (he : GE X e ge) (hx : Loc X.env.scope x := by first | exact Or.inl rfl | exact Or.inr rfl) (hi : X.N[i]? = some x := by rfl) (hs : swapsWith e (some (.Name x pos')) pos.line X.env = pure false := by rfl)
    (hf : X.fn x = true ∨ X.env.scope.names.lookup x = some .local := by first | exact .inl rfl | exact .inr rfl | assumption) : GS X P (.Assign [.Name x pos'] e pos) (qSet i ge) :=
  let ⟨_, p1, r1⟩ := he.ex; ⟨_, ps_set hN hi hx p1 hs hf, rd_asgN i r1⟩
theorem s_asg {tg : Expr} {tgt : List Nat} {gg : D → Sx → Option Sx} (hg : GG X tgt tg gg) (he : GE X e ge) (hs : swapsWithSole [tg] e pos.line X.env = pure false := by rfl) (hw : swappedStores [tg] e X.env = pure none := by rfl)
    (h1 : (assignEach [tg] X.env).map (·.2) = [assign tg X.env] := by rfl) : GS X P (.Assign [tg] e pos) (qAsg gg ge) := by
  obtain ⟨t, pa, ra⟩ := he.ex
  obtain ⟨u, pb, rb⟩ := hg.ex
  refine ⟨_, ps_asg pa pb hs hw h1, fun B A0 A F H S σ o E hP s p k e post => ?_⟩
  obtain ⟨⟨d, S1⟩, e1, e⟩ := bind_inv e
  obtain ⟨S2, e2, e⟩ := bind_inv e
  cases e
  exact ra A F H S σ d S1 _ k e1 fun A1 F1 H1 v p1 s1 k1 rv => rb A1 F1 H1 S1 σ v d S2 _ k1 rv e2 fun A2 F2 H2 σ2 p2 s2 k2 _ => post A2 F2 H2 σ2 (s.trans (s1.trans s2)) (p.trans (p1.trans p2)) k2
/-- a, b = x, y -/
def qPar (i j : Nat) (g : M (List D)) : Sx → Option Out := fun S => (g S).bind fun p => match p.1 with
  | [d, e] => some (.nx ⟨(p.2.sl.set i (some (.dat d))).set j (some (.dat e)), p.2.os⟩)
  | _ => none
/-- a list that stands in the heap and is nobody's becomes a cell -/
theorem Ok.adopt {K : PySem.W.Frag} {A : List Addr} {F G : Hp} {S : Sx} {σ : L2.St} (k : Ok K A F G S σ) {p : Addr} {vs : List V} {ds : List D} (hp : G p = none) (r : Rps K F vs ds) (hz : ds.length ≤ sizeLine) :
    Ok K (A ++ [p]) F (upd G p (.lst vs)) ⟨S.sl, S.os ++ [some (.lst ds)]⟩ σ := k.cellNew hp trivial ⟨vs, upd_same, r, hz⟩
theorem rd_asgO {K : PySem.W.Frag} {t : TE} (i : Nat) (r : RdN K t ge) : RdS K P (tAsg t (gName i)) (qOwn i ge) := by
  intro B A0 A F H S σ o E hP s p k e post
  obtain ⟨⟨d, S1⟩, e1, e⟩ := bind_inv e
  refine r A F H S σ d S1 _ k e1 fun A1 F1 G1 L vs ds p1 s1 k1 hL ed rv hz => ?_
  subst ed
  cases e
  have k2 := k1.adopt hL rv hz
  exact post _ F1 _ _ (s.trans s1) (p.trans (p1.trans (List.prefix_append _ _))) (k2.setOwn (j := S1.os.length) (by rw [k1.alen]; simp))
/-- a new list goes out, nobody's yet -/
def qRetO (g : M D) : Sx → Option Out := fun S => (g S).bind fun p => match p.1 with
  | .list ds => some (.ro p.2.os.length ⟨p.2.sl, p.2.os ++ [some (.lst ds)]⟩)
  | _ => none
theorem s_retNew (he : GN X e ge) : GS X P (.Return (some e) pos) (qRetO ge) := by
  obtain ⟨t, p1, r1⟩ := he.ex
  refine ⟨_, ps_ret p1, fun B A0 A F H S σ o E hP s p k e post => ?_⟩
  obtain ⟨⟨d, S1⟩, e1, e⟩ := bind_inv e
  refine r1 A F H S σ d S1 _ k e1 fun A1 F1 G1 L vs ds p1 s1 k1 hL ed rv hz => ?_
  subst ed
  cases e
  exact post _ F1 _ σ L (s.trans s1) (p.trans (p1.trans (List.prefix_append _ _))) (k1.adopt hL rv hz) (by rw [k1.alen]; simp)
theorem s_own {x : Str} {pos' : Pos} (i : Nat) (hN : X.N.Nodup) (he : GN X e ge) (hx : Loc X.env.scope x := by first | exact Or.inl rfl | exact Or.inr rfl) (hi : X.N[i]? = some x := by rfl) (hs : swapsWith e (some (.Name x pos')) pos.line X.env = pure false := by rfl)
    (hf : X.fn x = true ∨ X.env.scope.names.lookup x = some .local := by first | exact .inl rfl | exact .inr rfl | assumption) : GS X P (.Assign [.Name x pos'] e pos) (qOwn i ge) :=
  let ⟨_, p1, r1⟩ := he.ex; ⟨_, ps_set hN hi hx p1 hs hf, rd_asgO i r1⟩
end
section
variable {X : Cx} {P : Hp → Prop} {pos spos py : Pos} {y : Str} {elt tg iter tg1 iter1 : Expr} {ifs ifs1 : List Expr} {scope : Scope} {gi gi1 : M (List D)} {gg gg1 : D → Sx → Option Sx} {gt gt1 : M Bool} {ge : M D} {tgt tgt1 : List Nat}
/-- name = [..], on one line -/
structure Lc1 (X : Cx) (i : Nat) (st : Stmt) (g : M D) : Prop where
  ex : ∃ t, PS X st (tAsg t (gName i)) ∧ RdN X.K t g
theorem lc1 (i : Nat) (own : List (Str × Nat)) (hN : X.N.Nodup) (hi : GI X tg iter gi) (ok : BlkOk X.N X.env.scope scope own) (hg : InBlk X scope fun Y => GG Y tgt tg gg) (ht : InBlk X scope fun Y => GTs Y ifs gt) (he : InBlk X scope fun Y => GE Y elt ge)
    (hy : X.N[i]? = some y := by rfl) (hyl : X.env.scope.names.lookup y = some .local := by rfl) (hv : ∀ i ∈ tgt, i ∈ own.map (·.2) := by decide) (hc : X.calm = true := by rfl) (hs : ∀ x, foldedSetIterable iter X.env x = pure x := by intro _; rfl)
    (hsw : swapsWith (.ListComp elt [⟨tg, iter, ifs, 0⟩] scope pos) (some (.Name y py)) spos.line X.env = pure true := by exact sw_true rfl rfl rfl (by decide +kernel)) :
    Lc1 X i (.Assign [.Name y py] (.ListComp elt [⟨tg, iter, ifs, 0⟩] scope pos) spos) (gLc gi gg gt ge (own.map (·.2))) :=
  ⟨_, ps_setLc hc hN hy hyl hsw hi.pi ok (fun s H C cl fp => pg_fr (hg s H C cl fp).pg) (fun s H C cl fp => pts_fr (ht s H C cl fp).pts) (fun s H C cl fp => pe_fr (he s H C cl fp).pe) hs, rd_lc rd_iof rd_gof rd_tof rd_of hv⟩
theorem s_setLc {i : Nat} {st : Stmt} (h : Lc1 X i st ge) : GS X P st (qSet i ge) := let ⟨_, p, r⟩ := h.ex; ⟨_, p, rd_asgN i r.e⟩
end

/-! ### new lists -/
section
variable {X : Cx} {pos p : Pos} {a b e : Expr} {es : List Expr} {ga gb : M D} {gs : M (List D)}
theorem n_lst (hs : GA X es gs) : GN X (.List es pos) (gLst gs) := by
  obtain ⟨u, pb, rb⟩ := hs.ex
  refine ⟨_, pe_lst pb, fun A F H S σ d S' Q k e post => ?_⟩
  obtain ⟨⟨x, S1⟩, h1, e⟩ := bind_inv e
  simp only at e
  split at e
  · rename_i hz
    cases e
    exact rb A F H S σ x _ _ k h1 fun A1 F1 H1 vs p1 s1 k1 r1 => ⟨by rw [r1.length]; exact hz, fun p hp => post A1 F1 H1 p vs x p1 s1 k1 hp rfl r1 hz⟩
  · cases e
/-- [x] * n -/
def gRep (f : D → D → Option D) (ga gb : M D) : M D := fun S => (gBin f ga gb S).bind fun p => match p.1 with
  | .list ds => some (.list ds, p.2)
  | _ => none
theorem n_rep (ha : GE X a ga) (hb : GE X b gb) : GN X (.BinOp a .Mult b pos) (gRep dMul ga gb) := by
  obtain ⟨_, pa, ra⟩ := ha.ex
  obtain ⟨_, pb, rb⟩ := hb.ex
  refine ⟨_, pe_op op_mulAny pa pb, fun A F H S σ d S' Q k e post => ?_⟩
  obtain ⟨⟨z, S3⟩, h0, e⟩ := bind_inv e
  obtain ⟨⟨x, S1⟩, h1, h0⟩ := bind_inv h0
  obtain ⟨⟨y, S2⟩, h2, h0⟩ := bind_inv h0
  obtain ⟨z', h3, h0⟩ := bind_inv h0
  cases h0
  refine ra A F H S σ x S1 _ k h1 fun A1 F1 H1 v1 p1 s1 k1 r1 => rb A1 F1 H1 S1 σ y _ _ k1 h2 fun A2 F2 H2 v2 p2 s2 k2 r2 => ?_
  cases z <;> simp only at e <;> cases e
  rename_i zs
  cases x <;> cases y <;> simp only [dMul] at h3 <;> try cases h3
  · split at h3 <;> cases h3
  · split at h3
    · rename_i hz
      cases h3
      obtain ⟨a, xs, rfl, g1, g2, _⟩ := rp_list_inv r1
      cases rp_int_inv r2
      refine .inr ⟨a, _, xs, rfl, rfl, (s2.trans k2.sub.same) _ _ g1, hz.1, hz.2.1, by rw [g2.length]; exact hz.2.2, fun p hp => ?_⟩
      exact post A2 F2 H2 p _ _ (p1.trans p2) (s1.trans s2) k2 hp rfl ((Rps.mono s2 _ _ g2).rep _) (by rw [PyProof.Rows.lm_len_rep_flat, Nat.mul_comm]; exact hz.2.2)
    · cases h3
end
end Fu

set_option maxHeartbeats 4000000
namespace Fu
open PySem PySem.Spec PyProof.Rows L2 RZ

/-! ### lists that are written: items, length, comparisons -/
def ownOf (S : Sx) (i : Nat) : Option (Nat × List D) := match S.sl[i]? with
  | some (some (.own j)) => match S.os[j]? with
    | some (some (.lst cs)) => some (j, cs)
    | _ => none
  | _ => none
theorem own_at {K : PySem.W.Frag} {A : List Addr} {F H : Hp} {S : Sx} {σ : L2.St} {i j : Nat} {cs : List D} (k : Ok K A F H S σ) (h : ownOf S i = some (j, cs)) :
    ∃ a vs, S.sl[i]? = some (some (.own j)) ∧ S.os[j]? = some (some (.lst cs)) ∧ A[j]? = some a ∧ σ[i]? = some (some (.ref a)) ∧ F a = none ∧ H a = some (.lst vs) ∧ Rps K F vs cs ∧ cs.length ≤ sizeLine := by
  unfold ownOf at h
  split at h
  · rename_i j' ej
    split at h
    · rename_i cs' ec
      cases h
      obtain ⟨a, ha, ev⟩ := k.oslot i _ ej
      obtain ⟨a', ha', fa, vs, hv, r, hz⟩ := k.cell _ _ ec
      rw [ha] at ha'; cases ha'
      exact ⟨a, vs, ej, ec, ha, ev, fa, hv, r, hz⟩
    · cases h
  · cases h
/-- behind an expression: the cell as it stands by then -/
def cellOf (S : Sx) (j : Nat) : Option (List D) := match S.os[j]? with
  | some (some (.lst cs)) => some cs
  | _ => none
theorem cell_at {K : PySem.W.Frag} {A : List Addr} {F H : Hp} {S : Sx} {σ : L2.St} {j : Nat} {cs : List D} {a : Addr} (k : Ok K A F H S σ) (h : cellOf S j = some cs) (ha : A[j]? = some a) :
    ∃ vs, S.os[j]? = some (some (.lst cs)) ∧ F a = none ∧ H a = some (.lst vs) ∧ Rps K F vs cs ∧ cs.length ≤ sizeLine := by
  unfold cellOf at h
  split at h
  · rename_i cs' ec
    cases h
    obtain ⟨a', ha', fa, vs, hv, r, hz⟩ := k.cell _ _ ec
    rw [ha] at ha'; cases ha'
    exact ⟨vs, ec, fa, hv, r, hz⟩
  · cases h
section
variable {X : Cx} {P : Hp → Prop} {pos py p p2 apos : Pos} {y : Str} {b e : Expr} {es : List Expr} {gb ge : M D} {gs : M (List D)}
def gIxO (i : Nat) (gb : M D) : M D := fun S => (ownOf S i).bind fun o => (gb S).bind fun p => match p.1 with
  | .int n => (cellOf p.2 o.1).bind fun cs => (atI cs n).bind fun d => some (d, p.2)
  | _ => none
theorem e_ixO (i : Nat) (hb : GE X b gb) (hN : X.N[i]? = some y := by rfl) (hv : Vis X.env.scope y := by first | exact Or.inl rfl | exact Or.inr (Or.inl rfl) | exact Or.inr (Or.inr rfl)) (hs : PlainIx b := by exact fun _ _ => rfl) (hdy : (y == ("__debug__" : Str)) = false := by decide) (hcd : (y == ("__classdict__" : Str)) = false := by decide) :
    GE X (.Subscript (.Name y py) b pos) (gIxO i gb) := by
  obtain ⟨u, pb, rb⟩ := hb.ex
  refine ⟨_, pe_ix ix_list (pe_var hN hv hdy hcd) pb hs, fun A F H S σ d S' Q k h post => ?_⟩
  obtain ⟨⟨j, cs0⟩, e0, h⟩ := bind_inv h
  obtain ⟨⟨x, S1⟩, e1, h⟩ := bind_inv h
  obtain ⟨a, vs0, _, _, ha, ev, _⟩ := own_at k e0
  refine ⟨_, ev, rb A F H S σ x S1 _ k e1 fun A1 F1 H1 v p1 s1 k1 r1 => ?_⟩
  cases x <;> simp only at h <;> try cases h
  rename_i n
  obtain ⟨cs, e2, h⟩ := bind_inv h
  obtain ⟨d', e3, h⟩ := bind_inv h
  cases h
  obtain ⟨vs, _, _, hv', r, _⟩ := cell_at k1 e2 (prefix_at p1 ha)
  cases rp_int_inv r1
  obtain ⟨w, ew, rw'⟩ := rps_atI r e3
  exact ⟨a, vs, _, w, rfl, rfl, SqL.of hv', ew, post A1 F1 H1 w p1 s1 k1 rw'⟩
def gLenO (i : Nat) : M D := fun S => (ownOf S i).bind fun o => some (.int o.2.length, S)
theorem e_lenO (i : Nat) (hm : X.mg "len" = none) (hN : X.N[i]? = some y := by rfl) (hv : Vis X.env.scope y := by first | exact Or.inl rfl | exact Or.inr (Or.inl rfl) | exact Or.inr (Or.inr rfl)) (hdy : (y == ("__debug__" : Str)) = false := by decide) (hcd : (y == ("__classdict__" : Str)) = false := by decide)
    (hg : Gl X "len" := by rfl) (he : starEach [.Name y py] X.env = (false, eval (.Name y py) X.env) :: starEach [] X.env := by rfl) : GE X (.Call (.Name "len" p) [.Name y py] [] pos) (gLenO i) := by
  refine ⟨_, pe_callB call_len hg hm PySem.boot_len (pa_cons (pe_var hN hv hdy hcd) pa_nil he) (by decide) (by decide) he (by rfl), fun A F H S σ d S' Q k h post => ?_⟩
  obtain ⟨⟨j, cs⟩, e0, h⟩ := bind_inv h
  cases h
  obtain ⟨a, vs, _, _, ha, ev, _, hv', r, _⟩ := own_at k e0
  exact ⟨_, ev, _, _, rfl, .inl ⟨vs, SqL.of hv', r.length.symm⟩, post A F H _ (List.prefix_refl _) (Same.refl F) k (.int _)⟩
/-- a comparison by the heap as it stands, its answer a truth -/
def RdB (K : PySem.W.Frag) (r : R2) (f : D → D → Option D) : Prop := ∀ (H : Hp) x y d e z (Q : VK), Rp K H x d → Rp K H y e → f d e = some z → (∀ b, z = .bool b → Q (.bl b) H) → r x y H Q
theorem rb_eq {K : PySem.W.Frag} : RdB K (rEqAny K) dEq := by
  intro H x y d e z Q rx ry h post
  unfold dEq at h
  split at h
  · rename_i c
    cases h
    exact .inl ⟨d, e, rx.dpH (Same.refl H) c.1, ry.dpH (Same.refl H) c.2, c.1, c.2, post _ rfl⟩
  · obtain ⟨b, h1, rfl⟩ := Option.map_eq_some_iff.mp h
    obtain ⟨u, v, rfl, rfl, rfl⟩ := strEq_inv h1
    obtain ⟨rfl, _⟩ := rp_str_inv rx
    obtain ⟨rfl, _⟩ := rp_str_inv ry
    exact .inr ⟨rfl, by rw [strV_eq]; exact post _ rfl⟩
/-- own on the left, own on the right -/
def gOL (f : D → D → Option D) (i : Nat) (gb : M D) : M D := fun S => (ownOf S i).bind fun o => (gb S).bind fun p => (cellOf p.2 o.1).bind fun cs => match f (.list cs) p.1 with
  | some (.bool b) => some (.bool b, p.2)
  | _ => none
def gOR (f : D → D → Option D) (gb : M D) (i : Nat) : M D := fun S => (gb S).bind fun p => (ownOf p.2 i).bind fun o => match f p.1 (.list o.2) with
  | some (.bool b) => some (.bool b, p.2)
  | _ => none
theorem rp_cell {K : PySem.W.Frag} {F H : Hp} {a : Addr} {vs : List V} {cs : List D} (s : Same F H) (h : H a = some (.lst vs)) (r : Rps K F vs cs) (hz : cs.length ≤ sizeLine) : Rp K H (.ref a) (.list cs) := .lst h (Rps.mono s _ _ r) hz
theorem rd_OL {K : PySem.W.Frag} {r : R2} {f : D → D → Option D} {tb : TE} (i : Nat) (hf : RdB K r f) (rb : RdE K tb gb) : RdE K (tOp r (tVar i) tb) (gOL f i gb) := by
  intro A F H S σ d S' Q k h post
  obtain ⟨⟨j, cs0⟩, e0, h⟩ := bind_inv h
  obtain ⟨⟨x, S1⟩, e1, h⟩ := bind_inv h
  obtain ⟨cs, e2, h⟩ := bind_inv h
  obtain ⟨a, vs0, _, _, ha, ev, _⟩ := own_at k e0
  refine ⟨_, ev, rb A F H S σ x S1 _ k e1 fun A1 F1 H1 v p1 s1 k1 r1 => ?_⟩
  obtain ⟨vs, _, _, hv', rr, hz⟩ := cell_at k1 e2 (prefix_at p1 ha)
  simp only at h
  split at h
  · rename_i b hb
    cases h
    exact hf H1 _ _ _ _ _ Q (rp_cell k1.sub.same hv' rr hz) (r1.mono k1.sub.same _ _) hb fun b' eb => by cases eb; exact post A1 F1 H1 _ p1 s1 k1 (.bl _)
  · cases h
theorem t_eqO (i : Nat) (hu : X.A.units + 64 < cLine) (hb : GE X b gb) (hN : X.N[i]? = some y := by rfl) (hv : Vis X.env.scope y := by first | exact Or.inl rfl | exact Or.inr (Or.inl rfl) | exact Or.inr (Or.inr rfl)) (hdy : (y == ("__debug__" : Str)) = false := by decide) (hcd : (y == ("__classdict__" : Str)) = false := by decide) :
    GT X (.Compare (.Name y py) [.Eq] [b] pos) (gB (gOL dEq i gb)) := let ⟨_, pb, rb⟩ := hb.ex; ⟨_, pt_cmpR (op_eqAny hu) (pe_var hN hv hdy hcd) pb (nomark _), rd_test (rd_OL i rb_eq rb)⟩
/-! ### lists that are written: append, extend, pop, xs[k] = v -/
def setCell (S : Sx) (j : Nat) (cs : List D) : Sx := ⟨S.sl, S.os.set j (some (.lst cs))⟩
/-- xs.append(e), its value None -/
def gApp (i : Nat) (ge : M D) : M D := fun S => (ownOf S i).bind fun o => (ge S).bind fun p => (cellOf p.2 o.1).bind fun cs => if cs.length < sizeLine then some (.none, setCell p.2 o.1 (cs ++ [p.1])) else none
theorem e_append (i : Nat) (he : GE X e ge) (hN : X.N[i]? = some y := by rfl) (hv : Vis X.env.scope y := by first | exact Or.inl rfl | exact Or.inr (Or.inl rfl) | exact Or.inr (Or.inr rfl)) (hdy : (y == ("__debug__" : Str)) = false := by decide) (hcd : (y == ("__classdict__" : Str)) = false := by decide)
    (hbase : attributeBase (.Name y py) "append" X.env (eval (.Name y py) X.env) = eval (.Name y py) X.env := by rfl)
    (hfew : ((backTo pos (starEach [e] X.env)).all (fun x => !x.1) && (backToKw pos (keywordEach [] X.env)).all (fun x => x.1.isSome) && decide (([e] : List Expr).length + ([] : List Keyword).length + (if ([] : List Keyword).isEmpty then 0 else 1) < 30)) = true := by rfl)
    (hline : (apos.endLine == pos.line) = true := by rfl) (hst : starEach [e] X.env = (false, eval e X.env) :: starEach [] X.env := by rfl) : GE X (.Call (.Attribute (.Name y py) "append" apos) [e] [] pos) (gApp i ge) := by
  obtain ⟨t, pa, ra⟩ := he.ex
  refine ⟨_, pe_bm PySem.F.plainAttrs_list PySem.F.slot_list_append PySem.F.type_list_append mt_append (pe_var hN hv hdy hcd) (pa_cons pa pa_nil hst) hbase hfew hline hst (by rfl), fun A F H S σ d S' Q k h post => ?_⟩
  obtain ⟨⟨j, cs0⟩, e0, h⟩ := bind_inv h
  obtain ⟨⟨x, S1⟩, e1, h⟩ := bind_inv h
  obtain ⟨cs, e2, h⟩ := bind_inv h
  simp only at h
  split at h
  · rename_i hlt
    cases h
    obtain ⟨a, vs0, _, _, ha, ev, _, hv0, _, _⟩ := own_at k e0
    refine ⟨_, ev, .inl ⟨rfl, _, SqL.of hv0⟩, ra A F H S σ x S1 _ k e1 fun A1 F1 H1 v p1 s1 k1 r1 => ?_⟩
    obtain ⟨vs, ec, fa, hv', rr, hz⟩ := cell_at k1 e2 (prefix_at p1 ha)
    refine ⟨a, vs, v, rfl, rfl, hv', by rw [rr.length]; exact hlt, ?_⟩
    exact post A1 F1 _ _ p1 s1 (k1.cellSet ec (prefix_at p1 ha) trivial ⟨_, upd_same, rr.append (.cons r1 .nil), by rw [List.length_append]; exact hlt⟩) .non
  · cases h
def gExt (i : Nat) (ge : M D) : M D := fun S => (ownOf S i).bind fun o => (ge S).bind fun p => (cellOf p.2 o.1).bind fun cs => match p.1 with
  | .list xs => if cs.length + xs.length ≤ sizeLine then some (.none, setCell p.2 o.1 (cs ++ xs)) else none
  | _ => none
theorem e_extend (i : Nat) (he : GE X e ge) (hN : X.N[i]? = some y := by rfl) (hv : Vis X.env.scope y := by first | exact Or.inl rfl | exact Or.inr (Or.inl rfl) | exact Or.inr (Or.inr rfl)) (hdy : (y == ("__debug__" : Str)) = false := by decide) (hcd : (y == ("__classdict__" : Str)) = false := by decide)
    (hbase : attributeBase (.Name y py) "extend" X.env (eval (.Name y py) X.env) = eval (.Name y py) X.env := by rfl)
    (hfew : ((backTo pos (starEach [e] X.env)).all (fun x => !x.1) && (backToKw pos (keywordEach [] X.env)).all (fun x => x.1.isSome) && decide (([e] : List Expr).length + ([] : List Keyword).length + (if ([] : List Keyword).isEmpty then 0 else 1) < 30)) = true := by rfl)
    (hline : (apos.endLine == pos.line) = true := by rfl) (hst : starEach [e] X.env = (false, eval e X.env) :: starEach [] X.env := by rfl) : GE X (.Call (.Attribute (.Name y py) "extend" apos) [e] [] pos) (gExt i ge) := by
  obtain ⟨t, pa, ra⟩ := he.ex
  refine ⟨_, pe_bm PySem.F.plainAttrs_list PySem.F.slot_list_extend PySem.F.type_list_extend mt_extend (pe_var hN hv hdy hcd) (pa_cons pa pa_nil hst) hbase hfew hline hst (by rfl), fun A F H S σ d S' Q k h post => ?_⟩
  obtain ⟨⟨j, cs0⟩, e0, h⟩ := bind_inv h
  obtain ⟨⟨x, S1⟩, e1, h⟩ := bind_inv h
  obtain ⟨cs, e2, h⟩ := bind_inv h
  cases x <;> simp only at h <;> try cases h
  split at h
  · rename_i hlt
    cases h
    obtain ⟨a, vs0, _, _, ha, ev, _, hv0, _, _⟩ := own_at k e0
    refine ⟨_, ev, .inl ⟨rfl, _, SqL.of hv0⟩, ra A F H S σ _ S1 _ k e1 fun A1 F1 H1 v p1 s1 k1 r1 => ?_⟩
    obtain ⟨vs, ec, fa, hv', rr, hz⟩ := cell_at k1 e2 (prefix_at p1 ha)
    obtain ⟨b, us, rfl, g1, g2, g3⟩ := rp_list_inv r1
    refine ⟨a, b, vs, us, rfl, rfl, hv', k1.sub.same _ _ g1, by rw [rr.length, g2.length]; exact hlt, ?_⟩
    exact post A1 F1 _ _ p1 s1 (k1.cellSet ec (prefix_at p1 ha) trivial ⟨_, upd_same, rr.append g2, by rw [List.length_append]; exact hlt⟩) .non
  · cases h
def gPopAt (i : Nat) (ge : M D) : M D := fun S => (ownOf S i).bind fun o => (ge S).bind fun p => (cellOf p.2 o.1).bind fun cs => match p.1 with
  | .int n => if 0 ≤ n ∧ n < cs.length then (cs[n.toNat]?).bind fun d => some (d, setCell p.2 o.1 (cs.eraseIdx n.toNat)) else none
  | _ => none
theorem e_popAt (i : Nat) (he : GE X e ge) (hN : X.N[i]? = some y := by rfl) (hv : Vis X.env.scope y := by first | exact Or.inl rfl | exact Or.inr (Or.inl rfl) | exact Or.inr (Or.inr rfl)) (hdy : (y == ("__debug__" : Str)) = false := by decide) (hcd : (y == ("__classdict__" : Str)) = false := by decide)
    (hbase : attributeBase (.Name y py) "pop" X.env (eval (.Name y py) X.env) = eval (.Name y py) X.env := by rfl)
    (hfew : ((backTo pos (starEach [e] X.env)).all (fun x => !x.1) && (backToKw pos (keywordEach [] X.env)).all (fun x => x.1.isSome) && decide (([e] : List Expr).length + ([] : List Keyword).length + (if ([] : List Keyword).isEmpty then 0 else 1) < 30)) = true := by rfl)
    (hline : (apos.endLine == pos.line) = true := by rfl) (hst : starEach [e] X.env = (false, eval e X.env) :: starEach [] X.env := by rfl) : GE X (.Call (.Attribute (.Name y py) "pop" apos) [e] [] pos) (gPopAt i ge) := by
  obtain ⟨t, pa, ra⟩ := he.ex
  refine ⟨_, pe_bm PySem.F.plainAttrs_list PySem.F.slot_list_pop PySem.F.type_list_pop mt_popAt (pe_var hN hv hdy hcd) (pa_cons pa pa_nil hst) hbase hfew hline hst (by rfl), fun A F H S σ d S' Q k h post => ?_⟩
  obtain ⟨⟨j, cs0⟩, e0, h⟩ := bind_inv h
  obtain ⟨⟨x, S1⟩, e1, h⟩ := bind_inv h
  obtain ⟨cs, e2, h⟩ := bind_inv h
  cases x with
  | int n =>
    simp only at h
    split at h
    · rename_i hn
      obtain ⟨d', e3, h⟩ := bind_inv h
      cases h
      obtain ⟨a, vs0, _, _, ha, ev, _, hv0, _, _⟩ := own_at k e0
      refine ⟨_, ev, .inl ⟨rfl, _, SqL.of hv0⟩, ra A F H S σ _ S1 _ k e1 fun A1 F1 H1 v p1 s1 k1 r1 => ?_⟩
      obtain ⟨vs, ec, fa, hv', rr, hz⟩ := cell_at k1 e2 (prefix_at p1 ha)
      cases rp_int_inv r1
      obtain ⟨w, ew, rw'⟩ := rr.get e3
      have hl := line_int
      refine ⟨a, vs, n, n.toNat, w, rfl, rfl, hv', by omega, by omega, seqIndex_of hn.1 (by rw [rr.length]; exact hn.2), ew, ?_⟩
      refine post A1 F1 _ w p1 s1 (k1.cellSet ec (prefix_at p1 ha) trivial ⟨_, upd_same, rr.erase _, ?_⟩) rw'
      have := len_erase cs n.toNat
      omega
    · cases h
  | _ => cases h
/-- xs[k] = v -/
def qSetO (i : Nat) (gb ge : M D) : Sx → Option Out := fun S => (ge S).bind fun p => (ownOf p.2 i).bind fun o => (gb p.2).bind fun q => match q.1 with
  | .int n => (cellOf q.2 o.1).bind fun cs => (ixN cs.length n).bind fun m => some (.nx (setCell q.2 o.1 (cs.set m p.1)))
  | _ => none
theorem s_setO {spos : Pos} (i : Nat) (hb : GE X b gb) (he : GE X e ge) (hN : X.N[i]? = some y := by rfl) (hv : Vis X.env.scope y := by first | exact Or.inl rfl | exact Or.inr (Or.inl rfl) | exact Or.inr (Or.inr rfl)) (hdy : (y == ("__debug__" : Str)) = false := by decide) (hcd : (y == ("__classdict__" : Str)) = false := by decide)
    (ha : ∀ v, assign (.Subscript (.Name y py) b pos) X.env v = (do
      let ov ← holding [v] (eval (.Name y py) X.env)
      let iv ← holding [v, ov] (eval b X.env)
      standAt pos
      holding [v, ov, iv] (setItem ov iv v)
      release [v, ov, iv] []) := by intro _; rfl)
    (hs : swapsWithSole [.Subscript (.Name y py) b pos] e spos.line X.env = pure false := by rfl) (hw : swappedStores [.Subscript (.Name y py) b pos] e X.env = pure none := by rfl)
    (h1 : (assignEach [.Subscript (.Name y py) b pos] X.env).map (·.2) = [assign (.Subscript (.Name y py) b pos) X.env] := by rfl) : GS X P (.Assign [.Subscript (.Name y py) b pos] e spos) (qSetO i gb ge) := by
  obtain ⟨t, pe, re⟩ := he.ex
  obtain ⟨u, pb, rb⟩ := hb.ex
  refine ⟨_, ps_asg pe (pg_sub (pe_var hN hv hdy hcd) pb set_list ha) hs hw h1, fun B A0 A F H S σ o E hP s p k h post => ?_⟩
  obtain ⟨⟨d, S1⟩, e1, h⟩ := bind_inv h
  obtain ⟨⟨j, cs0⟩, e0, h⟩ := bind_inv h
  obtain ⟨⟨x, S2⟩, e2, h⟩ := bind_inv h
  cases x <;> simp only at h <;> try cases h
  rename_i n
  obtain ⟨cs, e3, h⟩ := bind_inv h
  obtain ⟨m, e4, h⟩ := bind_inv h
  cases h
  refine re A F H S σ d S1 _ k e1 fun A1 F1 H1 v p1 s1 k1 r1 => ?_
  obtain ⟨a, vs0, _, _, ha', ev, _, hv0, _, _⟩ := own_at k1 e0
  refine ⟨_, ev, rb A1 F1 H1 S1 σ _ S2 _ k1 e2 fun A2 F2 H2 w p2 s2 k2 r2 => ?_⟩
  cases rp_int_inv r2
  obtain ⟨vs, ec, fa, hv', rr, hz⟩ := cell_at k2 e3 (prefix_at p2 ha')
  refine ⟨a, vs, n, m, rfl, rfl, hv', by rw [rr.length]; exact e4, ?_⟩
  exact post A2 F2 _ _ (s.trans (s1.trans s2)) (p.trans (p1.trans p2)) (k2.cellSet ec (prefix_at p2 ha') trivial ⟨_, upd_same, Rps.set _ (r1.mono s2 _ _) rr, by rw [List.length_set]; exact hz⟩)

/-! ### x += e of numbers -/
end

/-! ### loops -/
def gLoop (gg : D → Sx → Option Sx) (body : Sx → Option Out) : List D → Sx → Option Out
  | [], S => some (.nx S)
  | d :: ds, S => (gg d S).bind fun S1 => (body S1).bind fun o => match o with
    | .nx S2 => gLoop gg body ds S2
    | .ct S2 => gLoop gg body ds S2
    | .bk S2 => some (.nx S2)
    | .rt d S2 => some (.rt d S2)
    | .ro j S2 => some (.ro j S2)
def qFor (gi : M (List D)) (gg : D → Sx → Option Sx) (body : Sx → Option Out) : Sx → Option Out := fun S => (gi S).bind fun p => gLoop gg body p.1 p.2
section
variable {K : PySem.W.Frag} {P : Hp → Prop}
/-- the loop, its walk over a heap W that B holds -/
theorem rd_loop {g : TG} {tb : TS} {gg : D → Sx → Option Sx} {body : Sx → Option Out} {tgt : List Nat} (hg : RdG K tgt g gg) (hb : RdS K P tb body) {B W : Hp} {A0 : List Addr} {J : It} {ds : List D} {E : Ends} {o : Out} (hP : P B) (w : Walk K W J ds) (hW : Same W B)
    (post : OutP K B A0 o E) {A : List Addr} {F H : Hp} {S : Sx} {σ : L2.St} (s : Same B F) (p : A0 <+: A) (k : Ok K A F H S σ) (e : gLoop gg body ds S = some o) :
    ∃ Wi : Nat → Nat → L2.St → Hp → Prop, (∃ m, Wi 0 m σ H) ∧ ∀ i m σ H, Wi i m σ H →
      (J.stop i H ∧ E.nx σ H) ∨ (J.go i H ∧ ∃ N : L2.St → Hp → Prop, (∀ σ' H', N σ' H' → ∃ m', m' < m ∧ Wi (i + 1) m' σ' H') ∧ ∀ x H', J.yld i H x H' → g x σ H' fun σ2 H2 => tb { E with nx := N, ct := N, bk := E.nx } σ2 H2) := by
  refine ⟨fun i m σ H => m = ds.length - i ∧ i ≤ ds.length ∧ ∃ A F S, Same B F ∧ A0 <+: A ∧ Ok K A F H S σ ∧ gLoop gg body (ds.drop i) S = some o, ⟨ds.length, by simp, Nat.zero_le _, A, F, S, s, p, k, by simpa using e⟩, ?_⟩
  rintro i m σ1 H1 ⟨rfl, hil, A1, F1, S1, s1, p1, k1, e1⟩
  have sWH : Same W H1 := (hW.trans s1).trans k1.sub.same
  by_cases hlt : i < ds.length
  · refine .inr ⟨w.go i _ sWH hlt, fun σ' H' => i + 1 ≤ ds.length ∧ ∃ A F S, Same B F ∧ A0 <+: A ∧ Ok K A F H' S σ' ∧ gLoop gg body (ds.drop (i + 1)) S = some o, fun σ' H' h => ⟨ds.length - (i + 1), by omega, rfl, h⟩, fun x H' hy => ?_⟩
    rw [List.drop_eq_getElem_cons hlt] at e1
    obtain ⟨S2, e2, e1⟩ := bind_inv (show (gg ds[i] S1).bind _ = _ from e1)
    obtain ⟨o2, e3, e1⟩ := bind_inv e1
    have key : ∃ F2, Same F1 F2 ∧ Ok K A1 F2 H' S1 σ1 ∧ Rp K F2 x ds[i] := by
      rcases w.yld i ds[i] _ x H' sWH (List.getElem?_eq_getElem hlt) hy with ⟨rfl, r⟩ | ⟨T, ws, es, rfl, hT, rfl, ed, r, hz2⟩
      · exact ⟨F1, Same.refl _, k1, (r.mono hW _ _).mono s1 _ _⟩
      · obtain ⟨s3, k3, r3⟩ := k1.newTup hT (Rps.mono s1 _ _ (Rps.mono hW _ _ r)) hz2
        exact ⟨_, s3, k3, by rw [ed]; exact r3⟩
    obtain ⟨F2, s2, k2, rx⟩ := key
    refine hg A1 F2 H' S1 σ1 x ds[i] S2 _ k2 rx e2 fun A3 F3 H3 σ3 p3 s3 k3 _ => ?_
    refine hb B A0 A3 F3 H3 S2 σ3 o2 _ hP (s1.trans (s2.trans s3)) (p1.trans p3) k3 e3 ?_
    cases o2 with
    | nx S4 => exact fun A4 F4 H4 σ4 s4 p4 k4 => ⟨hlt, A4, F4, S4, s4, p4, k4, e1⟩
    | ct S4 => exact fun A4 F4 H4 σ4 s4 p4 k4 => ⟨hlt, A4, F4, S4, s4, p4, k4, e1⟩
    | bk S4 => cases e1; exact post
    | rt d S4 => cases e1; exact post
    | ro j S4 => cases e1; exact post
  · have ei : i = ds.length := by omega
    subst ei
    rw [List.drop_length] at e1
    cases e1
    exact .inl ⟨w.stop _ _ sWH (Nat.le_refl _), post A1 F1 H1 σ1 s1 p1 k1⟩
end
section
variable {X : Cx} {P : Hp → Prop} {pos : Pos} {tg iter : Expr} {body : List Stmt} {gi : M (List D)} {gg : D → Sx → Option Sx} {g : Sx → Option Out} {tgt : List Nat}
theorem same_outp {K : PySem.W.Frag} {B B' : Hp} {A0 A0' : List Addr} {o : Out} {E : Ends} (s : Same B B') (p : A0 <+: A0') (h : OutP K B A0 o E) : OutP K B' A0' o E := by
  cases o with
  | nx S => exact fun A F H σ s1 p1 k => h A F H σ (s.trans s1) (p.trans p1) k
  | rt d S => exact fun A F H σ v s1 p1 k => h A F H σ v (s.trans s1) (p.trans p1) k
  | bk S => exact fun A F H σ s1 p1 k => h A F H σ (s.trans s1) (p.trans p1) k
  | ct S => exact fun A F H σ s1 p1 k => h A F H σ (s.trans s1) (p.trans p1) k
  | ro j S => exact fun A F H σ a s1 p1 k => h A F H σ a (s.trans s1) (p.trans p1) k
/-- over data that stand: the body may be judged over any base -/
theorem s_for (hp : PassesOwn (model X.prog X.w) X.A X.env X.xe) (hi : GI X tg iter gi) (hg : GG X tgt tg gg) (hb : GSs X P body g) (hPall : ∀ B, P B) (hc : X.calm = true := by rfl) (hs : ∀ x, foldedSetIterable iter X.env x = pure x := by intro _; rfl) : GS X P (.For tg iter body [] pos) (qFor gi gg g) := by
  obtain ⟨t, pi, ri⟩ := hi.ex
  obtain ⟨u, pg, rg⟩ := hg.ex
  obtain ⟨v, pb, rb⟩ := hb.ex
  refine ⟨_, ps_for hp hc pi pg pb hs, fun B A0 A F H S σ o E hP s p k e post => ?_⟩
  obtain ⟨⟨ds, S1⟩, e1, e⟩ := bind_inv e
  exact ri A F H S σ ds S1 _ k e1 fun A1 F1 H1 J p1 s1 k1 w _ => rd_loop rg rb (hPall F1) w (Same.refl F1) (same_outp (s.trans s1) p post) (Same.refl F1) (p1) k1 e
/-- over numbers -/
theorem s_for0 (hp : PassesOwn (model X.prog X.w) X.A X.env X.xe) (hi : GI0 X tg iter gi) (hg : GG X tgt tg gg) (hb : GSs X P body g) (hc : X.calm = true := by rfl) (hs : ∀ x, foldedSetIterable iter X.env x = pure x := by intro _; rfl) : GS X P (.For tg iter body [] pos) (qFor gi gg g) := by
  obtain ⟨t, pi, ri⟩ := hi.ex
  obtain ⟨u, pg, rg⟩ := hg.ex
  obtain ⟨v, pb, rb⟩ := hb.ex
  refine ⟨_, ps_for hp hc pi pg pb hs, fun B A0 A F H S σ o E hP s p k e post => ?_⟩
  obtain ⟨⟨ds, S1⟩, e1, e⟩ := bind_inv e
  exact ri A F H S σ ds S1 _ k e1 fun A1 F1 H1 J p1 s1 k1 w => rd_loop rg rb hP w (fun b o q => nomatch q) post (s.trans s1) (p.trans p1) k1 e
end
end Fu

set_option maxHeartbeats 4000000
namespace Fu
open PySem PySem.Spec PyProof.Rows L2 RZ

/-! ### defs -/
def initS (n : Nat) (ds : List D) : List (Option R) := ds.map (fun d => some (.dat d)) ++ List.replicate (n - ds.length) none
/-- a def's value by data -/
def mF (n : Nat) (g : Sx → Option Out) : List D → Option D := fun ds => (g ⟨initS n ds, []⟩).bind fun o => match o with
  | .nx _ => some .none
  | .rt d _ => some d
  | _ => none
/-- .. where the first argument is a list that it writes -/
def mIO (n : Nat) (g : Sx → Option Out) : List D → List D → Option (D × List D) := fun cs ds => (g ⟨some (.own 0) :: initS (n - 1) ds, [some (.lst cs)]⟩).bind fun o => match o with
  | .nx S => (cellOf S 0).bind fun c => some (.none, c)
  | .rt d S => (cellOf S 0).bind fun c => some (d, c)
  | _ => none
theorem initS_in {n : Nat} {ds : List D} {i : Nat} {r : R} (h : (initS n ds)[i]? = some (some r)) : ∃ d, ds[i]? = some d ∧ r = .dat d := by
  unfold initS at h
  by_cases hi : i < ds.length
  · rw [List.getElem?_append_left (by simpa using hi), List.getElem?_map] at h
    obtain ⟨d', e1, e2⟩ := Option.map_eq_some_iff.mp h
    cases e2
    exact ⟨d', e1, rfl⟩
  · rw [List.getElem?_append_right (by simp; omega)] at h
    have := List.mem_of_getElem? h
    rw [List.mem_replicate] at this
    exact nomatch this.2
theorem start_at {N : List Str} {vs : List V} {i : Nat} {v : V} (h : vs[i]? = some v) : (L2.start N vs)[i]? = some (some v) := by
  unfold L2.start
  rw [List.getElem?_append_left (by rw [List.length_map]; exact (List.getElem?_eq_some_iff.mp h).1), List.getElem?_map, h]
  rfl
theorem start_dat {K : PySem.W.Frag} {H : Hp} {N : List Str} {vs : List V} {ds : List D} (r : Rps K H vs ds) (hl : vs.length ≤ N.length) {H' : Hp} (s : Sub H H') : Ok K [] H H' ⟨initS N.length ds, []⟩ (L2.start N vs) := by
  refine ⟨s, ?_, rfl, List.nodup_nil, fun i q h => ?_, fun j c h => by simp at h, fun a h => by simp at h⟩
  · simp [initS, L2.start, r.length]
  · obtain ⟨d, e1, rfl⟩ := initS_in h
    obtain ⟨v, ev, rv⟩ := r.get e1
    exact ⟨v, start_at ev, .dat rv⟩
section
variable {P : Program} {w : World} {K : PySem.W.Frag} {mg : Str → Option Value} {base : Heap} {x qual : Str} {st : Stmt} {f : Addr} {fd : FuncData} {N ps : List Str} {k n : Nat} {g : Sx → Option Out}
abbrev AnyB : Hp → Prop := fun _ => True
/-- the context of the def's body -/
abbrev cxF (P : Program) (w : World) (K : PySem.W.Frag) (mg : Str → Option Value) (base : Heap) (N : List Str) (qual : Str) (st : Stmt) (f : Addr) (cdv : Value) (A : Around) (outer : List Env) (s : Shared) (H : Hp) (E : XK) : Cx := (cxOf CX0 P w K mg base N qual (defScope st) f cdv A outer s H E).nox
theorem fn_pure (F : Fun K x qual st f fd) (S : FnScope N ps (defScope st)) (hn : ps.length = n) (hN : n ≤ N.length)
    (body : ∀ (cdv : Value) (A : Around) (outer : List Env) (s : Shared) (H : Hp) (E : XK), Room k (A.deeper (envOfC qual (defScope st) s.heap.objs.size f cdv)) → GSs (cxF P w K mg base N qual st f cdv A outer s H E) AnyB (defBody st) g) :
    FnOk P w K mg base CX0 (k + 1) f fd ps (spF K n (mF N.length g)) := by
  refine F.ok S (spF_len hn) fun cdv A outer s H vs Q E hr h => ?_
  obtain ⟨ds, z, hd, r, e, post⟩ := h
  obtain ⟨t, p, rd⟩ := (body cdv A outer s H E hr).ex
  refine ⟨t, p, ?_⟩
  obtain ⟨o, e1, e⟩ := bind_inv e
  have hl : vs.length ≤ N.length := by rw [r.length, hd]; exact hN
  refine rd H [] [] H H _ (L2.start N vs) o _ trivial (Same.refl H) (List.prefix_refl _) (start_dat r hl (Sub.refl H)) e1 ?_
  cases o with
  | nx S => cases e; exact fun A1 F1 H1 σ1 s1 p1 k1 => post H1 .non (s1.trans k1.sub.same) .non
  | rt d S => cases e; exact fun A1 F1 H1 σ1 v s1 p1 k1 rv => post H1 v (s1.trans k1.sub.same) (rv.mono k1.sub.same _ _)
  | bk S => cases e
  | ct S => cases e
  | ro j S => cases e
theorem start_own {K : PySem.W.Frag} {F : Hp} {N : List Str} {a : Addr} {xs vs : List V} {cs ds : List D} (fa : F a = none) (rc : Rps K F xs cs) (hz : cs.length ≤ sizeLine) (r : Rps K F vs ds) (hl : vs.length + 1 ≤ N.length) :
    Ok K [a] F (upd F a (.lst xs)) ⟨some (.own 0) :: initS (N.length - 1) ds, [some (.lst cs)]⟩ (L2.start N (.ref a :: vs)) := by
  obtain ⟨m, M, rfl⟩ : ∃ m M, N = m :: M := by
    cases N with
    | nil => simp at hl
    | cons m M => exact ⟨m, M, rfl⟩
  have hl' : vs.length ≤ M.length := by simpa using hl
  have k := start_dat (N := M) r hl' (sub_one fa (o := .lst xs) trivial)
  have es : L2.start (m :: M) (.ref a :: vs) = some (.ref a) :: L2.start M vs := by
    unfold L2.start
    simp
  rw [es]
  simp only [List.length_cons, Nat.add_sub_cancel]
  refine ⟨k.sub, by simpa using k.len, rfl, by simp, fun i r h => ?_, fun j c h => ?_, fun b h => ?_⟩
  · cases i with
    | zero =>
      simp at h
      subst h
      exact ⟨_, rfl, .own rfl⟩
    | succ i =>
      obtain ⟨v, e1, r1⟩ := k.rslot i r (by simpa using h)
      exact ⟨v, by simpa using e1, r1.mono (List.nil_prefix) (Same.refl _) _ _⟩
  · cases j with
    | zero =>
      simp at h
      subst h
      exact ⟨a, rfl, fa, xs, upd_same, rc, hz⟩
    | succ j => simp at h
  · simp at h
    subst h
    exact ⟨_, upd_same⟩
theorem fn_io (F : Fun K x qual st f fd) (S : FnScope N ps (defScope st)) (hn : ps.length = n + 1) (hN : n + 1 ≤ N.length)
    (body : ∀ (cdv : Value) (A : Around) (outer : List Env) (s : Shared) (H : Hp) (E : XK), Room k (A.deeper (envOfC qual (defScope st) s.heap.objs.size f cdv)) → GSs (cxF P w K mg base N qual st f cdv A outer s H E) AnyB (defBody st) g) :
    FnOk P w K mg base CX0 (k + 1) f fd ps (spIO K n (mIO N.length g)) := by
  refine F.ok S (spIO_len hn) fun cdv A outer s H vs Q E hr h => ?_
  obtain ⟨a, xs, rest, F0, cs, ds, r, cs', rfl, fa, rfl, hz, rc, rr, hd, e, post⟩ := h
  obtain ⟨t, p, rd⟩ := (body cdv A outer s _ E hr).ex
  refine ⟨t, p, ?_⟩
  obtain ⟨o, e1, e⟩ := bind_inv e
  have hl : rest.length + 1 ≤ N.length := by rw [rr.length, hd]; exact hN
  have fin : ∀ (A1 : List Addr) (F1 H1 : Hp) (σ1 : L2.St) (S1 : Sx) (v : V) (d : D) (c : List D), Same F0 F1 → [a] <+: A1 → Ok K A1 F1 H1 S1 σ1 → Rp K F1 v d → cellOf S1 0 = some c → (d, c) = (r, cs') → Q v H1 := by
    intro A1 F1 H1 σ1 S1 v d c s1 p1 k1 rv hc ee
    cases ee
    have ha : A1[0]? = some a := prefix_at p1 rfl
    obtain ⟨us, ec, fa1, hv, rc1, hz1⟩ := cell_at k1 hc ha
    have s2 : Same F1 (fun b => if b = a then none else H1 b) := fun b o q => by
      show (if b = a then none else H1 b) = some o
      rw [if_neg (ne_of_none q fa1)]
      exact k1.sub.same b o q
    have := post (fun b => if b = a then none else H1 b) us v (s1.trans s2) (if_pos rfl) (Rps.mono s2 _ _ rc1) hz1 (rv.mono s2 _ _)
    rwa [show upd (fun b => if b = a then none else H1 b) a (.lst us) = H1 from ?_] at this
    funext b
    by_cases hb : b = a
    · subst hb; rw [upd_same, hv]
    · rw [upd_ne hb]; exact if_neg hb
  refine rd F0 [a] [a] F0 _ _ _ o _ trivial (Same.refl F0) (List.prefix_refl _) (start_own fa rc hz rr hl) e1 ?_
  cases o with
  | nx S =>
    obtain ⟨c, hc, e⟩ := bind_inv e
    exact fun A1 F1 H1 σ1 s1 p1 k1 => fin A1 F1 H1 σ1 S .non .none c s1 p1 k1 .non hc (by cases e; rfl)
  | rt d S =>
    obtain ⟨c, hc, e⟩ := bind_inv e
    exact fun A1 F1 H1 σ1 v s1 p1 k1 rv => fin A1 F1 H1 σ1 S v d c s1 p1 k1 rv hc (by cases e; rfl)
  | bk S => cases e
  | ct S => cases e
  | ro j S => cases e
end
theorem hu65 {A : Around} {k : Nat} (hr : Room k A) : A.units + 65 < cLine := by have := hr.un; omega


/-! ### defs that hand back a new list -/
/-- the heap without the list at a -/
def lessH (H : Hp) (a : Addr) : Hp := fun b => if b = a then none else H b
theorem less_upd {H : Hp} {a : Addr} {o : HO} (h : H a = some o) : upd (lessH H a) a o = H := by
  funext b
  by_cases hb : b = a
  · subst hb; rw [upd_same, h]
  · rw [upd_ne hb]; exact if_neg hb
theorem less_same {K : PySem.W.Frag} {A : List Addr} {F H : Hp} {S : Sx} {σ : L2.St} (k : Ok K A F H S σ) {a : Addr} (fa : F a = none) : Same F (lessH H a) := fun b o q => by
  show (if b = a then none else H b) = some o
  rw [if_neg (ne_of_none q fa)]
  exact k.sub.same b o q
section
variable {P : Program} {w : World} {K : PySem.W.Frag} {mg : Str → Option Value} {base : Heap} {x qual : Str} {st : Stmt} {f : Addr} {fd : FuncData} {N ps : List Str} {k n : Nat} {g : Sx → Option Out}
end
/-! ### the script -/
section
variable {X : Cx} {pos p p2 py : Pos} {y : Str} {lo hi : Option Expr} {gl gh : M (Option Int)}
def scrOf (S : Sx) (i : Nat) : Option (List Int) := match S.sl[i]? with
  | some (some (.scr ns)) => some ns
  | _ => none
theorem scr_at {K : PySem.W.Frag} {A : List Addr} {F H : Hp} {S : Sx} {σ : L2.St} {i : Nat} {ns : List Int} (k : Ok K A F H S σ) (h : scrOf S i = some ns) : ns.length ≤ 63 ∧ ∃ a, σ[i]? = some (some (.ref a)) ∧ SqL K F a (ns.map V.int) := by
  unfold scrOf at h
  split at h
  · rename_i ns' e
    cases h
    exact k.sslot i _ e
  · cases h
def gScrSl (i : Nat) (gl gh : M (Option Int)) : M D := fun S => (scrOf S i).bind fun ns => (gl S).bind fun q => (gh q.2).bind fun r => some (.list ((cutL ns q.1 r.1).map .int), r.2)
theorem cut_map {α β : Type} (f : α → β) (xs : List α) (lo hi : Option Int) : cutL (xs.map f) lo hi = (cutL xs lo hi).map f := by
  unfold cutL
  rw [List.length_map, List.map_take, List.map_drop]
theorem e_scrSl (i : Nat) (hl : GO X lo gl) (hh : GO X hi gh) (hN : X.N[i]? = some y := by rfl) (hv : Vis X.env.scope y := by first | exact Or.inl rfl | exact Or.inr (Or.inl rfl) | exact Or.inr (Or.inr rfl)) (hdy : (y == ("__debug__" : Str)) = false := by decide) (hcd : (y == ("__classdict__" : Str)) = false := by decide) :
    GE X (.Subscript (.Name y py) (.Slice lo hi none p2) pos) (gScrSl i gl gh) := by
  obtain ⟨_, pl, rl⟩ := hl.ex
  obtain ⟨_, ph, rh⟩ := hh.ex
  refine ⟨_, pe_slice sl_list (pe_var hN hv hdy hcd) pl ph, fun A F H S σ d S' Q k e post => ?_⟩
  obtain ⟨ns, e0, e⟩ := bind_inv e
  obtain ⟨⟨l, S2⟩, h2, e⟩ := bind_inv e
  obtain ⟨⟨u, S3⟩, h3, e⟩ := bind_inv e
  cases e
  obtain ⟨hz, a, ev, hs⟩ := scr_at k e0
  refine ⟨_, ev, rl A F H S σ l _ _ k h2 fun A2 F2 H2 p2 s2 k2 => rh A2 F2 H2 _ σ u _ _ k2 h3 fun A3 F3 H3 p3 s3 k3 => ⟨a, _, rfl, k3.sub.same.seq (s3.seq (s2.seq hs)), fun p hp => ?_⟩⟩
  have e2 : cutV (ns.map V.int) l u = (cutL ns l u).map V.int := cut_map V.int ns l u
  rw [e2]
  obtain ⟨s4, k4, r4⟩ := k3.newList hp (Rps.ints (cutL ns l u)) (by
    rw [List.length_map]
    have h1 := cutL_le ns l u
    have h2 : (63 : Nat) ≤ sizeLine := by decide
    omega)
  exact post A3 _ _ _ (p2.trans p3) (s2.trans (s3.trans s4)) k4 r4
def gScrLen (i : Nat) : M D := fun S => (scrOf S i).bind fun ns => some (.int ns.length, S)
theorem e_scrLen (i : Nat) (hm : X.mg "len" = none) (hN : X.N[i]? = some y := by rfl) (hv : Vis X.env.scope y := by first | exact Or.inl rfl | exact Or.inr (Or.inl rfl) | exact Or.inr (Or.inr rfl)) (hdy : (y == ("__debug__" : Str)) = false := by decide) (hcd : (y == ("__classdict__" : Str)) = false := by decide)
    (hg : Gl X "len" := by rfl) (he : starEach [.Name y py] X.env = (false, eval (.Name y py) X.env) :: starEach [] X.env := by rfl) : GE X (.Call (.Name "len" p) [.Name y py] [] pos) (gScrLen i) := by
  refine ⟨_, pe_callB call_len hg hm PySem.boot_len (pa_cons (pe_var hN hv hdy hcd) pa_nil he) (by decide) (by decide) he (by rfl), fun A F H S σ d S' Q k h post => ?_⟩
  obtain ⟨ns, e0, h⟩ := bind_inv h
  cases h
  obtain ⟨hz, a, ev, hs⟩ := scr_at k e0
  exact ⟨_, ev, _, _, rfl, .inl ⟨_, k.sub.same.seq hs, (List.length_map _).symm⟩, post A F H _ (List.prefix_refl _) (Same.refl F) k (.int _)⟩
end
/-- a def of the script that hands back a new list -/
def spScrN (K : PySem.W.Frag) (f : List Int → Option (List D)) : Sp := fun vs H Q _ => ∃ a ns zs, vs = [.ref a] ∧ SqL K H a (ns.map V.int) ∧ ns.length ≤ 63 ∧ f ns = some zs ∧
  ∀ F p us, Same H F → F p = none → Rps K F us zs → zs.length ≤ sizeLine → Q (.ref p) (upd F p (.lst us))
def mScrN (n : Nat) (g : Sx → Option Out) : List Int → Option (List D) := fun ns => (g ⟨some (.scr ns) :: List.replicate (n - 1) none, []⟩).bind fun o => match o with
  | .ro j S => cellOf S j
  | _ => none
/-- the law: True -/
def mScr (n : Nat) (g : Sx → Option Out) : List Int → Option D := fun ns => (g ⟨some (.scr ns) :: List.replicate (n - 1) none, []⟩).bind fun o => match o with
  | .rt d _ => some d
  | _ => none
/-- nothing that is written stands there -/
def NoLst (B : Hp) : Prop := ∀ b xs, B b ≠ some (.lst xs)
def spLaw (K : PySem.W.Frag) (f : List Int → Option D) : Sp := fun vs H Q _ => ∃ a ns, vs = [.ref a] ∧ SqL K H a (ns.map V.int) ∧ ns.length ≤ 63 ∧ NoLst H ∧ f ns = some (.bool true) ∧ ∀ H', Q (.bl true) H'
theorem start_scr {K : PySem.W.Frag} {H : Hp} {N : List Str} {a : Addr} {ns : List Int} (h : SqL K H a (ns.map V.int)) (hz : ns.length ≤ 63) (hN : 1 ≤ N.length) : Ok K [] H H ⟨some (.scr ns) :: List.replicate (N.length - 1) none, []⟩ (L2.start N [.ref a]) := by
  refine ⟨Sub.refl H, ?_, rfl, List.nodup_nil, fun i r e => ?_, fun j c e => by simp at e, fun b e => by simp at e⟩
  · simp [L2.start]
  · cases i with
    | zero =>
      simp at e
      subst e
      exact ⟨_, rfl, .scr hz h⟩
    | succ i =>
      have := List.mem_of_getElem? (show (List.replicate (N.length - 1) (none : Option R))[i]? = some (some r) by simpa using e)
      rw [List.mem_replicate] at this
      exact nomatch this.2
section
variable {P : Program} {w : World} {K : PySem.W.Frag} {mg : Str → Option Value} {base : Heap} {x qual : Str} {st : Stmt} {f : Addr} {fd : FuncData} {N ps : List Str} {k n : Nat} {g : Sx → Option Out}
theorem fn_scrN (F : Fun K x qual st f fd) (S : FnScope N ps (defScope st)) (hn : ps.length = 1) (hN : 1 ≤ N.length)
    (body : ∀ (cdv : Value) (A : Around) (outer : List Env) (s : Shared) (H : Hp) (E : XK), Room k (A.deeper (envOfC qual (defScope st) s.heap.objs.size f cdv)) → GSs (cxF P w K mg base N qual st f cdv A outer s H E) AnyB (defBody st) g) :
    FnOk P w K mg base CX0 (k + 1) f fd ps (spScrN K (mScrN N.length g)) := by
  refine F.ok S (fun vs H Q E h => by obtain ⟨a, ns, zs, rfl, _⟩ := h; exact hn.symm) fun cdv A outer s H vs Q E hr h => ?_
  obtain ⟨a, ns, zs, rfl, hs, hz, e, post⟩ := h
  obtain ⟨t, p, rd⟩ := (body cdv A outer s H E hr).ex
  refine ⟨t, p, ?_⟩
  obtain ⟨o, e1, e⟩ := bind_inv e
  refine rd H [] [] H H _ _ o _ trivial (Same.refl H) (List.prefix_refl _) (start_scr hs hz hN) e1 ?_
  cases o with
  | nx S => cases e
  | rt d S => cases e
  | bk S => cases e
  | ct S => cases e
  | ro j S =>
    intro A1 F1 H1 σ1 a s1 p1 k1 ha
    obtain ⟨us, ec, fa, hv, rc, hz⟩ := cell_at k1 e ha
    have := post (lessH H1 a) a us (s1.trans (less_same k1 fa)) (if_pos rfl) (Rps.mono (less_same k1 fa) _ _ rc) hz
    rwa [less_upd hv] at this
end

/-! ### a def by its name -/
def Has (P : Program) (w : World) (K : PySem.W.Frag) (mg : Str → Option Value) (base : Heap) (x : Str) (k : Nat) (ps : List Str) (sp : Sp) : Prop :=
  ∃ f fd, mg x = some (.ref f) ∧ PySem.W.keepIn K (.ref f) = true ∧ L2.Binds K fd ps [] ∧ FnOk P w K mg base CX0 k f fd ps sp
def DefAt (K : PySem.W.Frag) (mg : Str → Option Value) (x : Str) (st : Stmt) (ps : List Str) : Prop := ∃ f fd, mg x = some (.ref f) ∧ Fun K x x st f fd ∧ L2.Binds K fd ps []
theorem Has.imp {P : Program} {w : World} {K : PySem.W.Frag} {mg : Str → Option Value} {base : Heap} {x : Str} {k : Nat} {ps : List Str} {sp sp' : Sp} (h : Has P w K mg base x k ps sp) (i : ∀ vs H Q E, sp' vs H Q E → sp vs H Q E) : Has P w K mg base x k ps sp' :=
  let ⟨f, fd, a, b, c, F⟩ := h; ⟨f, fd, a, b, c, F.imp i⟩
section
variable {P : Program} {w : World} {K : PySem.W.Frag} {mg : Str → Option Value} {base : Heap} {x : Str} {st : Stmt} {N ps : List Str} {k n : Nat} {g : Sx → Option Out}
abbrev Body (P : Program) (w : World) (K : PySem.W.Frag) (mg : Str → Option Value) (base : Heap) (N : List Str) (x : Str) (st : Stmt) (k : Nat) (Pb : Hp → Prop) (g : Sx → Option Out) : Prop :=
  ∀ (f : Addr) (cdv : Value) (A : Around) (outer : List Env) (s : Shared) (H : Hp) (E : XK), Room k (A.deeper (envOfC x (defScope st) s.heap.objs.size f cdv)) → GSs (cxF P w K mg base N x st f cdv A outer s H E) Pb (defBody st) g
theorem has_pure (D : DefAt K mg x st ps) (S : FnScope N ps (defScope st)) (hn : ps.length = n) (hN : n ≤ N.length) (body : Body P w K mg base N x st k AnyB g) : Has P w K mg base x (k + 1) ps (spF K n (mF N.length g)) :=
  let ⟨f, fd, m, F, b⟩ := D; ⟨f, fd, m, F.kp, b, fn_pure F S hn hN (body f)⟩
theorem has_io (D : DefAt K mg x st ps) (S : FnScope N ps (defScope st)) (hn : ps.length = n + 1) (hN : n + 1 ≤ N.length) (body : Body P w K mg base N x st k AnyB g) : Has P w K mg base x (k + 1) ps (spIO K n (mIO N.length g)) :=
  let ⟨f, fd, m, F, b⟩ := D; ⟨f, fd, m, F.kp, b, fn_io F S hn hN (body f)⟩
theorem has_scrN (D : DefAt K mg x st ps) (S : FnScope N ps (defScope st)) (hn : ps.length = 1) (hN : 1 ≤ N.length) (body : Body P w K mg base N x st k AnyB g) : Has P w K mg base x (k + 1) ps (spScrN K (mScrN N.length g)) :=
  let ⟨f, fd, m, F, b⟩ := D; ⟨f, fd, m, F.kp, b, fn_scrN F S hn hN (body f)⟩
end
section
variable {X : Cx} {pos p p2 py : Pos} {x y : Str} {e : Expr} {es : List Expr} {gs : M (List D)} {k n : Nat} {ps : List Str}
theorem e_callH {f : List D → Option D} (h : Has X.prog X.w X.K X.mg X.base x k ps (spF X.K n f)) (hr : Room k X.A) (ha : GA X (e :: es) gs) (hg : Gl X x := by rfl) (hdb : (x == ("__debug__" : Str)) = false := by decide)
    (he : starEach (e :: es) X.env = (false, eval e X.env) :: starEach es X.env := by rfl) (hpl : (backTo pos (starEach es X.env)).any (·.1) = false := by rfl) : GE X (.Call (.Name x p) (e :: es) [] pos) (gCallF n f gs) :=
  let ⟨fa, fd, m, kp, b, F⟩ := h; e_call F hr m kp b pass0 ha hg hdb he hpl
theorem e_callHIO {f : List D → List D → Option (D × List D)} (i : Nat) (h : Has X.prog X.w X.K X.mg X.base x k ps (spIO X.K n f)) (hr : Room k X.A) (ha : GA X es gs)
    (hN : X.N[i]? = some y := by rfl) (hv : Vis X.env.scope y := by first | exact Or.inl rfl | exact Or.inr (Or.inl rfl) | exact Or.inr (Or.inr rfl)) (hdy : (y == ("__debug__" : Str)) = false := by decide) (hcd : (y == ("__classdict__" : Str)) = false := by decide)
    (hg : Gl X x := by rfl) (hdb : (x == ("__debug__" : Str)) = false := by decide) (he : starEach (.Name y py :: es) X.env = (false, eval (.Name y py) X.env) :: starEach es X.env := by rfl) (hpl : (backTo pos (starEach es X.env)).any (·.1) = false := by rfl) :
    GE X (.Call (.Name x p) (.Name y py :: es) [] pos) (gIO i n f gs) :=
  let ⟨fa, fd, m, kp, b, F⟩ := h; e_callIO i F hr m kp b pass0 ha hN hv hdy hcd hg hdb he hpl
theorem mix_new {F1 H1 F' : Hp} {p : Addr} {o : HO} (hp : mixH F1 H1 (upd F' p o) p = some o) (hn : F' p = none) : mixH F1 H1 (upd F' p o) = upd (mixH F1 H1 F') p o := by
  funext b
  by_cases hb : b = p
  · subst hb; rw [upd_same, hp]
  · rw [upd_ne hb]
    unfold mixH
    rw [upd_ne hb]
def gCallScr (i : Nat) (f : List Int → Option (List D)) : M D := fun S => (scrOf S i).bind fun ns => (f ns).bind fun z => some (.list z, S)
theorem n_callScr {f : List Int → Option (List D)} (i : Nat) (h : Has X.prog X.w X.K X.mg X.base x k ps (spScrN X.K f)) (hr : Room k X.A)
    (hN : X.N[i]? = some y := by rfl) (hv : Vis X.env.scope y := by first | exact Or.inl rfl | exact Or.inr (Or.inl rfl) | exact Or.inr (Or.inr rfl)) (hdy : (y == ("__debug__" : Str)) = false := by decide) (hcd : (y == ("__classdict__" : Str)) = false := by decide)
    (hg : Gl X x := by rfl) (hdb : (x == ("__debug__" : Str)) = false := by decide) (he : starEach [.Name y py] X.env = (false, eval (.Name y py) X.env) :: starEach [] X.env := by rfl) : GN X (.Call (.Name x p) [.Name y py] [] pos) (gCallScr i f) := by
  obtain ⟨fa, fd, m, kp, b, F⟩ := h
  refine ⟨_, pe_callF F hr hg m kp b .nil pass0 (pa_cons (pe_var hN hv hdy hcd) pa_nil he) hdb he (by rfl), fun A F H S σ d S' Q k h post => ?_⟩
  obtain ⟨ns, h1, h⟩ := bind_inv h
  obtain ⟨z, h2, h⟩ := bind_inv h
  cases h
  obtain ⟨hz, a, ev, hs⟩ := scr_at k h1
  refine ⟨_, ev, F, k.sub, a, ns, z, by rfl, hs, hz, h2, fun F' L us sm hL ru hz => ⟨fun b xs q => by
      rw [upd_ne (ne_of_none (sm b _ q) hL)]; exact sm b _ q, fun lost => ?_⟩⟩
  have lostF : ∀ b o, H b = some o → F b = none → F' b = none := fun b o ho hf => by
    have := lost b o ho hf
    by_cases hb : b = L
    · subst hb; exact hL
    · rwa [upd_ne hb] at this
  have hLH : H L = none := by
    cases q : H L with
    | none => rfl
    | some u =>
      cases q2 : F L with
      | none => have := lost L u q q2; rw [upd_same] at this; cases this
      | some v => rw [sm L v q2] at hL; cases hL
  rw [mix_new (by rw [mix_free hLH, upd_same]) hL]
  exact post A F' _ L us z (List.prefix_refl _) sm (k.mix sm lostF) (by rw [mix_free hLH]; exact hL) rfl ru hz
theorem e_gintE {i : Int} (hm : ∃ t, X.mg x = some (.int i t)) (hg : Gl X x := by rfl) (hd : (x == ("__debug__" : Str)) = false := by decide) : GE X (.Name x pos) (gC (.int i)) := let ⟨_, m⟩ := hm; e_gint m hg hd
end
end Fu

set_option maxHeartbeats 4000000
namespace Fu
open PySem PySem.Spec PyProof.Rows L2 RZ

section
variable {K : PySem.W.Frag} {F H : Hp}
theorem vals_at {vs : List V} {us : List Value} (r : Vals vs us) {i : Nat} {u : Value} (h : us[i]? = some u) : ∃ v, vs[i]? = some v ∧ RelV v u := by
  cases e : vs[i]? with
  | none => rw [r.none_of e] at h; cases h
  | some v =>
    obtain ⟨w, h1, h2⟩ := r.get e
    rw [h] at h1; cases h1
    exact ⟨v, rfl, h2⟩
end

/-! ### sorted(xs) of data -/
/-! ### max(xs), min(xs) of data -/
def pickOk (xs : List D) : Bool := (xs.all fun d => xs.all fun e => PySem.W.alike d e) && (xs.all fun d => match d with
  | .none => false
  | _ => true) && decide (PyData.depthAll xs ≤ 20) && PyData.canLayAll0 xs
def rPick (K : PySem.W.Frag) (f : D → List D → D) : List V → Hp → VK → Prop := fun xs H Q => ∃ (a : Addr) (vs : List V) (d : D) (ds : List D), xs = [.ref a] ∧ (SqL K H a vs ∨ SqT K H a vs) ∧ DpAll K H vs (d :: ds) ∧ PySem.W.AlikeAll (d :: ds) ∧ PyData.depthAll (d :: ds) ≤ 20 ∧
  ∀ (i : Nat) v, vs[i]? = some v → (d :: ds)[i]? = some (f d ds) → Q v H

theorem call_minD {X : Cx} {k : Nat} (hr : Room k X.A) (hc : X.calm = true) : CallR X (.builtin "min") (rPick X.K PySem.W.minD) := by
  intro pins s σ H xs us Q I r h
  obtain ⟨a, vs, d, ds, rfl, hs, hd, al, dp, q⟩ := h
  obtain ⟨u, rfl, ru⟩ := vals1 r
  cases ru
  have hun := hr.un
  have fin : ∀ {its : List Value} {as : List Addr} (i : Nat) (v : Value) (h' : Heap) (tk : Nat) (bs : List Addr), Vals vs its → ReadsAll s.heap its (d :: ds) as → its[i]? = some v → Reads h' v (PySem.W.minD d ds) bs → (∀ b o, s.heap.get? b = some o → h'.get? b = some o) →
      EP X pins σ Q v { s with heap := h', toks := tk } := by
    intro its as i v h' tk bs rv ra hi rd kk
    obtain ⟨w, hw, rw'⟩ := vals_at rv hi
    obtain ⟨cs, rc, hlt, _, _⟩ := PySem.W.readsAll_at ra i v hi
    obtain ⟨e, _⟩ := PyProof.Rows.reads_det (fun b o e _ => e) (Reads.keeps kk rc) rd
    refine ⟨w, H, I.kept kk, rw', q i w hw ?_⟩
    rw [e, List.getD_eq_getElem?_getD, List.getElem?_eq_getElem hlt]
    rfl
  rcases hs with hs | hs
  · obtain ⟨its, rv, pl, hz⟩ := I.list hs
    obtain ⟨as, ra⟩ := Dp.readsAll I (d :: ds) vs its hd rv
    exact PySem.W.min_list_data (I.ok.hd hc) pl.isList (by simpa using ra) al (by omega) fun i v h' tk bs hi rd kk => fin i v h' tk bs rv ra (by simpa using hi) rd kk
  · obtain ⟨its, rv, pl, hz⟩ := I.tuple hs
    obtain ⟨as, ra⟩ := Dp.readsAll I (d :: ds) vs its hd rv
    exact PySem.W.min_tuple_data (I.ok.hd hc) (show s.heap.IsTuple a its.toArray from pl) (by simpa using ra) al (by omega) fun i v h' tk bs hi rd kk => fin i v h' tk bs rv ra (by simpa using hi) rd kk

theorem pickOk_all {xs : List D} (h : pickOk xs = true) : PySem.W.AlikeAll xs ∧ PyData.depthAll xs ≤ 20 ∧ PyData.canLayAll0 xs = true := by
  unfold pickOk at h
  simp only [Bool.and_eq_true] at h
  obtain ⟨⟨⟨h1, h2⟩, h3⟩, h4⟩ := h
  refine ⟨⟨fun d hd e he => List.all_eq_true.mp (List.all_eq_true.mp h1 d hd) e he, fun d hd e => ?_⟩, of_decide_eq_true h3, h4⟩
  have := List.all_eq_true.mp h2 d hd
  rw [e] at this; cases this
def dPick (f : D → List D → D) : List D → Option D
  | [.list (d :: ds)] => if pickOk (d :: ds) = true then some (f d ds) else none
  | [.tuple (d :: ds)] => if pickOk (d :: ds) = true then some (f d ds) else none
  | _ => none
theorem rd_pick {K : PySem.W.Frag} (f : D → List D → D) : RdC K (rPick K f) (dPick f) := by
  intro A F H S σ xs ds z Q k r h post
  unfold dPick at h
  split at h
  · split at h
    · rename_i d ys hso
      cases h
      obtain ⟨v, rfl, rv⟩ := rps1 r
      obtain ⟨a, vs, rfl, h1, h2, h3⟩ := rp_list_inv rv
      obtain ⟨p1, p2, p3⟩ := pickOk_all hso
      refine ⟨a, vs, d, ys, rfl, .inl (SqL.of (k.sub.same _ _ h1)), Rps.dp _ _ p3 (Rps.mono k.sub.same _ _ h2), p1, p2, fun i v hv hd => ?_⟩
      obtain ⟨w, hw, rw'⟩ := h2.get hd
      rw [hv] at hw; cases hw
      exact post F H v (Same.refl F) k rw'
    · cases h
  · split at h
    · rename_i d ys hso
      cases h
      obtain ⟨v, rfl, rv⟩ := rps1 r
      obtain ⟨a, vs, rfl, h1, h2, h3⟩ := rp_tup_inv rv
      obtain ⟨p1, p2, p3⟩ := pickOk_all hso
      refine ⟨a, vs, d, ys, rfl, .inr (sqT_same k.sub.same h1), Rps.dp _ _ p3 (Rps.mono k.sub.same _ _ h2), p1, p2, fun i v hv hd => ?_⟩
      obtain ⟨w, hw, rw'⟩ := h2.get hd
      rw [hv] at hw; cases hw
      exact post F H v (Same.refl F) k rw'
    · cases h
  · cases h
/-! ### sum(xs) of ints -/
def allInts : List D → Option (List Int)
  | [] => some []
  | .int b :: ds => (allInts ds).bind fun bs => some (b :: bs)
  | _ => none
theorem allInts_map : ∀ {ds : List D} {bs : List Int}, allInts ds = some bs → ds = bs.map .int
  | [], _, h => by cases h; rfl
  | .int b :: ds, _, h => by
    obtain ⟨bs, h1, h2⟩ := bind_inv h
    cases h2
    rw [List.map_cons, allInts_map h1]
  | .none :: _, _, h => by simp [allInts] at h
  | .bool _ :: _, _, h => by simp [allInts] at h
  | .str _ :: _, _, h => by simp [allInts] at h
  | .list _ :: _, _, h => by simp [allInts] at h
  | .tuple _ :: _, _, h => by simp [allInts] at h
  | .dict _ :: _, _, h => by simp [allInts] at h
theorem allInts_of : ∀ bs : List Int, allInts (bs.map .int) = some bs
  | [] => rfl
  | b :: bs => by
    show (allInts (bs.map .int)).bind _ = _
    rw [allInts_of bs]; rfl
theorem rps_ints {K : PySem.W.Frag} {F : Hp} : ∀ {vs : List V} {bs : List Int}, Rps K F vs (bs.map .int) → vs = bs.map V.int
  | _, [], h => by cases h; rfl
  | _, b :: bs, h => by
    cases h with
    | cons h1 h2 => rw [rp_int_inv h1, rps_ints h2]; rfl
section
variable {X : Cx} {pos p p2 : Pos} {e : Expr} {es : List Expr} {gs : M (List D)} {k : Nat}
end
end Fu

set_option maxHeartbeats 4000000
namespace Fu
open PySem PySem.Spec PyProof.Rows L2
/-! ### list(range(..)), xs[::-1], len(set(ints)) -/
section
variable {X : Cx} {pos p p2 p3 p4 : Pos} {a b e e2 : Expr} {ga gb ge ge2 : M D}
theorem rps_rg {K : PySem.W.Frag} {F : Hp} (lo hi : Int) : Rps K F (rgV lo hi) (rng lo (hi - lo).toNat) := by
  have h := Rps.ints (K := K) (H := F) ((List.range (hi - lo).toNat).map fun i : Nat => lo + (i : Int))
  rw [List.map_map, List.map_map] at h
  exact h
def gListRng1 (g : M D) : M D := fun S => (g S).bind fun q => match q.1 with
  | .int j => if -4611686018427387904 ≤ j ∧ j ≤ 16777216 then some (.list (rng 0 j.toNat), q.2) else none
  | _ => none
theorem n_listRng1 (hm : X.mg "list" = none) (hr : X.mg "range" = none) (ha : GE X e ge) (hc : X.calm = true := by rfl) (hg : Gl X "list" := by rfl) (hg2 : Gl X "range" := by rfl)
    (hs : starEach [e] X.env = (false, eval e X.env) :: starEach [] X.env := by rfl) (hs2 : starEach [.Call (.Name "range" p2) [e] [] p3] X.env = (false, eval (.Call (.Name "range" p2) [e] [] p3) X.env) :: starEach [] X.env := by rfl) :
    GN X (.Call (.Name "list" p) [.Call (.Name "range" p2) [e] [] p3] [] pos) (gListRng1 ge) := by
  obtain ⟨_, pa, ra⟩ := ha.ex
  refine ⟨_, pe_listRg hc hg hm (prg_1 hg2 hr pa hs) hs2, fun A F H S σ d S' Q k h post => ?_⟩
  obtain ⟨⟨x, S1⟩, h1, h⟩ := bind_inv h
  cases x with
  | int j =>
    simp only at h
    split at h
    · rename_i hj
      cases h
      refine ra A F H S σ _ _ _ k h1 fun A1 F1 H1 v s1 f1 k1 r1 => ?_
      cases rp_int_inv r1
      refine ⟨j, rfl, ⟨by omega, by omega, by omega, by omega, by omega⟩, fun q hq => post A1 F1 H1 q _ _ s1 f1 k1 hq rfl ?_ ?_⟩
      · have := rps_rg (K := X.K) (F := F1) 0 j
        rwa [Int.sub_zero] at this
      · rw [rng_len, sizeLine_eq]; omega
    · cases h
  | _ => cases h
def dRevL : D → Option D
  | .list xs => some (.list xs.reverse)
  | _ => none
theorem n_revL {k : Nat} (ha : GE X e ge) : GN X (.Subscript e (.Slice none none (some (.UnaryOp .USub (.Constant (.int 1) k p) p2)) p3) pos) (gUn dRevL ge) := by
  obtain ⟨_, pa, ra⟩ := ha.ex
  refine ⟨_, pe_revL pa, fun A F H S σ d S' Q k h post => ?_⟩
  obtain ⟨⟨x, S1⟩, h1, h⟩ := bind_inv h
  obtain ⟨z, h2, h⟩ := bind_inv h
  cases h
  cases x <;> simp only [dRevL] at h2 <;> cases h2
  refine ra A F H S σ _ _ _ k h1 fun A1 F1 H1 v s1 f1 k1 r1 => ?_
  obtain ⟨l, vs, rfl, g1, g2, g3⟩ := rp_list_inv r1
  exact ⟨l, vs, rfl, SqL.of (k1.sub.same _ _ g1), fun q hq => post A1 F1 H1 q _ _ s1 f1 k1 hq rfl g2.reverse (by rw [List.length_reverse]; exact g3)⟩
/-- how many unlike ones -/
def unlike (ns : List Int) : Nat := (PyProof.Rows.firstMet (fun i => ns.getD i 0) ns.length).length
def tManyI (K : PySem.W.Frag) (ta : TE) : TE := fun σ H Q => ta σ H fun x H1 => ∃ (l : Addr) (ns : List Int), x = .ref l ∧ SqL K H1 l (ns.map V.int) ∧ ns.length ≤ 4000 ∧ Q (.int (unlike ns : Nat)) H1
theorem pe_manyI {ta : TE} (g1 : Gl X "len") (m1 : X.mg "len" = none) (g2 : Gl X "set") (m2 : X.mg "set" = none) (ha : PE X e ta) (hc : X.calm = true) (na : starEach [e] X.env = (false, eval e X.env) :: starEach [] X.env) :
    PE X (.Call (.Name "len" p) [.Call (.Name "set" p2) [e] [] p3] [] pos) (tManyI X.K ta) := ⟨fun ps s σ H Q I h => by
  refine Call_ (ld_blt I g1 m1 boot_len (PyProof.Rows.callWith_builtin1 (PyProof.Rows.args_cons ?_ rfl) rfl rfl))
  refine Call_ (ld_blt I g2 m2 boot_set (PyProof.Rows.callWith_type1 (PyProof.Rows.args_cons ?_ na) na rfl))
  refine thn (ha.run ps s σ H _ I h) fun v t ⟨x, G, J, r, q⟩ => PyProof.Rows.args_nil ?_
  obtain ⟨l, ns, ex, hl, hz, q⟩ := q
  subst ex
  cases r
  obtain ⟨its, ri, pl, _⟩ := J.list hl
  have hn : its.toArray.size = ns.length := by rw [List.size_toArray, ← ri.length, List.length_map]
  have hb : its.toArray.size + 1 < scanBound := by rw [hn]; unfold scanBound; omega
  refine call_set_list (J.ok.hd hc) pl.isList (by simpa using RZ.intsAre_vals ri) hb fun h' tk st keep => PyProof.Rows.args_nil ?_
  rw [hn] at st
  obtain ⟨o, es, ep, tb, ho, hex, hd, _, _, _, hf, hcount⟩ := st
  have hle : unlike ns ≤ ns.length := PyProof.Rows.firstMet_length_le _ _
  have J2 : Inv X ps σ G { t with heap := h', toks := tk } := J.kept fun c u eu => keep c u (Heap.lt_size eu) eu
  exact call_len_set ho hex hd hf (by rw [hcount]; unfold unlike at hle; omega) ⟨.int (unlike ns), G, J2.tok _, ⟨_, by rw [hcount]; rfl⟩, q⟩⟩
def dLenSet : D → Option D
  | .list ds => (allInts ds).bind fun ns => if ns.length ≤ 4000 then some (.int (unlike ns : Nat)) else none
  | _ => none
theorem e_lenSet (m1 : X.mg "len" = none) (m2 : X.mg "set" = none) (ha : GE X e ge) (hc : X.calm = true := by rfl) (g1 : Gl X "len" := by rfl) (g2 : Gl X "set" := by rfl) (na : starEach [e] X.env = (false, eval e X.env) :: starEach [] X.env := by rfl) :
    GE X (.Call (.Name "len" p) [.Call (.Name "set" p2) [e] [] p3] [] pos) (gUn dLenSet ge) := by
  obtain ⟨_, pa, ra⟩ := ha.ex
  refine ⟨_, pe_manyI g1 m1 g2 m2 pa hc na, fun A F H S σ d S' Q k h post => ?_⟩
  obtain ⟨⟨x, S1⟩, h1, h⟩ := bind_inv h
  obtain ⟨z, h2, h⟩ := bind_inv h
  cases h
  cases x <;> simp only [dLenSet] at h2 <;> try cases h2
  obtain ⟨ns, h3, h2⟩ := bind_inv h2
  split at h2
  · rename_i hz
    cases h2
    refine ra A F H S σ _ _ _ k h1 fun A1 F1 H1 v s1 f1 k1 r1 => ?_
    obtain ⟨l, vs, rfl, q1, q2, q3⟩ := rp_list_inv r1
    have e := allInts_map h3
    subst e
    cases rps_ints q2
    exact ⟨l, ns, rfl, SqL.of (k1.sub.same _ _ q1), hz, post A1 F1 H1 _ s1 f1 k1 (.int _)⟩
  · cases h2
end
end Fu

set_option maxHeartbeats 4000000
namespace Fu
open PySem PySem.Spec PyProof.Rows L2
/-! ### promises of functions that may ask what is being shown: with no show under way around them -/
structure FnG (P : Program) (w : World) (K : PySem.W.Frag) (mg : Str → Option Value) (base : Heap) (k : Nat) (fa : Addr) (fd : FuncData) (ps : List Str) (sp : Sp) : Prop where
  len : ∀ vs H Q E, sp vs H Q E → vs.length = ps.length
  go : ∀ (A : Around) (out : List Env) (t : Shared) (H : Hp) (ar : Args) (us : List Value) (vs : List V) (Q : VK) (E : XK), Room k A → A.guards = some [] → Env0 P w K mg base A out t H → BindsTo t fd ar (ps.zip us) → Vals vs us → sp vs H Q E →
    codeAny (model P w) A (.call (.ref fa) ar) (CR CX0 out P w H t Q E) t
section
variable {P : Program} {w : World} {K : PySem.W.Frag} {mg : Str → Option Value} {base : Heap} {x qual : Str} {st : Stmt} {f : Addr} {fd : FuncData} {N ps : List Str} {k n : Nat} {sp : Sp}
theorem FnG.of (F : FnOk P w K mg base CX0 k f fd ps sp) : FnG P w K mg base k f fd ps sp := ⟨F.len, fun A out t H ar us vs Q E hr _ => F.run A out t H ar us vs Q E hr⟩
theorem fun_okG (F : L2.Fun K x qual st f fd) (S : FnScope N ps (defScope st)) (len : ∀ vs H Q E, sp vs H Q E → vs.length = ps.length)
    (hb : ∀ (cdv : Value) (A : Around) (out : List Env) (t : Shared) (H : Hp) (vs : List V) (Q : VK) (E : XK), Room k (A.deeper (envOfC qual (defScope st) t.heap.objs.size f cdv)) → A.guards = some [] → sp vs H Q E →
      ∃ u, PSs (cxOf CX0 P w K mg base N qual (defScope st) f cdv A out t H E).nox (defBody st) u ∧ u { nx := fun _ G => Q .non G, rt := Q } (start N vs) H) : FnG P w K mg base (k + 1) f fd ps sp := by
  obtain ⟨oc, od, kV, doc, pm, an, cdv, ct, osl, rfl, lk, hcd⟩ := F.ex
  refine ⟨len, fun A out t H ar us vs Q E hr hg e0 hbd hv hs => ?_⟩
  have many := len _ _ _ _ hs
  have inK : K.In t.heap := e0.mod.kin.keeps fun b o z => (e0.bs b o z).1
  have nol : t.heap.NoLimit := e0.mod.nolimit.keeps fun b o z => (e0.bs b o z).1
  have kinds : ∀ q ∈ ps.zip us, (defScope st).names.lookup q.1 = some .local ∨ ((defScope st).names.lookup q.1 = some .cell ∧ ((cellsFrom (t.heap.objs.size + 1) (defScope st).names []).lookup q.1).isSome = true) := by
    rintro ⟨m, v⟩ hq
    exact (S.par m (List.of_mem_zip hq).1).imp id fun z => ⟨z, PySem.W.cellsFrom_some _ _ _ (.inl z)⟩
  refine codeAny_call_function hr.depth (inK _ _ lk) rfl S.co S.gen rfl (PySem.W.codeRec_of inK hcd) (hbd _ _ _ _ ?_)
  refine wpAny_newFunctionEnv_cells S.kind kinds fun en hen t1 made => ?_
  subst hen
  refine ⟨nol.keeps made.toInCall.keep, codeAny_func ?_⟩
  obtain ⟨u, hu, q⟩ := hb cdv A out t H vs Q E (hr.deeper _) hg hs
  have J : Inv (cxOf CX0 P w K mg base N qual (defScope st) f cdv A out t H E) [] (start N vs) H t1 := inv_start S hr.hd e0 many hv made
  have back : ∀ {σ : L2.St} {G : Hp} {v : V} {z : Value} {t2 : Shared}, Inv (cxOf CX0 P w K mg base N qual (defScope st) f cdv A out t H E) [] σ G t2 → RelV v z → Q v G → CE out P w H t Q z t2 := fun {σ G v z t2} I r p => ⟨v, G, I.os, I.bare, I.base, I.hok, r, p⟩
  refine wpAny_mono (hu.nox.run [] t1 (start N vs) H _ J q) (fun fl t2 z => ?_) fun e t2 z => z
  cases fl with
  | next =>
    obtain ⟨σ, G, I, p⟩ := z
    exact back (v := V.non) (z := Value.none) I rfl p
  | ret y =>
    obtain ⟨v, σ, G, I, r, p⟩ := z
    exact back I r p
  | cont => exact z.elim fun _ z => z.elim fun _ z => z.2.elim
  | brk => exact z.elim fun _ z => z.elim fun _ z => z.2.elim
end
section
variable {X : Cx} {k : Nat} {f : Addr} {fd : FuncData} {ps : List Str} {sp : Sp} {E : XK} {x : Str} {p pos : Pos} {e : Expr} {es : List Expr} {t : TA}
end
/-! ### the law's call, from such a promise -/
theorem law_callG {P : Program} {w : World} {K : PySem.W.Frag} {mg mb : Str → Option Value} {k : Nat} {fa ad : Addr} {fd : FuncData} {x : Str} {sp : Sp} {t : Shared} {us : List Value} {ms : List Int}
    (inK : K.In t.heap) (gl : t.heap.Ns mainGlobals mg) (bl : t.heap.Ns builtinsNs mb) (boot : ∀ y : Str, y ≠ "__name__" → mb y = bootBuiltins y) (nol : t.heap.NoLimit) (ng : t.gens = #[])
    (scr : t.heap.get? ad = some { cls := .type "list", data := .seq us.toArray }) (isI : IntsAre us ms) (few : ms.length ≤ sizeLine) (rm : Room k callerA)
    (F : ∀ b : Heap, K.In b → b.Ns mainGlobals mg → FnG P w K mg b k fa fd [x] sp) (bd : ∀ (q : Shared) (u : Value), BindsTo q fd ⟨[u], []⟩ [(x, u)])
    (due : ∀ G : Hp, Only G → SqL K G ad (ms.map V.int) → sp [.ref ad] G (fun v _ => v = .bl true) fun _ _ _ => False) :
    codeAny (model P w) callerA (.call (.ref fa) ⟨[.ref ad], []⟩) (fun r q => r = .ok (.ret (.bool true)) ∧ OldK t.heap q.heap ∧ q.os = t.os ∧ AllBare q.gens) t := by
  have vals := vals_ints isI
  have size := isI.length
  have main : ∀ G : Hp, Only G → SqL K G ad (ms.map V.int) → HOk P w G t.heap → (∀ b, G b ≠ none → b = ad) → (G ad ≠ none → K.lookup ad = none) →
      codeAny (model P w) callerA (.call (.ref fa) ⟨[.ref ad], []⟩) (fun r q => r = .ok (.ret (.bool true)) ∧ OldK t.heap q.heap ∧ q.os = t.os ∧ AllBare q.gens) t := by
    intro G only sq okG one free
    have put : ∀ {c : Addr} {o : Obj}, t.heap.get? c = some o → G c = none → (hidT t.heap G).get? c = some o := fun a b => hidT_get a b
    have noD : ∀ {c : Addr} {o : Obj} {es : Array DictEntry} {ep : Nat}, t.heap.get? c = some o → o.data = .dict es ep → G c = none := by
      intro c o es ep h1 h2
      cases z : G c with
      | none => rfl
      | some u =>
        obtain rfl : c = ad := one c (by rw [z]; simp)
        rw [scr] at h1
        cases h1
        exact absurd (show Data.seq us.toArray _ = Data.dict es ep from h2) (fun y => nomatch y)
    have space : ∀ {c : Addr} {m : Str → Option Value}, t.heap.Ns c m → (hidT t.heap G).Ns c m := by
      rintro c m ⟨o, es, ep, h1, h2, h3⟩
      exact ⟨o, es, ep, put h1 (noD h1 h2), h2, h3⟩
    have inB : K.In (hidT t.heap G) := by
      intro c o h1
      refine put (inK c o h1) ?_
      cases z : G c with
      | none => rfl
      | some u =>
        obtain rfl : c = ad := one c (by rw [z]; simp)
        rw [free (by rw [z]; simp)] at h1
        cases h1
    have md : Mod K mg (hidT t.heap G) := by
      obtain ⟨mc, h1, h2⟩ := nol
      exact ⟨inB, space gl, ⟨mb, space bl, boot⟩, ⟨mc, space h1, h2⟩⟩
    have ev : Env0 P w K mg (hidT t.heap G) callerA [] t G := ⟨rfl, md, fun c o z => of_hidT z, Nat.le_of_eq (hidT_size _ _), trivial, (fun c z => (List.not_mem_nil (show c ∈ ([] : List Addr) from z)).elim), okG, .of_eq ng⟩
    refine codeAny_mono ((F _ inB (space gl)).go callerA [] t G ⟨[.ref ad], []⟩ [.ref ad] [.ref ad] _ _ rm rfl ev (bd t (.ref ad)) (.cons rfl .nil) (due G only sq)) fun z q y => ?_
    cases z with
    | error e => exact (show False from y).elim
    | ok fl =>
      cases fl with
      | ret u =>
        obtain ⟨v, G', osE, bareE, un, okG', rel, vt⟩ := y
        have vt : v = .bl true := vt
        subst vt
        obtain rfl : u = Value.bool true := rel
        refine ⟨rfl, OldK.of_keep fun c o h1 => ?_, osE, bareE⟩
        cases z : G c with
        | none => exact un.keep c o h1 z (fun h => List.not_mem_nil (show c ∈ ([] : List Addr) from h)) (by simp)
        | some u =>
          rcases only c with h2 | ⟨oc, xs, h2⟩
          · rw [z] at h2; cases h2
          · have h3 := un.frzs c oc _ h2
            have h4 := (okG c _ h2).1
            have h5 := (okG' c _ h3).1
            rw [h1] at h4
            cases h4
            exact h5
      | next => exact y.elim
      | cont => exact y.elim
      | brk => exact y.elim
  cases hk : K.lookup ad with
  | some o =>
    have z := inK ad o hk
    rw [scr] at z
    cases z
    exact main (fun _ => none) (fun _ => .inl rfl) (.inr ⟨_, us.toArray, _, hk, rfl, rfl, rfl, by rw [List.size_toArray, size]; exact few, by simpa using vals⟩) (fun c u z => nomatch (show (none : Option HO) = some u from z)) (fun c z => absurd rfl z) fun z => absurd rfl z
  | none =>
    refine main (fun c => if c = ad then some (.frz { cls := .type "list", data := .seq us.toArray } (.lst (ms.map V.int))) else none) ?_ (.inl (.inr ⟨{ cls := .type "list", data := .seq us.toArray }, if_pos rfl⟩)) ?_ ?_ fun _ => hk
    · intro c
      by_cases hc : c = ad
      · exact .inr ⟨_, _, if_pos hc⟩
      · exact .inl (if_neg hc)
    · intro c u z
      by_cases hc : c = ad
      · have y := (if_pos hc).symm.trans z
        cases y
        subst hc
        exact ⟨scr, by rw [List.length_map]; exact few, us, _, vals, scr⟩
      · have y := (if_neg hc).symm.trans z
        cases y
    · intro c z
      by_cases hc : c = ad
      · exact hc
      · exact absurd (if_neg hc) z
theorem walk_ofG {l : PySem.W.OpenLaw} {n k : Nat} {q : Program} {loose : List Str} {XP : (Str → Option Value) → Heap → Prop} {YP : World → Heap → Prop} {d : DefRec} {K : Params → PySem.W.Frag} {sp : World → Sp} {x : Str}
    (hn : l.most = some n) (hn2 : n ≤ sizeLine) (hdf : d.params.defaults = []) (rm : Room k callerA) (hY : ∀ (w : World) (h : Heap), YP w h → (K w.params).In h)
    (F : ∀ (w : World) (mg : Str → Option Value) (fa : Addr) (h : Heap), (K w.params).In h → h.Ns mainGlobals mg → mg d.name = some (.ref fa) →
      ∃ fd : FuncData, (∀ (s : Shared) (u : Value), BindsTo s fd ⟨[u], []⟩ [(x, u)]) ∧ ∀ b : Heap, (K w.params).In b → b.Ns mainGlobals mg → FnG l.prog w (K w.params) mg b k fa fd [x] (sp w))
    (due : ∀ (w : World) (G : Hp) (ad : Addr) (ms : List Int), ms.length ≤ n → Only G → SqL (K w.params) G ad (ms.map V.int) → sp w [.ref ad] G (fun v _ => v = .bl true) fun _ _ _ => False) :
    PySem.W.WalkO q loose XP YP l.row.toRowW d [] (fun f vs => PySem.call f vs) := by
  refine Att.attach_call hn hdf fun w s0 t mg mb fa o pm cd doc ad us ms g Y h1 h2 h3 h4 h5 h6 h7 h8 => ?_
  obtain ⟨fd, bd, FF⟩ := F w mg fa _ (hY w _ Y) g.T.g h4
  exact law_callG (hY w _ Y) g.T.g g.T.b g.T.builtins g.T.nolimit h8 h5 h6 (Nat.le_trans h7 hn2) rm FF bd fun G a b => due w G ad ms h7 a b
end Fu

set_option maxHeartbeats 4000000
namespace Fu
open PySem PySem.Spec PyProof.Rows L2
/-! ### defs whose promise wants that no show is under way -/
section
variable {P : Program} {w : World} {K : PySem.W.Frag} {mg : Str → Option Value} {base : Heap} {x qual : Str} {st : Stmt} {f : Addr} {fd : FuncData} {N ps : List Str} {k n : Nat} {g : Sx → Option Out}
theorem fn_lawG {Pb : Hp → Prop} (hPb : ∀ B, NoLst B → Pb B) (F : Fun K x qual st f fd) (S : FnScope N ps (defScope st)) (hn : ps.length = 1) (hN : 1 ≤ N.length)
    (body : ∀ (cdv : Value) (A : Around) (outer : List Env) (s : Shared) (H : Hp) (E : XK), Room k (A.deeper (envOfC qual (defScope st) s.heap.objs.size f cdv)) → A.guards = some [] → GSs (cxF P w K mg base N qual st f cdv A outer s H E) Pb (defBody st) g) :
    FnG P w K mg base (k + 1) f fd ps (spLaw K (mScr N.length g)) := by
  refine fun_okG F S (fun vs H Q E h => by obtain ⟨a, ns, rfl, _⟩ := h; exact hn.symm) fun cdv A outer s H vs Q E hr hgd h => ?_
  obtain ⟨a, ns, rfl, hs, hz, hB, e, post⟩ := h
  obtain ⟨t, p, rd⟩ := (body cdv A outer s H E hr hgd).ex
  refine ⟨t, p, ?_⟩
  obtain ⟨o, e1, e⟩ := bind_inv e
  refine rd H [] [] H H _ _ o _ (hPb H hB) (Same.refl H) (List.prefix_refl _) (start_scr hs hz hN) e1 ?_
  cases o with
  | nx S => cases e
  | rt d S =>
    cases e
    intro A1 F1 H1 σ1 v s1 p1 k1 rv
    cases rv
    exact post H1
  | bk S => cases e
  | ct S => cases e
  | ro j S => cases e
end
section
variable {X : Cx} {pos p p2 : Pos} {x : Str} {e : Expr} {es : List Expr} {gs : M (List D)} {f : List D → Option D} {k n : Nat} {fa : Addr} {fd : FuncData} {ps : List Str} {E : XK}
end
section
variable {P : Program} {w : World} {K : PySem.W.Frag} {mg : Str → Option Value} {base : Heap} {x : Str} {st : Stmt} {N ps : List Str} {k n : Nat} {g : Sx → Option Out}
abbrev BodyG (P : Program) (w : World) (K : PySem.W.Frag) (mg : Str → Option Value) (base : Heap) (N : List Str) (x : Str) (st : Stmt) (k : Nat) (Pb : Hp → Prop) (g : Sx → Option Out) : Prop :=
  ∀ (f : Addr) (cdv : Value) (A : Around) (outer : List Env) (s : Shared) (H : Hp) (E : XK), Room k (A.deeper (envOfC x (defScope st) s.heap.objs.size f cdv)) → A.guards = some [] → GSs (cxF P w K mg base N x st f cdv A outer s H E) Pb (defBody st) g
end
section
variable {X : Cx} {pos p p2 py : Pos} {x y : Str} {e : Expr} {es : List Expr} {gs : M (List D)} {k n : Nat} {ps : List Str}
end
end Fu

set_option maxHeartbeats 4000000
namespace Fu
open PySem PySem.Spec PyProof.Rows L2
/-! ### repr of lists and tuples -/
def showOk (d : D) : Bool := d.showable && !d.hasDict && d.canLay0 && decide (d.depth ≤ 60) && decide (d.shown.length ≤ 16777216)
theorem showOk_all {d : D} (h : showOk d = true) : d.showable = true ∧ d.hasDict = false ∧ d.canLay0 = true ∧ d.depth ≤ 60 ∧ d.shown.length ≤ sizeLine := by
  unfold showOk at h
  simp only [Bool.and_eq_true, decide_eq_true_eq, Bool.not_eq_true'] at h
  exact ⟨h.1.1.1.1, h.1.1.1.2, h.1.1.2, h.1.2, by rw [sizeLine_eq]; exact h.2⟩
def rRepr (K : PySem.W.Frag) : List V → Hp → VK → Prop := fun xs H Q => ∃ (a : Addr) (d : D), xs = [.ref a] ∧ Dp K H (.ref a) d ∧ showOk d = true ∧ Q (.str d.shown) H
theorem call_reprD {X : Cx} {k : Nat} (hr : Room k X.A) (hgd : X.A.guards = some []) : CallR X (.builtin "repr") (rRepr X.K) := by
  intro pins s σ H xs us Q I r h
  obtain ⟨a, d, rfl, hd, ok, q⟩ := h
  obtain ⟨u, rfl, ru⟩ := vals1 r
  cases ru
  obtain ⟨h1, h2, h3, h4, h5⟩ := showOk_all ok
  obtain ⟨as, rd⟩ := Dp.reads I d _ _ hd rfl
  have hun := hr.un
  exact repr_of_reads' rd h1 (fun e => by rw [h2] at e; cases e) hgd (by omega) (fun _ _ e => e) (fun h' u tk keep => ⟨.str d.shown, H, I.kept (t' := tk) keep, ⟨u, rfl⟩, q⟩) h5
/-- .. and of what is no display -/
def rRepr1 : List V → Hp → VK → Prop := fun xs H Q => (xs = [.non] ∧ Q (.str "None") H) ∨ (∃ x, xs = [.str x] ∧ (reprText x).length ≤ sizeLine ∧ Q (.str (reprText x)) H) ∨ (∃ i : Int, xs = [.int i] ∧ i.natAbs.log2 < 1920 ∧ Q (.str (toString i)) H) ∨ (∃ a, xs = [.ref a] ∧ H a = some (.dK []) ∧ Q (.str (PyData.dict []).shown) H)
theorem call_repr1 {X : Cx} {k : Nat} (hr : Room k X.A) (hgd : X.A.guards = some []) : CallR X (.builtin "repr") rRepr1 := by
  intro pins s σ H xs us Q I r h
  rcases h with ⟨rfl, q⟩ | ⟨x, rfl, hl, q⟩ | ⟨i, rfl, hi, q⟩ | ⟨a, rfl, ha, q⟩
  · obtain ⟨u, rfl, ru⟩ := vals1 r
    cases ru
    exact call_repr_gives (typeIs_none s) PySem.F.slot_NoneType_repr PySem.F.entry_NoneType_repr (PySem.F.args_NoneType_repr_1 _) gives_none_repr ⟨.str "None", H, I.kept (t' := s.toks + 1) (fun _ _ z => z), ⟨_, rfl⟩, q⟩
  · obtain ⟨u, rfl, ru⟩ := vals1 r
    obtain ⟨t, rfl⟩ := ru
    exact PySem.P.repr_of_str ⟨.str (reprText x), H, I.kept (t' := s.toks + 1) (fun _ _ z => z), ⟨_, rfl⟩, q⟩ hl
  · exact SkE.call_repr_int pins s σ H _ us Q I r ⟨i, rfl, hi, q⟩
  · obtain ⟨u, rfl, ru⟩ := vals1 r
    cases ru
    obtain ⟨_, hs, vs, kv, o, es, ep, e1, e2, e3, e4, e5, e6⟩ := (show ObjOk X.prog X.w H s.heap a (.dK []) from I.hok a _ ha)
    have hun := hr.un
    cases kv
    have he : es.toList = [] := by
      revert e5
      generalize es.toList = l
      intro e5
      cases e5; rfl
    have rd : Reads s.heap (.ref a) (.dict []) [a] := Reads.dict (as := []) (bs := []) e1 e2.1 e3 (by rw [he]; exact .nil) (by rw [he]; exact .nil)
    refine repr_of_reads' rd (by rfl) (fun _ hm => ?_) hgd (by
      have : PyData.depth (.dict []) ≤ 60 := (by decide +kernel)
      omega) (fun _ _ e => e) (fun h' u tk keep => ⟨.str _, H, I.kept (t' := tk) keep, ⟨u, rfl⟩, q⟩) (by decide +kernel)
    rw [List.mem_singleton.mp hm] at hs
    simp at hs
def dRepr : List D → Option D
  | [.none] => some (.str "None")
  | [.str x] => if (reprText x).length ≤ sizeLine then some (.str (reprText x)) else none
  | [.int i] => if i.natAbs.log2 < 1920 ∧ (Str.ofString (toString i)).length ≤ sizeLine then some (.str (Str.ofString (toString i))) else none
  | [.dict []] => some (.str (PyData.dict []).shown)
  | [.list xs] => if showOk (.list xs) = true then some (.str (PyData.list xs).shown) else none
  | [.tuple xs] => if showOk (.tuple xs) = true then some (.str (PyData.tuple xs).shown) else none
  | _ => none
def rRepr2 (K : PySem.W.Frag) : List V → Hp → VK → Prop := fun xs H Q => rRepr K xs H Q ∨ rRepr1 xs H Q
theorem call_repr2 {X : Cx} {k : Nat} (hr : Room k X.A) (hgd : X.A.guards = some []) : CallR X (.builtin "repr") (rRepr2 X.K) := fun pins s σ H xs us Q I r h => h.elim (call_reprD hr hgd pins s σ H xs us Q I r) (call_repr1 hr hgd pins s σ H xs us Q I r)
theorem rd_repr {K : PySem.W.Frag} : RdC K (rRepr2 K) dRepr := by
  intro A F H S σ xs ds z Q k r h post
  unfold dRepr at h
  split at h
  · cases h
    obtain ⟨v, rfl, rv⟩ := rps1 r
    cases rv
    exact .inr (.inl ⟨rfl, post F H _ (Same.refl F) k (.str (by decide))⟩)
  · split at h
    · rename_i x hz
      cases h
      obtain ⟨v, rfl, rv⟩ := rps1 r
      obtain ⟨rfl, _⟩ := rp_str_inv rv
      exact .inr (.inr (.inl ⟨x, rfl, hz, post F H _ (Same.refl F) k (.str hz)⟩))
    · cases h
  · split at h
    · rename_i i hz
      cases h
      obtain ⟨v, rfl, rv⟩ := rps1 r
      cases rp_int_inv rv
      exact .inr (.inr (.inr (.inl ⟨i, rfl, hz.1, post F H _ (Same.refl F) k (.str hz.2)⟩)))
    · cases h
  · cases h
    obtain ⟨v, rfl, rv⟩ := rps1 r
    cases rv with
    | dct h1 h2 => exact .inr (.inr (.inr (.inr ⟨_, rfl, k.sub.same _ _ (h2 rfl), post F H _ (Same.refl F) k (.str (by decide +kernel))⟩)))
  · split at h
    · rename_i ys ok
      cases h
      obtain ⟨v, rfl, rv⟩ := rps1 r
      have rv2 := rv.mono k.sub.same _ _
      obtain ⟨a, vs, rfl, g1, g2, g3⟩ := rp_list_inv rv
      obtain ⟨h1, h2, h3, h4, h5⟩ := showOk_all ok
      exact .inl ⟨a, _, rfl, Rp.dp _ _ h3 rv2, ok, post F H _ (Same.refl F) k (.str h5)⟩
    · cases h
  · split at h
    · rename_i ys ok
      cases h
      obtain ⟨v, rfl, rv⟩ := rps1 r
      have rv2 := rv.mono k.sub.same _ _
      obtain ⟨a, vs, rfl, g1, g2, g3⟩ := rp_tup_inv rv
      obtain ⟨h1, h2, h3, h4, h5⟩ := showOk_all ok
      exact .inl ⟨a, _, rfl, Rp.dp _ _ h3 rv2, ok, post F H _ (Same.refl F) k (.str h5)⟩
    · cases h
  · cases h
section
variable {X : Cx} {pos p p2 : Pos} {e : Expr} {es : List Expr} {gs : M (List D)} {k : Nat}
theorem e_repr (hr : Room k X.A) (hgd : X.A.guards = some []) (hm : X.mg "repr" = none) (ha : GA X [e] gs) (hg : Gl X "repr" := by rfl) (he : starEach [e] X.env = (false, eval e X.env) :: starEach [] X.env := by rfl) : GE X (.Call (.Name "repr" p) [e] [] pos) (gCall dRepr gs) :=
  e_callB (call_repr2 hr hgd) rd_repr hm (by decide +kernel) ha hg (he := he) (hpl := by rfl)
end
end Fu

set_option maxHeartbeats 4000000
namespace Fu
open PySem PySem.Spec PyProof.Rows L2
/-! ### a < b < c, list + list as a new list -/
def gChain (f f' : D → D → Option D) (ga gb gc : M D) : M D := fun S => (ga S).bind fun p => (gb p.2).bind fun q => match f p.1 q.1 with
  | some (.bool true) => (gc q.2).bind fun r => (f' q.1 r.1).bind fun z => some (z, r.2)
  | some (.bool false) => some (.bool false, q.2)
  | _ => none
theorem rd_chain {K : PySem.W.Frag} {r r' : R2} {f f' : D → D → Option D} {ta tb tc : TE} {ga gb gc : M D} (hf : RdOp K r f) (hf' : RdOp K r' f') (ra : RdE K ta ga) (rb : RdE K tb gb) (rc : RdE K tc gc) : RdE K (tChain r r' ta tb tc) (gChain f f' ga gb gc) := by
  intro A F H S σ d S' Q k h post
  obtain ⟨⟨x, S1⟩, h1, h⟩ := bind_inv h
  obtain ⟨⟨y, S2⟩, h2, h⟩ := bind_inv h
  simp only at h
  refine ra A F H S σ x S1 _ k h1 fun A1 F1 H1 v1 p1 s1 k1 r1 => rb A1 F1 H1 S1 σ y S2 _ k1 h2 fun A2 F2 H2 v2 p2 s2 k2 r2 => ?_
  split at h
  · rename_i e
    obtain ⟨⟨w, S3⟩, h3, h⟩ := bind_inv h
    obtain ⟨z, h4, h⟩ := bind_inv h
    cases h
    refine hf A2 F2 H2 _ σ v1 v2 x y _ _ k2 (r1.mono s2 _ _) r2 e fun F3 H3 v s3 k3 r3 => ?_
    cases rp_bool_inv r3
    refine ⟨true, rfl, ?_⟩
    rw [if_pos rfl]
    refine rc A2 F3 H3 _ σ w _ _ k3 h3 fun A4 F4 H4 v4 p4 s4 k4 r4 => ?_
    exact hf' A4 F4 H4 _ σ v2 v4 y w _ Q k4 (r2.mono (s3.trans s4) _ _) r4 h4 fun F5 H5 v5 s5 k5 r5 => post A4 F5 H5 v5 ((p1.trans p2).trans p4) (s1.trans (s2.trans (s3.trans (s4.trans s5)))) k5 r5
  · rename_i e
    cases h
    refine hf A2 F2 H2 _ σ v1 v2 x y _ _ k2 (r1.mono s2 _ _) r2 e fun F3 H3 v s3 k3 r3 => ?_
    cases rp_bool_inv r3
    refine ⟨false, rfl, ?_⟩
    rw [if_neg (by decide)]
    exact post A2 F3 H3 _ (p1.trans p2) (s1.trans (s2.trans s3)) k3 (.bl false)
  · cases h
section
variable {X : Cx} {pos p p2 : Pos} {a b c e : Expr} {ga gb gc : M D} {op op' : CmpOp}
theorem e_chain {r r' : R2} {f f' : D → D → Option D} (ho : OpR X (compareOp op) r) (ho' : OpR X (compareOp op') r') (hf : RdOp X.K r f) (hf' : RdOp X.K r' f') (ha : GE X a ga) (hb : GE X b gb) (hc : GE X c gc) (hm : lastMarks [op, op'] [b, c] = false := by with_unfolding_all rfl) :
    GE X (.Compare a [op, op'] [b, c] pos) (gChain f f' ga gb gc) :=
  let ⟨_, pa, ra⟩ := ha.ex; let ⟨_, pb, rb⟩ := hb.ex; let ⟨_, pc, rc⟩ := hc.ex; ⟨_, pe_chain ho ho' pa pb pc hm, rd_chain hf hf' ra rb rc⟩
theorem t_chain {r r' : R2} {f f' : D → D → Option D} (ho : OpR X (compareOp op) r) (ho' : OpR X (compareOp op') r') (hf : RdOp X.K r f) (hf' : RdOp X.K r' f') (ha : GE X a ga) (hb : GE X b gb) (hc : GE X c gc) (hm : lastMarks [op, op'] [b, c] = false := by with_unfolding_all rfl) :
    GT X (.Compare a [op, op'] [b, c] pos) (gB (gChain f f' ga gb gc)) := by
  obtain ⟨_, pa, ra⟩ := ha.ex
  obtain ⟨_, pb, rb⟩ := hb.ex
  obtain ⟨_, pc, rc⟩ := hc.ex
  exact ⟨_, pt_chain ho ho' pa pb pc hm, rd_test (rd_chain hf hf' ra rb rc)⟩
end
end Fu

set_option maxHeartbeats 4000000
namespace Fu
open PySem PySem.Spec PyProof.Rows L2
/-! ### xs.count(x), slices as new lists -/
def rCountD (K : PySem.W.Frag) : V → List V → Hp → VK → Prop := fun x xs H Q => ∃ (l : Addr) (vs : List V) (v : V) (ds : List D) (d : D), x = .ref l ∧ xs = [v] ∧ SqL K H l vs ∧ DpAll K H vs ds ∧ Dp K H v d ∧ PyData.canLayAll0 ds = true ∧ d.canLay0 = true ∧ d.depth ≤ 60 ∧ Q (.int ((ds.countP fun y => PyData.eqv y d : Nat) : Int)) H
theorem mt_countD {X : Cx} {k : Nat} (hr : Room k X.A) : MtR X "list.count" (rCountD X.K) := by
  intro pins s σ H x xs v us Q I rx rxs h
  obtain ⟨l, vs, y, ds, d, rfl, rfl, hs, hd, hy, c1, c2, dp, q⟩ := h
  cases rx
  obtain ⟨u, rfl, ru⟩ := rxs.one
  obtain ⟨its, rv, pl, hz⟩ := I.list hs
  obtain ⟨as, r1⟩ := Dp.readsAll I ds _ its hd rv
  obtain ⟨bs, r2⟩ := Dp.reads I d _ _ hy ru
  have hun := hr.un
  refine SeqAt.count_list_data pl.isList (by simpa using r1) r2 (PyData.plainAll_of_canLay0 _ c1) (PyData.plain_of_canLay0 _ c2) (by omega) ?_
  exact ⟨.int _, H, I.tok _, ⟨s.toks, rfl⟩, q⟩
def dCount : D → D → Option D
  | .list ds, d => if PyData.canLayAll0 ds = true ∧ d.canLay0 = true ∧ d.depth ≤ 60 then some (.int ((ds.countP fun y => PyData.eqv y d : Nat) : Int)) else none
  | _, _ => none
section
variable {X : Cx} {pos p p2 apos : Pos} {a b e o : Expr} {ga gb ge go : M D} {k : Nat} {gl gh : M (Option Int)} {lo hi : Option Expr}
theorem e_count (hr : Room k X.A) (ho : GE X o go) (he : GE X e ge) (hbase : attributeBase o "count" X.env (eval o X.env) = eval o X.env := by rfl)
    (hfew : ((backTo pos (starEach [e] X.env)).all (fun x => !x.1) && (backToKw pos (keywordEach [] X.env)).all (fun x => x.1.isSome) && decide (([e] : List Expr).length + ([] : List Keyword).length + (if ([] : List Keyword).isEmpty then 0 else 1) < 30)) = true := by rfl)
    (hline : (apos.endLine == pos.line) = true := by rfl) (hst : starEach [e] X.env = (false, eval e X.env) :: starEach [] X.env := by rfl) : GE X (.Call (.Attribute o "count" apos) [e] [] pos) (gBin dCount go ge) := by
  obtain ⟨_, po, ro⟩ := ho.ex
  obtain ⟨_, pe, re⟩ := he.ex
  refine ⟨_, pe_bm PySem.F.plainAttrs_list PySem.F.slot_list_count PySem.F.type_list_count (mt_countD hr) po (pa_cons pe pa_nil hst) hbase hfew hline hst (by rfl), fun A F H S σ z S' Q k h post => ?_⟩
  obtain ⟨⟨x, S1⟩, h1, h⟩ := bind_inv h
  obtain ⟨⟨y, S2⟩, h2, h⟩ := bind_inv h
  obtain ⟨w, h3, h⟩ := bind_inv h
  cases h
  cases x <;> simp only [dCount] at h3 <;> try cases h3
  split at h3
  · rename_i ok
    cases h3
    refine ro A F H S σ _ _ _ k h1 fun A1 F1 H1 v1 p1 s1 k1 r1 => ?_
    obtain ⟨l, vs, rfl, g1, g2, g3⟩ := rp_list_inv r1
    refine ⟨.inl ⟨rfl, _, SqL.of (k1.sub.same _ _ g1)⟩, re A1 F1 H1 _ σ _ _ _ k1 h2 fun A2 F2 H2 v2 p2 s2 k2 r2 => ?_⟩
    exact ⟨l, vs, v2, _, _, rfl, rfl, SqL.of ((s2.trans k2.sub.same) _ _ g1), Rps.dp _ _ ok.1 (Rps.mono (s2.trans k2.sub.same) _ _ g2), Rp.dp _ _ ok.2.1 (r2.mono k2.sub.same _ _), ok.1, ok.2.1, ok.2.2, post A2 F2 H2 _ (p1.trans p2) (s1.trans s2) k2 (.int _)⟩
  · cases h3
end
end Fu

set_option maxHeartbeats 4000000
namespace Fu
open PySem PySem.Spec PyProof.Rows L2
/-! ### an item of an own list as a target among others -/
section
variable {X : Cx} {pos p p2 py : Pos} {y : Str} {b : Expr} {gb : M D} {tgt : List Nat}
end
end Fu

set_option maxHeartbeats 4000000
namespace Fu
open PySem PySem.Spec PyProof.Rows L2
/-! ### a def that calls itself, where it may go no deeper: nothing is promised -/
section
variable {P : Program} {w : World} {K : PySem.W.Frag} {mg : Str → Option Value} {base : Heap} {x : Str} {st : Stmt} {ps : List Str} {k n : Nat}
end
end Fu

set_option maxHeartbeats 4000000
namespace Fu
open PySem PySem.Spec PyProof.Rows L2 RZ
/-! ### slices of a list that is written: the list stays one's own -/
section
variable {X : Cx} {P : Hp → Prop} {pos py p p2 p3 p4 apos : Pos} {x y : Str} {a b c d e : Expr} {es : List Expr} {ga gb gc gd ge : M D} {gs : M (List D)} {lo hi : Option Expr} {gl gh : M (Option Int)}
/-! ### xs += e, a list that is written -/
/-! ### the script: walked, as a list -/
/-! ### enumerate(xs) -/
/-! ### a < b <= c < d -/
end
end Fu

set_option maxHeartbeats 4000000
namespace Fu
open PySem PySem.Spec PyProof.Rows L2 RZ
section
variable {X : Cx} {P : Hp → Prop} {pos py p p2 p3 p4 apos : Pos} {x y : Str} {a b c d e e2 e3 o : Expr} {es : List Expr} {ga gb gc gd ge go g2 : M D} {gs : M (List D)} {k : Nat}
/-! ### xs[::c], c is 1 or -1 -/
/-! ### xs.index(x) -/
def dIndex : D → D → Option D
  | .list ds, d => if SeqAt.shaped d = true ∧ SeqAt.shaped (.list ds) = true then (ds.findIdx? fun z => PyData.eqv z d).map (fun j : Nat => PyData.int (j : Int)) else none
  | _, _ => none
theorem e_index (hr : Room k X.A) (ho : GE X o go) (he : GE X e ge) (hbase : attributeBase o "index" X.env (eval o X.env) = eval o X.env := by rfl)
    (hfew : ((backTo pos (starEach [e] X.env)).all (fun x => !x.1) && (backToKw pos (keywordEach [] X.env)).all (fun x => x.1.isSome) && decide (([e] : List Expr).length + ([] : List Keyword).length + (if ([] : List Keyword).isEmpty then 0 else 1) < 30)) = true := by rfl)
    (hline : (apos.endLine == pos.line) = true := by rfl) (hst : starEach [e] X.env = (false, eval e X.env) :: starEach [] X.env := by rfl) : GE X (.Call (.Attribute o "index" apos) [e] [] pos) (gBin dIndex go ge) := by
  obtain ⟨_, po, ro⟩ := ho.ex
  obtain ⟨_, pe, re⟩ := he.ex
  refine ⟨_, pe_bm PySem.F.plainAttrs_list PySem.F.slot_list_index PySem.F.type_list_index (mt_indexD (hu65 hr)) po (pa_cons pe pa_nil hst) hbase hfew hline hst (by rfl), fun A F H S σ z S' Q k h post => ?_⟩
  obtain ⟨⟨x, S1⟩, h1, h⟩ := bind_inv h
  obtain ⟨⟨y, S2⟩, h2, h⟩ := bind_inv h
  obtain ⟨w, h3, h⟩ := bind_inv h
  cases h
  obtain ⟨ds, rfl⟩ : ∃ ds, x = .list ds := by
    cases x <;> simp only [dIndex] at h3 <;> first | cases h3 | exact ⟨_, rfl⟩
  simp only [dIndex] at h3
  split at h3
  · rename_i ok
    obtain ⟨j, hj, rfl⟩ := Option.map_eq_some_iff.mp h3
    refine ro A F H S σ _ _ _ k h1 fun A1 F1 H1 v s1 f1 k1 r1 => ?_
    have r1' := r1
    obtain ⟨l, vs, rfl, g1, g2, g3⟩ := rp_list_inv r1
    refine ⟨.inl ⟨rfl, _, SqL.of (k1.sub.same _ _ g1)⟩, re A1 F1 H1 _ σ _ _ _ k1 h2 fun A2 F2 H2 u s2 f2 k2 r2 => ?_⟩
    have hlt := (List.findIdx?_eq_some_iff_getElem.mp hj)
    obtain ⟨hl, hp, hn⟩ := hlt
    exact ⟨l, u, y, ds, j, ds[j], rfl, rfl, (r1'.mono f2 _ _).dpH k2.sub.same ok.2, r2.dpH k2.sub.same ok.1, ok.2, ok.1, List.getElem?_eq_getElem hl, hp, fun m z' hm hz => by
      obtain ⟨hml, rfl⟩ := List.getElem?_eq_some_iff.mp hz
      have := hn m hm
      simpa using this, post A2 F2 H2 _ (s1.trans s2) (f1.trans f2) k2 (.int _)⟩
  · cases h3
/-! ### max(a, b, c) -/
end
end Fu

set_option maxHeartbeats 4000000
namespace Fu
open PySem PySem.Spec PyProof.Rows L2 RZ
/-! ### calls that look at lists of one's own: they stay one's own, the answer holds no list -/
section
variable {X : Cx} {pos py p p2 : Pos} {x y : Str} {e : Expr} {es : List Expr} {ge : M D} {gs : M (List D)} {k n : Nat} {ps : List Str}
end
end Fu

set_option maxHeartbeats 4000000
namespace Fu
open PySem PySem.Spec PyProof.Rows L2 RZ
/-! ### looks: an expression that writes nothing sees one's own lists as data; they stay one's own -/
def mapO {α β : Type} (f : α → Option β) : List α → Option (List β)
  | [] => some []
  | x :: xs => (f x).bind fun y => (mapO f xs).map fun ys => y :: ys
def snapR (os : List (Option Cell)) : Nat → R → Option D
  | 0, .dat d => some d
  | 0, _ => none
  | _ + 1, .dat d => some d
  | _ + 1, .scr _ => none
  | _ + 1, .exc _ => none
  | n + 1, .tup rs => (mapO (snapR os n) rs).map .tuple
  | n + 1, .own j => match os[j]? with
    | some (some (.lst ds)) => some (.list ds)
    | some (some (.lR rs)) => (mapO (snapR os n) rs).map .list
    | _ => none
def sealS (os : List (Option Cell)) : Option R → Option R
  | some (.scr ns) => some (.scr ns)
  | some (.exc c) => some (.exc c)
  | some r => (snapR os 8 r).map .dat
  | none => none
def sealAll (S : Sx) : Sx := ⟨S.sl.map (sealS S.os), S.os.map fun _ => none⟩
section
variable {K : PySem.W.Frag} {A : List Addr} {F H H' : Hp} {S : Sx} {σ : L2.St}
end
section
variable {X : Cx} {e : Expr} {g : M D} {gt : M Bool}
end
end Fu

set_option maxHeartbeats 4000000
namespace L2
open PySem PySem.Spec PyProof.Rows
open Fu (XO)
/-! ### an exception that is looked at behind its suite: it is tracked from the suite's end on -/
section
variable {X : Cx} {pins : List (Addr × Obj)} {σ : St} {H : Hp} {s : Shared}
/-- an object that came to stand since the frame began, and that nobody tracks, is tracked -/
theorem adopt {a : Addr} {cls : Value} {o : Obj} {fs : Array Value} (I : Inv X pins σ H s) (na : H a = none) (ha : s.heap.get? a = some o) (hz : Zc cls none o) (hf : o.data = .fields fs) (h0 : X.s_0.heap.get? a = none) (nL : a ≠ X.env.locals)
    (hp : ∀ p ∈ X.pn ++ pins, p.1 ≠ a) : Inv X pins σ (upd H a (XO cls a)) s := by
  have ne : ∀ b u, H b = some u → b ≠ a := fun b u e z => by rw [z, na] at e; cases e
  have ne0 : ∀ b u, X.s_0.heap.get? b = some u → b ≠ a := fun b u e z => by rw [z, h0] at e; cases e
  have nc : ∀ x c, X.env.cells.lookup x = some c → c ≠ a := fun x c e z => by
    obtain ⟨v, o', ho', hd'⟩ := I.cell x c e
    rw [z, ha] at ho'; cases ho'
    rw [hf] at hd'; cases hd'
  refine ⟨I.ok, I.os, I.bare, ⟨I.base.keep, I.base.slot, fun b u e n hx => ?_, I.base.there, fun b xs e => ?_, fun b u xs e => ?_, fun b ps e => ?_⟩, I.loc, I.cell, ?_, fun x c e => ?_, fun p hm => ?_, fun b u e => ?_, I.len⟩
  · rw [upd_ne (ne0 b u e)]; exact I.base.free b u e n hx
  · have := I.base.tups b xs e
    rw [upd_ne (ne b _ this)]; exact this
  · have := I.base.frzs b u xs e
    rw [upd_ne (ne b _ this)]; exact this
  · obtain ⟨more, q⟩ := I.base.tbls b ps e
    exact ⟨more, by rw [upd_ne (ne b _ q)]; exact q⟩
  · rw [upd_ne (Ne.symm nL)]; exact I.free
  · rw [upd_ne (nc x c e)]; exact I.freeC x c e
  · obtain ⟨k1, k2, k3, k4, k5⟩ := I.pin p hm
    exact ⟨k1, by rw [upd_ne (hp p hm)]; exact k2, k3, k4, k5⟩
  · by_cases hb : b = a
    · subst hb
      rw [upd_same] at e
      cases e
      exact ⟨⟨o, fs, ha, hz, hf⟩, ⟨o, ha⟩, fun _ _ ⟨o', f', q, r⟩ k => ⟨o', f', k o' q, r⟩⟩
    · rw [upd_ne hb] at e
      exact (I.hok b u e).stay (fun _ _ _ q => q) (fun c q => by rw [upd_ne (ne c _ q)]; exact q) (fun c xs q => by rw [upd_ne (ne c _ q)]; exact q)
end
/-- what 'except x as n: ..' wishes, the exception tracked behind the suite (slot i is n's) -/
def wKept (K : PySem.W.Frag) (c : Value) (i : Nat) (ts : Addr → Value → TS) (Wout : WX) (D : Ends) : WX := fun cls d σ H =>
  ∃ b, PySem.W.exmOne K cls c = some b ∧ (b = true → d = none ∧ ∀ a, H a = none → ts a cls ⟨fun σ1 H1 => D.nx (σ1.set i none) (upd H1 a (XO cls a)), fun _ _ => False, fun _ _ => False, fun _ _ => False⟩ (σ.set i (some (.ref a))) H) ∧ (b = false → Wout cls d σ H)
section
variable {X : Cx} {x n : Str} {c : Value} {i : Nat} {body suite : List Stmt} {b0 : Stmt} {np p1 p2 : Pos} {tb : WX → TS} {ts : Addr → Value → TS} {Wout : WX}
theorem ps_try_kept (hex : X.ex = []) (hs : X.stack = X.env :: X.outer) (hf : X.env.frame = some X.env.locals) (hN : X.N.Nodup) (hi : X.N[i]? = some n) (hln : X.env.kindOf n = some .local) (hc : Names X x c) (tk : Takes X Wout)
    (hb : ∀ (W : WX) (pn : List (Addr × Obj)) (xe : Value → Shared → Prop), Takes (X.tr pn xe) W → PassesOwn (model X.prog X.w) X.A X.env xe → PSs (X.tr pn xe) body (tb W))
    (hsu : ∀ (a : Addr) (oe : Obj) (cls : Value) (pn : List (Addr × Obj)), PSs (X.suite a ((a, oe) :: pn)) (b0 :: suite) (ts a cls)) :
    PS X (.Try body [.ExceptHandler (some (.Name x np)) (some n) (b0 :: suite) p2] [] [] p1) (fun D σ H => tb (wKept X.K c i ts Wout D) D σ H) := by
  refine ⟨fun pins s σ H D I h => ?_⟩
  have ok := I.ok
  have hfr := ok.frames
  rw [hs] at hfr
  have hl0 : Loc X.env.scope n := .inl hln
  refine wpAny_Try_except ?_
  refine wpAny_mono (Q := fun f s1 => SP (X.tr (X.pn ++ pins) (fun e s1 => wpAny (model X.prog X.w) X.A (noteFrame e X.env) (fun _ s2 => wpAny (model X.prog X.w) X.A (setFlight e none) (fun _ s3 => wpAny (model X.prog X.w) X.A (handleBy e X.env [.ExceptHandler (some (.Name x np)) (some n) (b0 :: suite) p2]) (SP X pins D) X.xe s3) X.xe s2) X.xe s1)) [] D f s1)
    ((hb (wKept X.K c i ts Wout D) (X.pn ++ pins) _ (fun u s1 hx => ?_) PassesOwn.looking).run [] s σ H D (I.toTry _) h) (fun f s1 hsp => ?_) (fun e s1 he => he)
  · obtain ⟨a, B, sI, ps, σ2, H2, cls, d, rfl, J0, nb, up, sky, na, os, ag, b, hb1, hyes, hno⟩ := hx
    have J : Inv X pins σ2 H2 sI := J0.ofTry ok
    have sk : Sky B (X.env :: X.outer) a (Zc cls d) X.env.locals s1.heap := by rw [← hs]; exact sky
    show wpAny (model X.prog X.w) X.A (noteFrame (.ref a) X.env) _ _ _
    refine Sky.land Zc.steady hfr hf sk fun h3 fl3 up3 => ?_
    have J3 : Inv X pins σ2 H2 { s1 with heap := h3 } := J.landed nb fl3.1 (up.trans up3) os ag
    obtain ⟨o3, f3, e3, z3, d3⟩ := fl3.there
    have apart : a ∉ frs (X.env :: X.outer) := fun hm => by
      obtain ⟨_, o', e', hnf⟩ := fl3.2.2.1.mem hm
      rw [e3] at e'; cases e'
      exact hnf _ d3
    have nL : a ≠ X.env.locals := fun z => apart (List.mem_filterMap.mpr ⟨X.env, List.mem_cons_self, by rw [hf, z]⟩)
    have nF : a ∉ X.fs := fun hm => by
      obtain ⟨w, hw, q⟩ := List.mem_filterMap.mp hm
      exact apart (List.mem_filterMap.mpr ⟨w, List.mem_cons_of_mem _ hw, q⟩)
    -- nothing stood at a before the exception
    have nI : sI.heap.get? a = none := by
      cases q : sI.heap.get? a with
      | none => rfl
      | some o =>
        have := nb a o q (by rw [hs]; exact apart)
        rw [fl3.2.1] at this; cases this
    have n0 : X.s_0.heap.get? a = none := by
      cases q : X.s_0.heap.get? a with
      | none => rfl
      | some o =>
        obtain ⟨o', q'⟩ := J.base.there a o q (by rw [hex]; simp)
        rw [nI] at q'; cases q'
    have nq : ∀ p ∈ X.pn ++ pins, p.1 ≠ a := fun p hp z => by
      have := (J.pin p hp).1
      rw [z, nI] at this; cases this
    have K3 := J3.suite e3 d3 na nL nF
    have ty : PySem.W.Looks (model X.prog X.w) h3 (typeOf (.ref a)) cls := fun A Q E t keep q => wpAny_typeOf_ref (keep _ _ e3) (by rw [z3.1]; exact q)
    have asks := PySem.W.exm_one (M := model X.prog X.w) J3.kIn ty hb1
    refine wpAny_handleBy_cons (codeAny_handlers_test ?_) (fun q => by cases q)
    have named : ∀ {R : Value → Shared → Prop} {T : Value → Shared → Prop}, R c { s1 with heap := h3 } → wpAny (model X.prog X.w) (X.A.mark (some (.ref a))) (eval (.Name x np) X.env) R T { s1 with heap := h3 } := fun {R T} r => by
      obtain ⟨g1, g2, g3 | ⟨g3, g4, g5⟩⟩ := hc
      · exact ld_glob (X := X.suite a ((a, o3) :: (X.pn ++ pins))) K3 g1 g3 r g2
      · exact ld_blt (X := X.suite a ((a, o3) :: (X.pn ++ pins))) K3 g1 g3 g4 r g5 g2
    refine named (asks.here ?_)
    cases b with
    | true =>
      obtain ⟨rfl, wish⟩ := hyes rfl
      refine codeAny_handlers_suite_as ?_
      refine HandSPX.lands_againZ fl3 fun h4 fl4 up4 => ?_
      have J4 : Inv X pins σ2 H2 { s1 with heap := h4 } := J.landed nb fl4.1 ((up.trans up3).trans up4) os ag
      obtain ⟨o4, f4, e4, z4, d4⟩ := fl4.there
      have K4 := J4.suite e4 d4 na nL nF
      refine store_ok (X := X.suite a ((a, o4) :: (X.pn ++ pins))) (v := .ref a) K4 hN hi hl0 rfl (fun s5 K5 => ?_) (.inr hln)
      refine wpAny_mono ((hsu a o4 cls (X.pn ++ pins)).run [] s5 _ H2 _ K5 (wish a na)) (fun f s6 hsp => ?_) (fun _ _ z => z.elim)
      cases f with
      | next =>
        obtain ⟨σ6, H6, K6, q6⟩ := hsp
        obtain ⟨k1, k2, _⟩ := K6.pin (a, o4) (List.mem_append_left _ List.mem_cons_self)
        have J6 := adopt (K6.unsuite ok) k2 k1 z4 d4 n0 nL nq
        exact gone_ok J6 hN hi hln fun s7 J7 => ⟨_, _, J7, q6⟩
      | brk =>
        obtain ⟨_, _, _, q6⟩ := hsp
        exact q6.elim
      | cont =>
        obtain ⟨_, _, _, q6⟩ := hsp
        exact q6.elim
      | ret u =>
        obtain ⟨_, _, _, _, _, q6⟩ := hsp
        exact q6.elim
    | false =>
      show wpAny _ X.A (handleBy (.ref a) X.env []) _ _ _
      refine wpAny_handleBy_nil ?_
      obtain ⟨g1, g2, g3, oe, vs, T, oT, ts', he, hz, hd, h1, hr⟩ := id fl3
      unfold PySem.passOn
      refine wpAny_bind (wpAny_field he hd h1 ?_)
      rw [if_neg (by simp)]
      have fin : wpAny (model X.prog X.w) X.A (setFlight (.ref a) X.env.frame) (fun _ t => wpAny (model X.prog X.w) X.A (throw (.ref a) : Sem Flow) (SP X pins D) X.xe t) X.xe { s1 with heap := h3 } := by
        rw [hf]
        refine HandSPX.setFlight_upZ fl3 fun h4 hh4 up4 => wpAny_throw (tk _ _ ?_)
        exact ⟨a, B, sI, pins, σ2, H2, cls, d, rfl, J, nb, (up.trans up3).trans up4, .inr (.inr (by rw [hs]; exact hh4)), na, os, ag, hno rfl⟩
      first
        | exact wpAny_bind (wpAny_pure (wpAny_bind fin))
        | exact wpAny_bind fin
  · cases f with
    | next =>
      obtain ⟨σ2, H2, J2, q⟩ := hsp
      exact wpAny_execs_nil ⟨σ2, H2, J2.ofTry ok, q⟩
    | brk =>
      obtain ⟨σ2, H2, J2, q⟩ := hsp
      exact ⟨σ2, H2, J2.ofTry ok, q⟩
    | cont =>
      obtain ⟨σ2, H2, J2, q⟩ := hsp
      exact ⟨σ2, H2, J2.ofTry ok, q⟩
    | ret u =>
      obtain ⟨v, σ2, H2, J2, r, q⟩ := hsp
      exact ⟨v, σ2, H2, J2.ofTry ok, r, q⟩
end
/-- isinstance(e, c), e an exception that is tracked -/
def rIsK (K : PySem.W.Frag) (D : Addr) : List V → Hp → VK → Prop := fun xs H Q => ∃ (a : Addr) (c : V) (cv : Value) (b : Bool), xs = [.ref a, c] ∧ H a = some (XO (.ref D) a) ∧ (∀ u, RelV c u → u = cv) ∧ PySem.W.kitOne K (.ref D) cv = some b ∧ Q (.bl b) H
theorem call_isK {X : Cx} {D : Addr} (C : ExcC X.K D) : CallR X (.builtin "isinstance") (rIsK X.K D) := by
  intro pins s σ H xs us Q I r h
  obtain ⟨a, c, cv, b, rfl, hX, hcv, e, q⟩ := h
  cases r with
  | cons rx rr =>
    cases rr with
    | cons rt rr =>
      cases rr
      cases rx
      obtain rfl := hcv _ rt
      obtain ⟨o, fs, g1, ⟨g2, g3⟩, g4⟩ := (show ObjOk X.prog X.w H s.heap a (XO (.ref D) a) from I.hok a _ hX).1
      have J : PySem.W.InstAt s.heap a o D none := by
        obtain ⟨oc, od, oda, osl⟩ := o
        dsimp only at g2 g3 g4
        subst g2 g3 g4
        exact ⟨g1, rfl, rfl, trivial⟩
      exact PySem.W.kia_one (PySem.W.handS_kitx_exc C.hg C.hk C.hs C.hd C.ha C.hn C.ht C.hm) I.kIn J e (fun z => nomatch z) fun tk => ⟨.bl b, H, I.kept (t' := tk) fun _ _ z => z, rfl, q⟩
end L2

set_option maxHeartbeats 4000000
namespace L2
open PySem PySem.Spec PyProof.Rows
open Fu (Sub lpins forget remember lost_of mixH loose_there mix_held mix_free)
section
variable {X : Cx} {k : Nat} {f : Addr} {fd : FuncData} {ps : List Str} {sp : Sp} {W : WX} {x : Str} {p pos : Pos} {e : Expr} {es : List Expr} {t : TA}
/-- a call that may raise, over a part of the heap -/
theorem run_fnFX {pins : List (Addr × Obj)} {σ : L2.St} {H G : Hp} {s : Shared} {Q : VK} {us : List Value} {vs : List V} (F : FnOk X.prog X.w X.K X.mg X.base (CX X.prog X.w) k f fd ps sp) (hr : Room k X.A) (hb : Binds X.K fd ps []) (tk : Takes X W)
    (I : Inv X pins σ H s) (r : Vals vs us) (S : Sub G H) (h : sp vs G (fun v G' => (∀ b xs, G b = some (.tup xs) → G' b = some (.tup xs)) ∧ ((∀ b o, H b = some o → G b = none → G' b = none) → Q v (mixH G H G')))
      (fun cls d G' => (∀ b xs, G b = some (.tup xs) → G' b = some (.tup xs)) ∧ ((∀ b o, H b = some o → G b = none → G' b = none) → W cls d σ (mixH G H G')))) :
    wpAny (model X.prog X.w) X.A (call (.ref f) us) (EP X pins σ Q) X.xe s := by
  have I0 := forget I S
  have I1 := I0.toTry X.xe
  have hl : us.length = ps.length := by rw [← r.length]; exact F.len _ _ _ _ h
  have b := hb s us I.kIn (by rw [List.append_nil]; exact hl)
  rw [List.append_nil] at b
  refine wpAny_call (codeAny_mono (F.run X.A X.stack s G ⟨us, []⟩ us vs _ _ hr I0.env0 b r h) fun res s' hq => ?_)
  cases res with
  | ok fl =>
    cases fl with
    | ret u =>
      obtain ⟨v, G', I', rv, ht, q⟩ := I0.after hq
      exact ⟨v, mixH G H G', remember I S I' ht, rv, q (lost_of I S I')⟩
    | next => exact hq.elim
    | brk => exact hq.elim
    | cont => exact hq.elim
  | error er =>
    obtain ⟨a0, B0, H0', cls0, d0, e0, fl0, hok0, ub0, na0, _⟩ := id hq
    obtain ⟨a, B, sI, pns, σ', G', cls, d, ea, J, nb, up, sky, na, os, ag, rfl, ht, q⟩ := XE.of_call (X := X.tr (X.pn ++ (pins ++ lpins H G s.heap)) X.xe) (W := fun cls d σ' G' => σ' = σ ∧ (∀ b xs, G b = some (.tup xs) → G' b = some (.tup xs)) ∧ ((∀ b o, H b = some o → G b = none → G' b = none) → W cls d σ (mixH G H G'))) I1 (fun cls d H' h => ⟨rfl, h⟩) hq
    have J' := J.ofTry I.ok
    have aa : a0 = a := by rw [e0] at ea; cases ea; rfl
    subst aa
    refine tk _ _ ⟨a0, B, sI, pins, σ', mixH G H G', cls, d, ea, remember I S J' ht, nb, up, sky, ?_, os, ag, q (lost_of I S J')⟩
    cases q1 : G a0 with
    | some u => rw [mix_held q1]; exact na
    | none =>
      cases q2 : H a0 with
      | none => rw [mix_free q2]; exact na
      | some u =>
        obtain ⟨ob, hob⟩ : ∃ ob, s.heap.get? a0 = some ob := loose_there (I.hok a0 u q2) (S.loose a0 u q2 q1)
        have nf : a0 ∉ frs X.stack := fun hm => by
          have := I.env0.frf a0 hm
          rw [q2] at this; cases this
        have := ub0.keep a0 ob hob q1 nf
        rw [fl0.2.1] at this; cases this
def tCallX (sp : Sp) (W : WX) (t : TA) : TE := fun σ H Q => t σ H fun vs H1 => ∃ G, Sub G H1 ∧ sp vs G (fun v G' => (∀ b xs, G b = some (.tup xs) → G' b = some (.tup xs)) ∧ ((∀ b o, H1 b = some o → G b = none → G' b = none) → Q v (mixH G H1 G')))
  (fun cls d G' => (∀ b xs, G b = some (.tup xs) → G' b = some (.tup xs)) ∧ ((∀ b o, H1 b = some o → G b = none → G' b = none) → W cls d σ (mixH G H1 G')))
theorem pe_callX (F : FnOk X.prog X.w X.K X.mg X.base (CX X.prog X.w) k f fd ps sp) (hr : Room k X.A) (hg : Gl X x) (hm : X.mg x = some (.ref f)) (hk : PySem.W.keepIn X.K (.ref f) = true) (hb : Binds X.K fd ps []) (tk : Takes X W)
    (ha : PA X (e :: es) t) (hdb : (x == ("__debug__" : Str)) = false := by decide) (he : starEach (e :: es) X.env = (false, eval e X.env) :: starEach es X.env := by rfl) (hpl : (backTo pos (starEach es X.env)).any (·.1) = false := by rfl) :
    PE X (.Call (.Name x p) (e :: es) [] pos) (tCallX sp W t) := by
  refine ⟨fun pins s σ H Q I h => ?_⟩
  refine wpAny_Call_Name_kw (ld_glob I hg hm ?_ hdb)
  refine PySem.W.callWith_K (h₀ := X.base) I.ok.mod.kin hk (thn (ha.run pos pins s σ H _ I h) fun us s1 ⟨vs, H1, I1, r, G, S, q⟩ => ⟨I1.kIn, ?_⟩) he hpl
  exact run_fnFX F hr hb tk I1 r S q
end
end L2

set_option maxHeartbeats 4000000
namespace Fu
open PySem PySem.Spec PyProof.Rows L2 RZ
/-! ### what may raise: mirrored with its refusals -/
def ClsD (K : PySem.W.Frag) (c : Str) (D : Addr) : Prop := PySem.W.nsIn K mainGlobals c = some (some (.ref D))
/-- a def that may raise: its value by data, or the name of the class it raises -/
def spZ (K : PySem.W.Frag) (n : Nat) (m : List D → Option (Except Str D)) : Sp := fun vs H Q E => ∃ ds r, ds.length = n ∧ Rps K H vs ds ∧ m ds = some r ∧ (∀ z, r = .ok z → ∀ H' v, Same H H' → Rp K H' v z → Q v H') ∧ (∀ c, r = .error c → ∀ H' D, Same H H' → ClsD K c D → E (.ref D) none H')
theorem spZ_len {K : PySem.W.Frag} {n : Nat} {m : List D → Option (Except Str D)} {ps : List Str} (h : ps.length = n) : ∀ vs H Q E, spZ K n m vs H Q E → vs.length = ps.length := by
  intro vs H Q E ⟨ds, z, e, r, _⟩
  rw [r.length, e, h]
def HasZ (P : Program) (w : World) (K : PySem.W.Frag) (mg : Str → Option Value) (base : Heap) (x : Str) (k : Nat) (ps : List Str) (sp : Sp) : Prop :=
  ∃ f fd, mg x = some (.ref f) ∧ PySem.W.keepIn K (.ref f) = true ∧ L2.Binds K fd ps [] ∧ FnOk P w K mg base (L2.CX P w) k f fd ps sp
abbrev Zr (α : Type) := Except (Str × Sx) α
def ZErr (K : PySem.W.Frag) (W : WX) (A : List Addr) (F : Hp) (e : Str × Sx) : Prop := ∀ A' F' H' σ' D, A <+: A' → Same F F' → Ok K A' F' H' e.2 σ' → ClsD K e.1 D → W (.ref D) none σ' H'
def RdEZ (K : PySem.W.Frag) (W : WX) (t : TE) (g : Sx → Option (Zr (D × Sx))) : Prop := ∀ A F H S σ r Q, Ok K A F H S σ → g S = some r →
  (∀ d S', r = .ok (d, S') → ∀ A' F' H' v, A <+: A' → Same F F' → Ok K A' F' H' S' σ → Rp K F' v d → Q v H') → (∀ e, r = .error e → ZErr K W A F e) → t σ H Q
structure GEZ (X : Cx) (W : WX) (e : Expr) (g : Sx → Option (Zr (D × Sx))) : Prop where
  ex : ∃ t, PE X e t ∧ RdEZ X.K W t g
def RdAZ (K : PySem.W.Frag) (W : WX) (t : TA) (g : Sx → Option (Zr (List D × Sx))) : Prop := ∀ A F H S σ r Q, Ok K A F H S σ → g S = some r →
  (∀ d S', r = .ok (d, S') → ∀ A' F' H' v, A <+: A' → Same F F' → Ok K A' F' H' S' σ → Rps K F' v d → Q v H') → (∀ e, r = .error e → ZErr K W A F e) → t σ H Q
structure GAZ (X : Cx) (W : WX) (es : List Expr) (g : Sx → Option (Zr (List D × Sx))) : Prop where
  ex : ∃ t, PA X es t ∧ RdAZ X.K W t g
theorem ZErr.mono {K : PySem.W.Frag} {W : WX} {A A1 : List Addr} {F F1 : Hp} {e : Str × Sx} (p : A <+: A1) (s : Same F F1) (h : ZErr K W A F e) : ZErr K W A1 F1 e := fun A' F' H' σ' D p' s' k c => h A' F' H' σ' D (p.trans p') (s.trans s') k c
def zCall (n : Nat) (m : List D → Option (Except Str D)) (g : M (List D)) : Sx → Option (Zr (D × Sx)) := fun S => (g S).bind fun p => if p.1.length = n then (m p.1).map fun r => match r with
  | .ok z => .ok (z, p.2)
  | .error c => .error (c, p.2) else none
section
variable {X : Cx} {W : WX} {pos p p2 : Pos} {x : Str} {e : Expr} {es : List Expr} {gs : M (List D)} {k n : Nat} {ps : List Str}
theorem ez_call {m : List D → Option (Except Str D)} (h : HasZ X.prog X.w X.K X.mg X.base x k ps (spZ X.K n m)) (hr : Room k X.A) (tk : Takes X W) (ha : GA X (e :: es) gs) (hg : Gl X x := by rfl) (hdb : (x == ("__debug__" : Str)) = false := by decide)
    (he : starEach (e :: es) X.env = (false, eval e X.env) :: starEach es X.env := by rfl) (hpl : (backTo pos (starEach es X.env)).any (·.1) = false := by rfl) : GEZ X W (.Call (.Name x p) (e :: es) [] pos) (zCall n m gs) := by
  obtain ⟨fa, fd, hm, kp, b, F⟩ := h
  obtain ⟨t, pa, ra⟩ := ha.ex
  refine ⟨_, pe_callX F hr hg hm kp b tk pa hdb he hpl, fun A F H S σ r Q k h post err => ?_⟩
  obtain ⟨⟨ds, S1⟩, h1, h⟩ := bind_inv h
  simp only at h
  split at h
  case isFalse => cases h
  rename_i hn
  obtain ⟨r0, h2, rfl⟩ := Option.map_eq_some_iff.mp h
  refine ra A F H S σ ds _ _ k h1 fun A1 F1 H1 vs p1 s1 k1 r1 => ⟨F1, k1.sub, ds, r0, hn, r1, h2, fun z ez G' v sm rv => ⟨fun b xs q => sm b _ q, fun lost => ?_⟩, fun c ec G' D sm cd => ⟨fun b xs q => sm b _ q, fun lost => ?_⟩⟩
  · subst ez
    exact post _ _ rfl A1 G' _ v p1 (s1.trans sm) (k1.mix sm lost) rv
  · subst ec
    exact err _ rfl A1 G' _ σ D p1 (s1.trans sm) (k1.mix sm lost) cd
/-- one value handed in, whose making may raise -/
def zOne (g : Sx → Option (Zr (D × Sx))) : Sx → Option (Zr (List D × Sx)) := fun S => (g S).map fun r => match r with
  | .ok q => .ok ([q.1], q.2)
  | .error e => .error e
theorem az_one {g : Sx → Option (Zr (D × Sx))} (h : GEZ X W e g) (he : starEach [e] X.env = (false, eval e X.env) :: starEach [] X.env := by rfl) : GAZ X W [e] (zOne g) := by
  obtain ⟨t, pe, re⟩ := h.ex
  refine ⟨_, pa_cons pe pa_nil he, fun A F H S σ r Q k h post err => ?_⟩
  obtain ⟨r0, h1, rfl⟩ := Option.map_eq_some_iff.mp h
  refine re A F H S σ r0 _ k h1 (fun d S' e0 A' F' H' v p s k' rv => ?_) (fun e e0 => ?_)
  · subst e0
    exact post _ _ rfl A' F' H' [v] p s k' (.cons rv .nil)
  · subst e0
    exact err _ rfl
def zCallF (n : Nat) (f : List D → Option D) (g : Sx → Option (Zr (List D × Sx))) : Sx → Option (Zr (D × Sx)) := fun S => (g S).bind fun r => match r with
  | .ok q => if q.1.length = n then (f q.1).map fun z => .ok (z, q.2) else none
  | .error e => some (.error e)
theorem ez_callF {f : List D → Option D} {ga : Sx → Option (Zr (List D × Sx))} (h : Has X.prog X.w X.K X.mg X.base x k ps (spF X.K n f)) (hr : Room k X.A) (ha : GAZ X W (e :: es) ga) (hg : Gl X x := by rfl) (hdb : (x == ("__debug__" : Str)) = false := by decide)
    (he : starEach (e :: es) X.env = (false, eval e X.env) :: starEach es X.env := by rfl) (hpl : (backTo pos (starEach es X.env)).any (·.1) = false := by rfl) : GEZ X W (.Call (.Name x p) (e :: es) [] pos) (zCallF n f ga) := by
  obtain ⟨fa, fd, hm, kp, b, F⟩ := h
  obtain ⟨t, pa, ra⟩ := ha.ex
  refine ⟨_, pe_callF F hr hg hm kp b .nil pass0 pa hdb he hpl, fun A F H S σ r Q k h post err => ?_⟩
  obtain ⟨r0, h1, h⟩ := bind_inv h
  refine ra A F H S σ r0 _ k h1 (fun ds S1 e0 A1 F1 H1 vs p1 s1 k1 r1 => ?_) (fun e e0 => ?_)
  · subst e0
    simp only at h
    split at h
    case isFalse => cases h
    rename_i hn
    obtain ⟨z, h2, rfl⟩ := Option.map_eq_some_iff.mp h
    exact ⟨F1, k1.sub, ds, _, hn, by rw [List.append_nil]; exact r1, h2, fun G' v sm rv => ⟨fun b xs q => sm b _ q, fun lost => post _ _ rfl A1 G' _ v p1 (s1.trans sm) (k1.mix sm lost) rv⟩⟩
  · subst e0
    cases h
    exact err _ rfl
/-- a built-in's call -/
def zCallB (f : List D → Option D) (g : Sx → Option (Zr (List D × Sx))) : Sx → Option (Zr (D × Sx)) := fun S => (g S).bind fun r => match r with
  | .ok q => (f q.1).map fun z => .ok (z, q.2)
  | .error e => some (.error e)
end
/-! ### statements that may raise -/
def RdSZ (K : PySem.W.Frag) (P : Hp → Prop) (W : WX) (t : TS) (g : Sx → Option (Zr Out)) : Prop := ∀ B A0 A F H S σ r (E : Ends), P B → Same B F → A0 <+: A → Ok K A F H S σ → g S = some r → (∀ o, r = .ok o → OutP K B A0 o E) → (∀ e, r = .error e → ZErr K W A0 B e) → t E σ H
structure GZ (X : Cx) (P : Hp → Prop) (W : WX) (st : Stmt) (g : Sx → Option (Zr Out)) : Prop where
  ex : ∃ t, PS X st t ∧ RdSZ X.K P W t g
structure GZs (X : Cx) (P : Hp → Prop) (W : WX) (st : List Stmt) (g : Sx → Option (Zr Out)) : Prop where
  ex : ∃ t, PSs X st t ∧ RdSZ X.K P W t g
def zS (g : Sx → Option Out) : Sx → Option (Zr Out) := fun S => (g S).map .ok
def zSeq (g h : Sx → Option (Zr Out)) : Sx → Option (Zr Out) := fun S => (g S).bind fun r => match r with
  | .ok (.nx S1) => h S1
  | r => some r
def zIf (t : M Bool) (g h : Sx → Option (Zr Out)) : Sx → Option (Zr Out) := fun S => (t S).bind fun p => if p.1 = true then g p.2 else h p.2
def zRaise (c : Str) : Sx → Option (Zr Out) := fun S => some (.error (c, S))
def zBe (g : Sx → Option (Zr (D × Sx))) (f : D → Sx → Option Out) : Sx → Option (Zr Out) := fun S => (g S).bind fun r => match r with
  | .ok q => (f q.1 q.2).map .ok
  | .error e => some (.error e)
def zDrop (g : Sx → Option (Zr (D × Sx))) := zBe g fun _ S => some (.nx S)
def zRet (g : Sx → Option (Zr (D × Sx))) := zBe g fun d S => some (.rt d S)
def zSet (i : Nat) (g : Sx → Option (Zr (D × Sx))) := zBe g fun d S => some (.nx ⟨S.sl.set i (some (.dat d)), S.os⟩)
/-- the facts of a class that is raised -/
def ExcT (K : PySem.W.Frag) (mg : Str → Option Value) (c : Str) : Prop := ∃ C, ClsD K c C ∧ mg c = some (.ref C) ∧ PySem.W.excIn K C [.type "ValueError", .type "Exception", .type "BaseException", .type "object"] "ValueError.__new__" = true ∧ PySem.W.keepIn K (.ref C) = true ∧ PySem.W.subIn K (.ref C) (.type "BaseException") = some true ∧ PySem.W.typeIn K (.ref C) = some (.type "type")
section
variable {X : Cx} {P : Hp → Prop} {W : WX} {st : Stmt} {sts : List Stmt} {g h : Sx → Option (Zr Out)} {e : Expr} {ge : Sx → Option (Zr (D × Sx))} {pos : Pos}
theorem zs_of {g : Sx → Option Out} (h : GSs X P sts g) : GZs X P W sts (zS g) := by
  obtain ⟨t, p, r⟩ := h.ex
  refine ⟨t, p, fun B A0 A F H S σ r0 E hP s p k e post err => ?_⟩
  obtain ⟨o, h1, rfl⟩ := Option.map_eq_some_iff.mp e
  exact r B A0 A F H S σ o E hP s p k h1 (post o rfl)
theorem zs_one (h1 : GZ X P W st g) : GZs X P W [st] g := let ⟨_, p1, r1⟩ := h1.ex; ⟨_, pss_one p1, r1⟩
theorem zs_cons (h1 : GZ X P W st g) (h2 : GZs X P W sts h) : GZs X P W (st :: sts) (zSeq g h) := by
  obtain ⟨t, p1, r1⟩ := h1.ex
  obtain ⟨u, p2, r2⟩ := h2.ex
  refine ⟨_, pss_cons p1 p2, fun B A0 A F H S σ r E hP s p k e post err => ?_⟩
  obtain ⟨r0, e1, e⟩ := bind_inv e
  refine r1 B A0 A F H S σ r0 _ hP s p k e1 (fun o e0 => ?_) (fun er e0 => ?_)
  · subst e0
    cases o with
    | nx S1 => exact fun A1 F1 H1 σ1 s1 p1 k1 => r2 B A0 A1 F1 H1 S1 σ1 r E hP s1 p1 k1 e post err
    | rt d S1 => cases e; exact post _ rfl
    | bk S1 => cases e; exact post _ rfl
    | ct S1 => cases e; exact post _ rfl
    | ro j S1 => cases e; exact post _ rfl
  · subst e0
    cases e
    exact err _ rfl
theorem z_if {c : Expr} {a b : List Stmt} {gt : M Bool} (hc : GT X c gt) (ha : GZs X P W a g) (hb : GZs X P W b h) : GZ X P W (.If c a b pos) (zIf gt g h) := by
  obtain ⟨t, pc, rc⟩ := hc.ex
  obtain ⟨_, pa, ra⟩ := ha.ex
  obtain ⟨_, pb, rb⟩ := hb.ex
  refine ⟨_, ps_if pc pa pb, fun B A0 A F H S σ r E hP s p k e post err => ?_⟩
  obtain ⟨⟨x, S1⟩, e1, e⟩ := bind_inv e
  refine rc A F H S σ x S1 _ k e1 fun A1 F1 H1 p1 s1 k1 => ?_
  cases x with
  | true => exact ra B A0 A1 F1 H1 S1 σ r E hP (s.trans s1) (p.trans p1) k1 e post err
  | false => exact rb B A0 A1 F1 H1 S1 σ r E hP (s.trans s1) (p.trans p1) k1 e post err
theorem z_expr (he : GEZ X W e ge) (hs : swapsWith e none pos.line X.env = pure false := by rfl) : GZ X P W (.Expr e pos) (zDrop ge) := by
  obtain ⟨t, p1, r1⟩ := he.ex
  refine ⟨_, ps_expr p1 hs, fun B A0 A F H S σ r E hP s p k e post err => ?_⟩
  obtain ⟨r0, e1, e⟩ := bind_inv e
  refine r1 A F H S σ r0 _ k e1 (fun d S1 e0 A1 F1 H1 v p1 s1 k1 _ => ?_) (fun er e0 => ?_)
  · subst e0; cases e
    exact post _ rfl A1 F1 H1 σ (s.trans s1) (p.trans p1) k1
  · subst e0; cases e
    exact fun A' F' H' σ' D p' s' k' c => err _ rfl A' F' H' σ' D (p.trans p') (s.trans s') k' c
theorem z_ret (he : GEZ X W e ge) : GZ X P W (.Return (some e) pos) (zRet ge) := by
  obtain ⟨t, p1, r1⟩ := he.ex
  refine ⟨_, ps_ret p1, fun B A0 A F H S σ r E hP s p k e post err => ?_⟩
  obtain ⟨r0, e1, e⟩ := bind_inv e
  refine r1 A F H S σ r0 _ k e1 (fun d S1 e0 A1 F1 H1 v p1 s1 k1 rv => ?_) (fun er e0 => ?_)
  · subst e0; cases e
    exact post _ rfl A1 F1 H1 σ v (s.trans s1) (p.trans p1) k1 rv
  · subst e0; cases e
    exact fun A' F' H' σ' D p' s' k' c => err _ rfl A' F' H' σ' D (p.trans p') (s.trans s') k' c
theorem z_set {x : Str} {pos' : Pos} (i : Nat) (hN : X.N.Nodup) (he : GEZ X W e ge) (hx : Loc X.env.scope x := by first | exact Or.inl rfl | exact Or.inr rfl) (hi : X.N[i]? = some x := by rfl) (hs : swapsWith e (some (.Name x pos')) pos.line X.env = pure false := by rfl)
    (hf : X.fn x = true ∨ X.env.scope.names.lookup x = some .local := by first | exact .inl rfl | exact .inr rfl | assumption) : GZ X P W (.Assign [.Name x pos'] e pos) (zSet i ge) := by
  obtain ⟨t, p1, r1⟩ := he.ex
  refine ⟨_, ps_set hN hi hx p1 hs hf, fun B A0 A F H S σ r E hP s p k e post err => ?_⟩
  obtain ⟨r0, e1, e⟩ := bind_inv e
  refine r1 A F H S σ r0 _ k e1 (fun d S1 e0 A1 F1 H1 v p1 s1 k1 rv => ?_) (fun er e0 => ?_)
  · subst e0; cases e
    exact post _ rfl A1 F1 H1 _ (s.trans s1) (p.trans p1) (k1.setDat rv)
  · subst e0; cases e
    exact fun A' F' H' σ' D p' s' k' c => err _ rfl A' F' H' σ' D (p.trans p') (s.trans s') k' c
theorem z_raise {c m : Str} {j} {p p2 p3 : Pos} (T : ExcT X.K X.mg c) (tk : Takes X W) (hc : X.calm = true := by rfl) (hg : Gl X c := by rfl) (hdb : (c == ("__debug__" : Str)) = false := by decide) :
    GZ X P W (.Raise (some (.Call (.Name c p) [.Constant (.str m) j p2] [] p3)) none pos) (zRaise c) := by
  obtain ⟨C, cd, hm, hx, hk, hb, ht⟩ := T
  refine ⟨_, ps_raise hc tk (pmk_own PySem.F.excBase_ValueError hx hm hk (raises_own hb ht) hg hdb), fun B A0 A F H S σ r E hP s p k e post err => ?_⟩
  cases e
  exact err _ rfl A F H σ C p s k cd
end
/-! ### a def that may raise -/
def mZ (n : Nat) (g : Sx → Option (Zr Out)) : List D → Option (Except Str D) := fun ds => (g ⟨initS n ds, []⟩).bind fun r => match r with
  | .error e => some (.error e.1)
  | .ok (.nx _) => some (.ok .none)
  | .ok (.rt d _) => some (.ok d)
  | _ => none
section
variable {P : Program} {w : World} {K : PySem.W.Frag} {mg : Str → Option Value} {base : Heap} {x qual : Str} {st : Stmt} {f : Addr} {fd : FuncData} {N ps : List Str} {k n : Nat} {g : Sx → Option (Zr Out)}
abbrev cxZ (P : Program) (w : World) (K : PySem.W.Frag) (mg : Str → Option Value) (base : Heap) (N : List Str) (qual : Str) (st : Stmt) (f : Addr) (cdv : Value) (A : Around) (outer : List Env) (s : Shared) (H : Hp) (E : XK) : Cx := cxOf (L2.CX P w) P w K mg base N qual (defScope st) f cdv A outer s H E
abbrev wZ (E : XK) : WX := fun cls d _ H => E cls d H
theorem fn_z (F : Fun K x qual st f fd) (S : FnScope N ps (defScope st)) (hn : ps.length = n) (hN : n ≤ N.length)
    (body : ∀ (cdv : Value) (A : Around) (outer : List Env) (s : Shared) (H : Hp) (E : XK), Room k (A.deeper (envOfC qual (defScope st) s.heap.objs.size f cdv)) → GZs (cxZ P w K mg base N qual st f cdv A outer s H E) AnyB (wZ E) (defBody st) g) :
    FnOk P w K mg base (L2.CX P w) (k + 1) f fd ps (spZ K n (mZ N.length g)) := by
  refine F.okX S (spZ_len hn) fun cdv A outer s H vs Q E hr h => ?_
  obtain ⟨ds, r0, hd, r, e, post, err⟩ := h
  obtain ⟨t, p, rd⟩ := (body cdv A outer s H E hr).ex
  refine ⟨t, p, ?_⟩
  obtain ⟨o, e1, e⟩ := bind_inv e
  have hl : vs.length ≤ N.length := by rw [r.length, hd]; exact hN
  refine rd H [] [] H H _ (L2.start N vs) o _ trivial (Same.refl H) (List.prefix_refl _) (start_dat r hl (Sub.refl H)) e1 (fun o0 e0 => ?_) (fun er e0 => ?_)
  · subst e0
    cases o0 with
    | nx S => cases e; exact fun A1 F1 H1 σ1 s1 p1 k1 => post _ rfl H1 .non (s1.trans k1.sub.same) .non
    | rt d S => cases e; exact fun A1 F1 H1 σ1 v s1 p1 k1 rv => post _ rfl H1 v (s1.trans k1.sub.same) (rv.mono k1.sub.same _ _)
    | bk S => cases e
    | ct S => cases e
    | ro j S => cases e
  · subst e0
    cases e
    exact fun A1 F1 H1 σ1 D p1 s1 k1 cd => err _ rfl H1 D (s1.trans k1.sub.same) cd
theorem has_z (D : DefAt K mg x st ps) (S : FnScope N ps (defScope st)) (hn : ps.length = n) (hN : n ≤ N.length)
    (body : ∀ (f : Addr) (cdv : Value) (A : Around) (outer : List Env) (s : Shared) (H : Hp) (E : XK), Room k (A.deeper (envOfC x (defScope st) s.heap.objs.size f cdv)) → Takes (cxZ P w K mg base N x st f cdv A outer s H E) (wZ E) → GZs (cxZ P w K mg base N x st f cdv A outer s H E) AnyB (wZ E) (defBody st) g) : HasZ P w K mg base x (k + 1) ps (spZ K n (mZ N.length g)) :=
  let ⟨f, fd, m, F, b⟩ := D; ⟨f, fd, m, F.kp, b, fn_z F S hn hN fun cdv A outer s H E hr => body f cdv A outer s H E hr (takes_of rfl rfl rfl rfl)⟩
end
end Fu

set_option maxHeartbeats 4000000
namespace L2
open PySem PySem.Spec PyProof.Rows
open Fu (XO)
/-- isinstance(e, c), e an exception that is tracked, of any class -/
def rIsKA (K : PySem.W.Frag) : List V → Hp → VK → Prop := fun xs H Q => ∃ D, ExcC K D ∧ rIsK K D xs H Q
theorem call_isKA {X : Cx} : CallR X (.builtin "isinstance") (rIsKA X.K) := fun pins s σ H xs us Q I r ⟨_, C, h⟩ => call_isK C pins s σ H xs us Q I r h
end L2
namespace Fu
open PySem PySem.Spec PyProof.Rows L2 RZ
/-! ### an exception in a slot -/
/-- what an exception of the class c is, seen by cv -/
def ExcIs (K : PySem.W.Frag) (c : Str) (cv : Value) (b : Bool) : Prop := ∀ D, ClsD K c D → ExcC K D ∧ PySem.W.kitOne K (.ref D) cv = some b
theorem Ok.eslot {K : PySem.W.Frag} {A : List Addr} {F H : Hp} {S : Sx} {σ : L2.St} (k : Ok K A F H S σ) {i : Nat} {c : Str} (h : S.sl[i]? = some (some (.exc c))) : ∃ a D, σ[i]? = some (some (.ref a)) ∧ ClsD K c D ∧ F a = some (XO (.ref D) a) := by
  obtain ⟨v, e, r⟩ := k.rslot i _ h
  cases r with
  | exc h1 h2 => exact ⟨_, _, e, h1, h2⟩
/-- x is None, x data or an exception -/
def gIsN (i : Nat) : M D := fun S => match S.sl[i]? with
  | some (some (.exc _)) => some (.bool false, S)
  | some (some (.dat .none)) => some (.bool true, S)
  | some (some (.dat _)) => some (.bool false, S)
  | _ => none
section
variable {X : Cx} {pos p p2 p3 : Pos} {y x : Str} {k : Nat}
theorem isN_cases {i : Nat} {S S' : Sx} {d : D} (h : gIsN i S = some (d, S')) : S' = S ∧ ((∃ c, S.sl[i]? = some (some (.exc c)) ∧ d = .bool false) ∨ ∃ e, S.sl[i]? = some (some (.dat e)) ∧ ((e = .none ∧ d = .bool true) ∨ ((e = .none → False) ∧ d = .bool false))) := by
  unfold gIsN at h
  cases e : S.sl[i]? with
  | none => rw [e] at h; cases h
  | some r =>
    cases r with
    | none => rw [e] at h; cases h
    | some r =>
      rw [e] at h
      cases r with
      | exc c => cases h; exact ⟨rfl, .inl ⟨_, rfl, rfl⟩⟩
      | dat d =>
        cases d with
        | none => cases h; exact ⟨rfl, .inr ⟨_, rfl, .inl ⟨rfl, rfl⟩⟩⟩
        | _ => cases h; exact ⟨rfl, .inr ⟨_, rfl, .inr ⟨(fun z => nomatch z), rfl⟩⟩⟩
      | own _ => cases h
      | scr _ => cases h
      | tup _ => cases h
theorem rd_isN {K : PySem.W.Frag} (i : Nat) : RdE K (tOp (fun x y H Q => y = V.non ∧ Q (V.bl (decide (x = V.non))) H) (tVar i) (tC .non)) (gIsN i) := by
  intro A F H S σ d S' Q k h post
  obtain ⟨rfl, ⟨c, e, rfl⟩ | ⟨e0, e, ⟨rfl, rfl⟩ | ⟨ne, rfl⟩⟩⟩ := isN_cases h
  · obtain ⟨a, D, e1, _, _⟩ := k.eslot e
    exact ⟨_, e1, rfl, post A F H _ (List.prefix_refl _) (Same.refl F) k (.bl _)⟩
  · obtain ⟨v, e1, r⟩ := k.slot i _ e
    cases r
    exact ⟨_, e1, rfl, post A F H _ (List.prefix_refl _) (Same.refl F) k (.bl _)⟩
  · obtain ⟨v, e1, r⟩ := k.slot i _ e
    refine ⟨_, e1, rfl, ?_⟩
    rw [rp_ne_non r ne]
    exact post A F H _ (List.prefix_refl _) (Same.refl F) k (.bl _)
/-- isinstance(x, C) of an exception -/
def gIsE (i : Nat) (cs : List Str) (b : Str → Bool) : M D := fun S => match S.sl[i]? with
  | some (some (.exc c)) => if c ∈ cs then some (.bool (b c), S) else none
  | _ => none
theorem rd_isE {K : PySem.W.Frag} {i : Nat} {cs : List Str} {b : Str → Bool} {cw : V} {cv : Value} (hr : ∀ u, RelV cw u → u = cv) (hk : ∀ c ∈ cs, ExcIs K c cv (b c)) {t : TA} (ht : ∀ σ H Q v, σ[i]? = some (some v) → Q [v, cw] H → t σ H Q) : RdE K (tCB (rIsKA K) t) (gIsE i cs b) := by
  intro A F H S σ d S' Q k h post
  unfold gIsE at h
  split at h
  · rename_i c e
    split at h
    · rename_i hc
      cases h
      obtain ⟨a, D, e1, cd, hF⟩ := k.eslot e
      obtain ⟨C, ko⟩ := hk c hc D cd
      refine ht σ H _ (.ref a) e1 ⟨D, C, a, cw, cv, _, rfl, k.sub.same _ _ hF, hr, ko, post A F H _ (List.prefix_refl _) (Same.refl F) k (.bl _)⟩
    · cases h
  · cases h
theorem e_isE (i : Nat) (cs : List Str) (b : Str → Bool) {C : Addr} (hm : X.mg "isinstance" = none) (hC : X.mg x = some (.ref C)) (hk : ∀ c ∈ cs, ExcIs X.K c (.ref C) (b c))
    (hN : X.N[i]? = some y := by rfl) (hv : Vis X.env.scope y := by first | exact Or.inl rfl | exact Or.inr (Or.inl rfl) | exact Or.inr (Or.inr rfl)) (hdy : (y == ("__debug__" : Str)) = false := by decide) (hcd : (y == ("__classdict__" : Str)) = false := by decide)
    (hg : Gl X "isinstance" := by rfl) (hgx : Gl X x := by rfl) (hdx : (x == ("__debug__" : Str)) = false := by decide)
    (he : starEach [.Name y p3, .Name x p2] X.env = (false, eval (.Name y p3) X.env) :: starEach [.Name x p2] X.env := by rfl) (he2 : starEach [.Name x p2] X.env = (false, eval (.Name x p2) X.env) :: starEach [] X.env := by rfl)
    (hpl : (backTo pos (starEach [.Name x p2] X.env)).any (·.1) = false := by rfl) :
    GE X (.Call (.Name "isinstance" p) [.Name y p3, .Name x p2] [] pos) (gIsE i cs b) :=
  ⟨_, pe_callB call_isKA hg hm (by decide +kernel) (pa_cons (pe_var hN hv hdy hcd) (pa_cons (pe_glob (v := .ref C) hgx hC rfl hdx) pa_nil he2) he) (by decide) (by decide) he hpl, rd_isE (cw := .ref C) (fun u h => h) hk fun σ H Q v e q => ⟨v, e, q⟩⟩
theorem e_isEB (i : Nat) (cs : List Str) {T : String} (hm : X.mg "isinstance" = none) (hmx : X.mg x = none) (hb : bootBuiltins x = some (.type T)) (hk : ∀ c ∈ cs, ExcIs X.K c (.type T) true)
    (hN : X.N[i]? = some y := by rfl) (hv : Vis X.env.scope y := by first | exact Or.inl rfl | exact Or.inr (Or.inl rfl) | exact Or.inr (Or.inr rfl)) (hdy : (y == ("__debug__" : Str)) = false := by decide) (hcd : (y == ("__classdict__" : Str)) = false := by decide)
    (hg : Gl X "isinstance" := by rfl) (hgx : Gl X x := by rfl) (hnx : x ≠ "__name__" := by decide) (hdx : (x == ("__debug__" : Str)) = false := by decide)
    (he : starEach [.Name y p3, .Name x p2] X.env = (false, eval (.Name y p3) X.env) :: starEach [.Name x p2] X.env := by rfl) (he2 : starEach [.Name x p2] X.env = (false, eval (.Name x p2) X.env) :: starEach [] X.env := by rfl)
    (hpl : (backTo pos (starEach [.Name x p2] X.env)).any (·.1) = false := by rfl) :
    GE X (.Call (.Name "isinstance" p) [.Name y p3, .Name x p2] [] pos) (gIsE i cs fun _ => true) :=
  ⟨_, pe_callB call_isKA hg hm (by decide +kernel) (pa_cons (pe_var hN hv hdy hcd) (pa_cons (pe_bltn (v := .ty T) hgx hmx hb rfl hnx hdx) pa_nil he2) he) (by decide) (by decide) he hpl, rd_isE (cw := .ty T) (fun u h => h) hk fun σ H Q v e q => ⟨v, e, q⟩⟩
end
/-! ### a def of one exception -/
def spX (K : PySem.W.Frag) (m : Str → Option D) : Sp := fun vs H Q _ => ∃ a c D z, vs = [.ref a] ∧ ClsD K c D ∧ H a = some (XO (.ref D) a) ∧ m c = some z ∧ ∀ H' v, Same H H' → Rp K H' v z → Q v H'
theorem spX_len {K : PySem.W.Frag} {m : Str → Option D} {ps : List Str} (h : ps.length = 1) : ∀ vs H Q E, spX K m vs H Q E → vs.length = ps.length := by
  intro vs H Q E ⟨a, c, D, z, e, _⟩
  rw [e, h]; rfl
def initX (n : Nat) (c : Str) : Sx := ⟨some (.exc c) :: List.replicate (n - 1) none, []⟩
def mX (n : Nat) (g : Sx → Option Out) : Str → Option D := fun c => (g (initX n c)).bind fun o => match o with
  | .nx _ => some .none
  | .rt d _ => some d
  | _ => none
section
variable {P : Program} {w : World} {K : PySem.W.Frag} {mg : Str → Option Value} {base : Heap} {x qual : Str} {st : Stmt} {f : Addr} {fd : FuncData} {N ps : List Str} {k n : Nat} {g : Sx → Option Out}
theorem start_exc {H : Hp} {N : List Str} {a D : Addr} {c : Str} (cd : ClsD K c D) (h : H a = some (XO (.ref D) a)) (hl : 1 ≤ N.length) : Ok K [] H H (initX N.length c) (L2.start N [.ref a]) := by
  refine ⟨Sub.refl H, ?_, rfl, List.nodup_nil, fun i q e => ?_, fun j c h => by simp [initX] at h, fun a h => by simp at h⟩
  · simp [initX, L2.start]
  · cases i with
    | zero =>
      simp [initX] at e
      subst e
      exact ⟨.ref a, start_at rfl, .exc cd h⟩
    | succ i =>
      simp only [initX, List.getElem?_cons_succ] at e
      have := List.mem_of_getElem? e
      rw [List.mem_replicate] at this
      exact nomatch this.2
theorem fn_exc (F : Fun K x qual st f fd) (S : FnScope N ps (defScope st)) (hn : ps.length = 1) (hN : 1 ≤ N.length)
    (body : ∀ (cdv : Value) (A : Around) (outer : List Env) (s : Shared) (H : Hp) (E : XK), Room k (A.deeper (envOfC qual (defScope st) s.heap.objs.size f cdv)) → GSs (cxF P w K mg base N qual st f cdv A outer s H E) AnyB (defBody st) g) :
    FnOk P w K mg base CX0 (k + 1) f fd ps (spX K (mX N.length g)) := by
  refine F.ok S (spX_len hn) fun cdv A outer s H vs Q E hr h => ?_
  obtain ⟨a, c, D, z, rfl, cd, ha, e, post⟩ := h
  obtain ⟨t, p, rd⟩ := (body cdv A outer s H E hr).ex
  refine ⟨t, p, ?_⟩
  obtain ⟨o, e1, e⟩ := bind_inv e
  refine rd H [] [] H H _ (L2.start N [.ref a]) o _ trivial (Same.refl H) (List.prefix_refl _) (start_exc cd ha hN) e1 ?_
  cases o with
  | nx S => cases e; exact fun A1 F1 H1 σ1 s1 p1 k1 => post H1 .non (s1.trans k1.sub.same) .non
  | rt d S => cases e; exact fun A1 F1 H1 σ1 v s1 p1 k1 rv => post H1 v (s1.trans k1.sub.same) (rv.mono k1.sub.same _ _)
  | bk S => cases e
  | ct S => cases e
  | ro j S => cases e
theorem has_exc (D : DefAt K mg x st ps) (S : FnScope N ps (defScope st)) (hn : ps.length = 1) (hN : 1 ≤ N.length) (body : Body P w K mg base N x st k AnyB g) : Has P w K mg base x (k + 1) ps (spX K (mX N.length g)) :=
  let ⟨f, fd, m, F, b⟩ := D; ⟨f, fd, m, F.kp, b, fn_exc F S hn hN (body f)⟩
end
def gCallX (i : Nat) (m : Str → Option D) : M D := fun S => match S.sl[i]? with
  | some (some (.exc c)) => (m c).map fun z => (z, S)
  | _ => none
section
variable {X : Cx} {pos p py : Pos} {x y : Str} {k : Nat} {ps : List Str}
theorem e_callX {m : Str → Option D} (i : Nat) (h : Has X.prog X.w X.K X.mg X.base x k ps (spX X.K m)) (hr : Room k X.A) (hN : X.N[i]? = some y := by rfl) (hv : Vis X.env.scope y := by first | exact Or.inl rfl | exact Or.inr (Or.inl rfl) | exact Or.inr (Or.inr rfl)) (hdy : (y == ("__debug__" : Str)) = false := by decide) (hcd : (y == ("__classdict__" : Str)) = false := by decide)
    (hg : Gl X x := by rfl) (hdb : (x == ("__debug__" : Str)) = false := by decide) (he : starEach [.Name y py] X.env = (false, eval (.Name y py) X.env) :: starEach [] X.env := by rfl) (hpl : (backTo pos (starEach [] X.env)).any (·.1) = false := by rfl) :
    GE X (.Call (.Name x p) [.Name y py] [] pos) (gCallX i m) := by
  obtain ⟨fa, fd, hm, kp, b, F0⟩ := h
  refine ⟨_, pe_callF F0 hr hg hm kp b .nil pass0 (pa_cons (pe_var hN hv hdy hcd) pa_nil he) hdb he hpl, fun A F H S σ d S' Q k h post => ?_⟩
  unfold gCallX at h
  split at h
  · rename_i c e
    obtain ⟨z, h2, h⟩ := Option.map_eq_some_iff.mp h
    cases h
    obtain ⟨a, D, e1, cd, hF⟩ := k.eslot e
    exact ⟨_, e1, F, k.sub, a, c, D, _, rfl, cd, hF, h2, fun G' v sm rv => ⟨fun b xs q => sm b _ q, fun lost => post A G' _ v (List.prefix_refl _) sm (k.mix sm lost) rv⟩⟩
  · cases h
end
/-! ### try: .. except C as n: y = n -/
def tCan (K : PySem.W.Frag) (P : Hp → Prop) (W : WX) (g : Sx → Option (Zr Out)) : TS := fun E σ H => ∃ B A0 A F S r, P B ∧ Same B F ∧ A0 <+: A ∧ Ok K A F H S σ ∧ g S = some r ∧ (∀ o, r = .ok o → OutP K B A0 o E) ∧ (∀ e, r = .error e → ZErr K W A0 B e)
def qTry (cs : List Str) (i j : Nat) (g : Sx → Option (Zr Out)) : Sx → Option Out := fun S => (g S).bind fun r => match r with
  | .ok o => some o
  | .error e => if e.1 ∈ cs ∧ i < e.2.sl.length then some (.nx ⟨(e.2.sl.set j (some (.exc e.1))).set i none, e.2.os⟩) else none
section
variable {X : Cx} {P : Hp → Prop} {body : List Stmt} {g : Sx → Option (Zr Out)} {pos p p1 p2 p3 p4 p5 : Pos} {x n y : Str} {W : WX}
theorem pss_can (h : GZs X P W body g) : PSs X body (tCan X.K P W g) := by
  obtain ⟨t, p, r⟩ := h.ex
  exact ⟨fun pins s σ H E I ⟨B, A0, A, F, S, r0, hP, s1, p1, k, e, post, err⟩ => p.run pins s σ H E I (r B A0 A F H S σ r0 E hP s1 p1 k e post err)⟩
theorem Ok.clr {K : PySem.W.Frag} {A : List Addr} {F H : Hp} {S : Sx} {σ : L2.St} (k : Ok K A F H S σ) (i : Nat) : Ok K A F H ⟨S.sl.set i none, S.os⟩ (σ.set i none) := by
  refine ⟨k.sub, by rw [List.length_set, List.length_set]; exact k.len, k.alen, k.nd, fun j r e => ?_, k.cell, k.trk⟩
  by_cases h : i = j
  · subst h
    rw [List.getElem?_set] at e
    split at e
    · split at e <;> cases e
    · exact absurd rfl ‹¬ _›
  · rw [List.getElem?_set_ne h] at e
    rw [List.getElem?_set_ne h]
    exact k.rslot j r e
theorem s_try (cs : List Str) (i j : Nat) {D0 : Addr} (hN : X.N.Nodup) (hm : X.mg x = some (.ref D0)) (hx : ∀ c ∈ cs, ∀ D, ClsD X.K c D → PySem.W.exmOne X.K (.ref D) (.ref D0) = some true)
    (hb : ∀ (W : WX) (pn : List (Addr × Obj)) (xe : Value → Shared → Prop), Takes (X.tr pn xe) W → GZs (X.tr pn xe) P W body g)
    (hij : i ≠ j := by decide) (hi : X.N[i]? = some n := by rfl) (hj : X.N[j]? = some y := by rfl) (hex : X.ex = [] := by rfl) (hs : X.stack = X.env :: X.outer := by rfl) (hf : X.env.frame = some X.env.locals := by rfl)
    (hln : X.env.kindOf n = some .local := by rfl) (hgx : Gl X x := by rfl) (hdx : (x == ("__debug__" : Str)) = false := by decide)
    (hv : Vis X.env.scope n := by first | exact Or.inl rfl | exact Or.inr (Or.inl rfl) | exact Or.inr (Or.inr rfl)) (hdy : (n == ("__debug__" : Str)) = false := by decide) (hcd : (n == ("__classdict__" : Str)) = false := by decide)
    (hy : Loc X.env.scope y := by first | exact Or.inl rfl | exact Or.inr rfl) (hyl : X.env.scope.names.lookup y = some .local := by rfl) (hsw : swapsWith (.Name n p5) (some (.Name y p4)) p3.line X.env = pure false := by rfl) :
    GS X P (.Try body [.ExceptHandler (some (.Name x p)) (some n) [.Assign [.Name y p4] (.Name n p5) p3] p2] [] [] p1) (qTry cs i j g) := by
  refine ⟨_, ps_try_kept (i := i) (c := .ref D0) (Wout := fun _ _ _ _ => False) hex hs hf hN hi hln ⟨hgx, hdx, .inl hm⟩ takes0 (tb := fun W => tCan X.K P W g) (ts := fun _ _ => tAsg (tVar i) (gName j))
    (fun W pn xe tk _ => pss_can (hb W pn xe tk)) (fun a oe cls pn => pss_one (ps_set (X := X.suite a ((a, oe) :: pn)) hN hj hy (pe_var (X := X.suite a ((a, oe) :: pn)) hi hv hdy hcd) hsw (.inr hyl))), fun B A0 A F H S σ o E hP s p k e post => ?_⟩
  obtain ⟨r0, e1, e⟩ := bind_inv e
  refine ⟨B, A0, A, F, S, r0, hP, s, p, k, e1, fun o0 e0 => ?_, fun er e0 => ?_⟩
  · subst e0
    cases e
    exact post
  · subst e0
    simp only at e
    split at e
    case isFalse => cases e
    rename_i hc0
    obtain ⟨hc, hl0⟩ := hc0
    cases e
    intro A' F' H' σ' D p' s' k' cd
    refine ⟨true, hx _ hc D cd, fun _ => ⟨rfl, fun a ha => ?_⟩, (fun z => nomatch z)⟩
    have fa : F' a = none := k'.sub.none ha
    have k2 : Ok X.K A' (upd F' a (XO (.ref D) a)) (upd H' a (XO (.ref D) a)) er.2 σ' := k'.laid ha
    have rr : Rr X.K A' (upd F' a (XO (.ref D) a)) (.ref a) (.exc er.1) := .exc cd upd_same
    have hl : i < σ'.length := by rw [← k'.len]; exact hl0
    refine ⟨.ref a, ?_, ?_⟩
    · rw [List.getElem?_set_self hl]
    · refine post A' (upd F' a (XO (.ref D) a)) _ _ (s'.trans (same_upd fa)) p' ?_
      have k3 := (k2.setR (i := j) rr).clr i
      have es : ((σ'.set i (some (.ref a))).set j (some (.ref a))).set i none = (σ'.set j (some (.ref a))).set i none := by
        rw [List.set_comm _ _ hij, List.set_set]
      show Ok X.K A' (upd F' a (XO (.ref D) a)) (upd H' a (XO (.ref D) a)) _ (((σ'.set i (some (.ref a))).set j (some (.ref a))).set i none)
      rw [es]
      exact k3
end
end Fu

set_option maxHeartbeats 4000000
namespace Fu
open PySem PySem.Spec PyProof.Rows L2 RZ
/-! ### the facts of the classes -/
def TryT (K : PySem.W.Frag) (mg : Str → Option Value) (x : Str) (cs : List Str) : Prop := ∃ D0, mg x = some (.ref D0) ∧ ∀ c ∈ cs, ∀ D, ClsD K c D → PySem.W.exmOne K (.ref D) (.ref D0) = some true
def LookT (K : PySem.W.Frag) (mg : Str → Option Value) (x : Str) (cs : List Str) (b : Str → Bool) : Prop := ∃ D, mg x = some (.ref D) ∧ ∀ c ∈ cs, ExcIs K c (.ref D) (b c)
theorem cls_same {K : PySem.W.Frag} {c : Str} {f D : Addr} (a : PySem.W.nsIn K mainGlobals c = some (some (.ref f))) (d : ClsD K c D) : D = f := by
  unfold ClsD at d
  rw [a] at d
  cases d; rfl
theorem ExcIs.mk {K : PySem.W.Frag} {c : Str} {f : Addr} {cv : Value} {b b' : Bool} (a : PySem.W.nsIn K mainGlobals c = some (some (.ref f))) (e : ExcC K f) (k : PySem.W.kitOne K (.ref f) cv = some b') (h : b' = b) : ExcIs K c cv b := fun D d => by
  cases cls_same a d
  exact ⟨e, h ▸ k⟩
theorem cls_one {K : PySem.W.Frag} {c : Str} {f : Addr} {cv : Value} (a : PySem.W.nsIn K mainGlobals c = some (some (.ref f))) (k : PySem.W.exmOne K (.ref f) cv = some true) : ∀ D, ClsD K c D → PySem.W.exmOne K (.ref D) cv = some true := fun D d => by
  cases cls_same a d
  exact k
theorem alls_nil {α : Type} {P : α → Prop} : ∀ c ∈ ([] : List α), P c := fun _ h => nomatch h
theorem alls_cons {α : Type} {P : α → Prop} {a : α} {l : List α} (h : P a) (t : ∀ c ∈ l, P c) : ∀ c ∈ a :: l, P c := List.forall_mem_cons.mpr ⟨h, t⟩
theorem sub_self {K : PySem.W.Frag} {C : Addr} {bm : List Value} {n : String} (x : PySem.W.excIn K C bm n = true) : PySem.W.subIn K (.ref C) (.ref C) = some true := by
  unfold PySem.W.excIn at x
  split at x
  · rename_i dict cd sl e
    split at x
    · rename_i C' bm' h1 h2 h3 n' h4 em _
      simp only [Bool.and_eq_true, beq_iff_eq] at x
      obtain ⟨⟨⟨⟨⟨rfl, _⟩, _⟩, _⟩, _⟩, _⟩ := x
      simp only [PySem.W.subIn, PySem.W.mroIn, PySem.W.clsIn, e, Option.bind_some, em]
      simp
    · cases x
  · cases x
theorem kit_own {K : PySem.W.Frag} {D C : Addr} {b : Bool} {bm : List Value} {n : String} (x : PySem.W.excIn K D bm n = true) (iP : PySem.W.isClsIn K C = true) (tP : PySem.W.typeIn K (.ref C) = some (.type "type")) (sP : PySem.W.subIn K (.ref D) (.ref C) = some b) : PySem.W.kitOne K (.ref D) (.ref C) = some b := by
  unfold PySem.W.kitOne
  split
  · rename_i h
    have h := eq_of_beq h
    cases h
    rw [sub_self x] at sP
    exact sP
  · unfold PySem.W.kitCls
    have i2 : (PySem.W.clsIn K C).isSome = true := iP
    simp [i2, tP, sP]
theorem kit_bt {K : PySem.W.Frag} {D : Addr} {T : String} {b : Bool} (m : PySem.W.kitMeta T = true) (sP : PySem.W.subIn K (.ref D) (.type T) = some b) : PySem.W.kitOne K (.ref D) (.type T) = some b := by
  unfold PySem.W.kitOne
  rw [if_neg (by simp)]
  show (if PySem.W.kitMeta T = true then PySem.W.subIn K (.ref D) (.type T) else none) = some b
  rw [if_pos m]; exact sP
theorem exm_own {K : PySem.W.Frag} {D C : Addr} {b : Bool} (bP : PySem.W.subIn K (.ref C) (.type "BaseException") = some true) (iP : PySem.W.isClsIn K C = true) (tP : PySem.W.typeIn K (.ref C) = some (.type "type")) (sP : PySem.W.subIn K (.ref D) (.ref C) = some b) : PySem.W.exmOne K (.ref D) (.ref C) = some b := by
  unfold PySem.W.exmOne
  rw [if_pos (by rw [bP]; rfl)]
  unfold PySem.W.kitCls
  have i2 : (PySem.W.clsIn K C).isSome = true := iP
  simp [i2, tP, sP]
section
variable {X : Cx} {pos p p2 p3 p1 p4 p5 : Pos} {y x n : Str} {P : Hp → Prop} {body : List Stmt} {g : Sx → Option (Zr Out)}
theorem e_isET (i : Nat) {cs : List Str} {b : Str → Bool} (hm : X.mg "isinstance" = none) (T : LookT X.K X.mg x cs b)
    (hN : X.N[i]? = some y := by rfl) (hv : Vis X.env.scope y := by first | exact Or.inl rfl | exact Or.inr (Or.inl rfl) | exact Or.inr (Or.inr rfl)) (hdy : (y == ("__debug__" : Str)) = false := by decide) (hcd : (y == ("__classdict__" : Str)) = false := by decide)
    (hg : Gl X "isinstance" := by rfl) (hgx : Gl X x := by rfl) (hdx : (x == ("__debug__" : Str)) = false := by decide)
    (he : starEach [.Name y p3, .Name x p2] X.env = (false, eval (.Name y p3) X.env) :: starEach [.Name x p2] X.env := by rfl) (he2 : starEach [.Name x p2] X.env = (false, eval (.Name x p2) X.env) :: starEach [] X.env := by rfl)
    (hpl : (backTo pos (starEach [.Name x p2] X.env)).any (·.1) = false := by rfl) :
    GE X (.Call (.Name "isinstance" p) [.Name y p3, .Name x p2] [] pos) (gIsE i cs b) :=
  let ⟨_, hC, hk⟩ := T; e_isE i cs b hm hC hk hN hv hdy hcd hg hgx hdx he he2 hpl
theorem s_tryT (i j : Nat) {cs : List Str} (hN : X.N.Nodup) (T : TryT X.K X.mg x cs)
    (hb : ∀ (W : WX) (pn : List (Addr × Obj)) (xe : Value → Shared → Prop), Takes (X.tr pn xe) W → GZs (X.tr pn xe) P W body g)
    (hij : i ≠ j := by decide) (hi : X.N[i]? = some n := by rfl) (hj : X.N[j]? = some y := by rfl) (hex : X.ex = [] := by rfl) (hs : X.stack = X.env :: X.outer := by rfl) (hf : X.env.frame = some X.env.locals := by rfl)
    (hln : X.env.kindOf n = some .local := by rfl) (hgx : Gl X x := by rfl) (hdx : (x == ("__debug__" : Str)) = false := by decide)
    (hv : Vis X.env.scope n := by first | exact Or.inl rfl | exact Or.inr (Or.inl rfl) | exact Or.inr (Or.inr rfl)) (hdy : (n == ("__debug__" : Str)) = false := by decide) (hcd : (n == ("__classdict__" : Str)) = false := by decide)
    (hy : Loc X.env.scope y := by first | exact Or.inl rfl | exact Or.inr rfl) (hyl : X.env.scope.names.lookup y = some .local := by rfl) (hsw : swapsWith (.Name n p5) (some (.Name y p4)) p3.line X.env = pure false := by rfl) :
    GS X P (.Try body [.ExceptHandler (some (.Name x p)) (some n) [.Assign [.Name y p4] (.Name n p5) p3] p2] [] [] p1) (qTry cs i j g) :=
  let ⟨_, hm, hx⟩ := T; s_try cs i j hN hm hx hb hij hi hj hex hs hf hln hgx hdx hv hdy hcd hy hyl hsw
theorem t_isN (i : Nat) {j} (hN : X.N[i]? = some y := by rfl) (hv : Vis X.env.scope y := by first | exact Or.inl rfl | exact Or.inr (Or.inl rfl) | exact Or.inr (Or.inr rfl)) (hdy : (y == ("__debug__" : Str)) = false := by decide) (hcd : (y == ("__classdict__" : Str)) = false := by decide) :
    GT X (.Compare (.Name y p) [.Is] [.Constant .none j p2] pos) (gB (gIsN i)) := ⟨_, pt_cmpR op_isN (pe_var hN hv hdy hcd) pe_non rfl, rd_test (rd_isN i)⟩
/-- {}, held as data: what it holds is not told -/
def gDict0 : M D := fun S => some (.dict [], S)
theorem e_dict0 : GE X (.Dict [] [] pos) gDict0 := by
  refine ⟨_, pe_dnewK, fun A F H S σ d S' Q k e post => ?_⟩
  cases e
  intro p hp
  exact post A _ _ _ (List.prefix_refl _) (same_upd (k.sub.none hp)) (k.laid hp) (.dct (.inl ⟨_, upd_same⟩) fun _ => upd_same)
end
end Fu

set_option maxHeartbeats 4000000
namespace L2
open PySem PySem.Spec PyProof.Rows
open Fu (XO)
/-- isinstance(e, (C, ..)), e an exception that is tracked -/
def rIsKT (K : PySem.W.Frag) : List V → Hp → VK → Prop := fun xs H Q => ∃ (D a tp : Addr) (Cs : List Addr) (b : Bool), ExcC K D ∧ xs = [.ref a, .ref tp] ∧ H a = some (XO (.ref D) a) ∧ H tp = some (.tup (Cs.map V.ref)) ∧ PySem.W.kitAny K (.ref D) (Cs.map Value.ref) = some b ∧ Q (.bl b) H
theorem vals_refsC : ∀ {Cs : List Addr} {us : List Value}, Vals (Cs.map V.ref) us → us = Cs.map Value.ref
  | [], _, h => by cases h; rfl
  | C :: Cs, _, h => by
    cases h with
    | cons h1 h2 => rw [vals_refsC h2]; cases (show _ = Value.ref C from h1); rfl
theorem call_isKT {X : Cx} : CallR X (.builtin "isinstance") (rIsKT X.K) := by
  intro pins s σ H xs us Q I r ⟨D, a, tp, Cs, b, C, e, hX, hT, ek, q⟩
  subst e
  cases r with
  | cons rx rr =>
    cases rr with
    | cons rt rr =>
      cases rr
      cases rx
      cases rt
      obtain ⟨o, fs, g1, ⟨g2, g3⟩, g4⟩ := (show ObjOk X.prog X.w H s.heap a (XO (.ref D) a) from I.hok a _ hX).1
      have J : PySem.W.InstAt s.heap a o D none := by
        obtain ⟨oc, od, oda, osl⟩ := o
        dsimp only at g2 g3 g4
        subst g2 g3 g4
        exact ⟨g1, rfl, rfl, trivial⟩
      obtain ⟨_, its, rv, ot, t1, t2, n, t3⟩ := (show ObjOk X.prog X.w H s.heap tp (.tup (Cs.map V.ref)) from I.hok tp _ hT)
      have hi := vals_refsC rv
      subst hi
      obtain ⟨oc, od, oda, osl⟩ := ot
      dsimp only at t2 t3
      subst t2 t3
      exact PySem.W.kia_tup (PySem.W.handS_kitx_exc C.hg C.hk C.hs C.hd C.ha C.hn C.ht C.hm) I.kIn J t1 ek (fun z => nomatch z) fun tk => ⟨.bl b, H, I.kept (t' := tk) fun _ _ z => z, rfl, q⟩
end L2
namespace Fu
open PySem PySem.Spec PyProof.Rows L2 RZ
/-! ### looks by many classes at once -/
structure AnyT (X : Cx) (es : List Expr) (cs : List Str) (b : Str → Bool) : Prop where
  ex : ∃ (Cs : List Addr) (t : TA), PA X es t ∧ (∀ σ H Q, Q (Cs.map V.ref) H → t σ H Q) ∧ (∀ c ∈ cs, ∀ D, ClsD X.K c D → PySem.W.kitAny X.K (.ref D) (Cs.map Value.ref) = some (b c)) ∧ Cs.length = es.length
section
variable {X : Cx} {pos p p2 p3 p4 : Pos} {y x : Str} {es : List Expr} {cs : List Str} {b b2 : Str → Bool}
theorem any_nil : AnyT X [] cs (fun _ => false) := ⟨[], _, pa_nil, fun σ H Q q => q, (fun c _ D _ => kitAny_nil), rfl⟩
theorem any_cons (T : LookT X.K X.mg x cs b) (h : AnyT X es cs b2) (hgx : Gl X x := by rfl) (hdx : (x == ("__debug__" : Str)) = false := by decide) (he : starEach (.Name x p :: es) X.env = (false, eval (.Name x p) X.env) :: starEach es X.env := by rfl) :
    AnyT X (.Name x p :: es) cs (fun c => b c || b2 c) := by
  obtain ⟨C, hC, hk⟩ := T
  obtain ⟨Cs, t, pa, ht, ha, hn⟩ := h.ex
  refine ⟨C :: Cs, _, pa_cons (pe_glob (v := .ref C) hgx hC rfl hdx) pa he, fun σ H Q q => ht σ H _ q, fun c hc D cd => ?_, by rw [List.length_cons, List.length_cons, hn]⟩
  have k1 := (hk c hc D cd).2
  have k2 := ha c hc D cd
  refine kitAny_cons k1 (fun e1 => ?_) (fun e1 => by rw [e1]; rfl)
  rw [e1]; exact k2
theorem e_isAny (i : Nat) (hm : X.mg "isinstance" = none) (T : AnyT X es cs b) (ex : ∀ c ∈ cs, ∀ D, ClsD X.K c D → ExcC X.K D) {kx}
    (hl : es.length ≤ 100 := by decide)
    (hN : X.N[i]? = some y := by rfl) (hv : Vis X.env.scope y := by first | exact Or.inl rfl | exact Or.inr (Or.inl rfl) | exact Or.inr (Or.inr rfl)) (hdy : (y == ("__debug__" : Str)) = false := by decide) (hcd : (y == ("__classdict__" : Str)) = false := by decide)
    (hg : Gl X "isinstance" := by rfl)
    (he : starEach [.Name y p3, .Tuple es kx p4] X.env = (false, eval (.Name y p3) X.env) :: starEach [.Tuple es kx p4] X.env := by rfl) (he2 : starEach [.Tuple es kx p4] X.env = (false, eval (.Tuple es kx p4) X.env) :: starEach [] X.env := by rfl)
    (hpl : (backTo pos (starEach [.Tuple es kx p4] X.env)).any (·.1) = false := by rfl) :
    GE X (.Call (.Name "isinstance" p) [.Name y p3, .Tuple es kx p4] [] pos) (gIsE i cs b) := by
  obtain ⟨Cs, t, pa, ht, ha, hn⟩ := T.ex
  refine ⟨_, pe_callB call_isKT hg hm (by decide +kernel) (pa_cons (pe_var hN hv hdy hcd) (pa_cons (pe_tup pa) pa_nil he2) he) (by decide) (by decide) he hpl, fun A F H S σ d S' Q k h post => ?_⟩
  unfold gIsE at h
  split at h
  · rename_i c e
    split at h
    · rename_i hc
      cases h
      obtain ⟨a, D, e1, cd, hF⟩ := k.eslot e
      refine ⟨.ref a, e1, ht σ H _ ⟨?_, fun q hq => ?_⟩⟩
      · rw [List.length_map, hn]
        exact Nat.le_trans hl (by decide)
      · have k2 := k.laid (o := .tup (Cs.map V.ref)) hq
        have s2 : Same F (upd F q (.tup (Cs.map V.ref))) := same_upd (k.sub.none hq)
        exact ⟨D, a, q, Cs, _, ex c hc D cd, rfl, k2.sub.same _ _ (s2 _ _ hF), upd_same, ha c hc D cd, post A _ _ _ (List.prefix_refl _) s2 k2 (.bl _)⟩
    · cases h
  · cases h
end
/-! ### two new lists at once -/
section
variable {X : Cx} {P : Hp → Prop} {pos py : Pos} {x y : Str} {a b : Expr} {ga gb ge : M D}
end
/-! ### more of what may raise -/
def zCons (ga : M D) (g : Sx → Option (Zr (List D × Sx))) : Sx → Option (Zr (List D × Sx)) := fun S => (ga S).bind fun p => (g p.2).map fun r => match r with
  | .ok q => .ok (p.1 :: q.1, q.2)
  | .error e => .error e
theorem az_cons {X : Cx} {W : WX} {e : Expr} {es : List Expr} {ga : M D} {g : Sx → Option (Zr (List D × Sx))} (he : GE X e ga) (h : GAZ X W es g) (hst : starEach (e :: es) X.env = (false, eval e X.env) :: starEach es X.env := by rfl) : GAZ X W (e :: es) (zCons ga g) := by
  obtain ⟨t, pe, re⟩ := he.ex
  obtain ⟨u, pa, ra⟩ := h.ex
  refine ⟨_, pa_cons pe pa hst, fun A F H S σ r Q k h post err => ?_⟩
  obtain ⟨⟨d, S1⟩, h1, h⟩ := bind_inv h
  obtain ⟨r0, h2, rfl⟩ := Option.map_eq_some_iff.mp h
  refine re A F H S σ d S1 _ k h1 fun A1 F1 H1 v p1 s1 k1 rv => ra A1 F1 H1 S1 σ r0 _ k1 h2 (fun ds S2 e0 A2 F2 H2 vs p2 s2 k2 rvs => ?_) (fun er e0 => ?_)
  · subst e0
    exact post _ _ rfl A2 F2 H2 _ (p1.trans p2) (s1.trans s2) k2 (.cons (rv.mono s2 _ _) rvs)
  · subst e0
    exact ZErr.mono p1 s1 (err _ rfl)
section
variable {X : Cx} {W : WX} {pos p : Pos} {x : Str} {e : Expr} {es : List Expr} {id : String} {k : Nat}
theorem ez_callB {r : List V → Hp → VK → Prop} {f : List D → Option D} {ga : Sx → Option (Zr (List D × Sx))} (hc : CallR X (.builtin id) r) (hf : RdC X.K r f) (hm : X.mg x = none) (hv : bootBuiltins x = some (.builtin id)) (ha : GAZ X W (e :: es) ga) (hg : Gl X x := by rfl) (hn : x ≠ "__name__" := by decide) (hdb : (x == ("__debug__" : Str)) = false := by decide)
    (he : starEach (e :: es) X.env = (false, eval e X.env) :: starEach es X.env := by rfl) (hpl : (backTo pos (starEach es X.env)).any (·.1) = false := by rfl) : GEZ X W (.Call (.Name x p) (e :: es) [] pos) (zCallB f ga) := by
  obtain ⟨t, pa, ra⟩ := ha.ex
  refine ⟨_, pe_callB hc hg hm hv pa hn hdb he hpl, fun A F H S σ r Q k h post err => ?_⟩
  obtain ⟨r0, h1, h⟩ := bind_inv h
  refine ra A F H S σ r0 _ k h1 (fun ds S1 e0 A1 F1 H1 vs p1 s1 k1 r1 => ?_) (fun e e0 => ?_)
  · subst e0
    obtain ⟨z, h2, rfl⟩ := Option.map_eq_some_iff.mp h
    exact hf A1 F1 H1 S1 σ vs ds z _ k1 r1 h2 fun F2 H2 v s2 k2 rv => post _ _ rfl A1 F2 H2 v p1 (s1.trans s2) k2 rv
  · subst e0
    cases h
    exact err _ rfl
theorem ez_min {ga : Sx → Option (Zr (List D × Sx))} (hr : Room k X.A) (hm : X.mg "min" = none) (ha : GAZ X W [e] ga) (hc : X.calm = true := by rfl) (hg : Gl X "min" := by rfl) (he : starEach [e] X.env = (false, eval e X.env) :: starEach [] X.env := by rfl) : GEZ X W (.Call (.Name "min" p) [e] [] pos) (zCallB (dPick PySem.W.minD) ga) :=
  ez_callB (call_minD hr hc) (rd_pick _) hm (by decide +kernel) ha hg (he := he) (hpl := by rfl)
end
end Fu

set_option maxHeartbeats 4000000
namespace Fu
open PySem

/-! ### data: shaped, equal -/
theorem shaped_iff {d : D} : SeqAt.shaped d = true ↔ d.canLay0 = true ∧ d.depth ≤ 64 := by
  unfold SeqAt.shaped
  rw [Bool.and_eq_true, decide_eq_true_eq]
@[simp] theorem shaped_int (i : Int) : SeqAt.shaped (.int i) = true := by simp [shaped_iff, PyData.canLay0, PyData.depth]
@[simp] theorem shaped_bool (b : Bool) : SeqAt.shaped (.bool b) = true := by simp [shaped_iff, PyData.canLay0, PyData.depth]
@[simp] theorem shaped_none : SeqAt.shaped .none = true := by simp [shaped_iff, PyData.canLay0, PyData.depth]
@[simp] theorem dEq_int (a b : Int) : dEq (.int a) (.int b) = some (.bool (decide (a = b))) := by
  simp [dEq, PyData.eqv, Bool.beq_eq_decide_eq]
@[simp] theorem dNe_int (a b : Int) : dNe (.int a) (.int b) = some (.bool (!decide (a = b))) := by
  simp [dNe, PyData.eqv, Bool.beq_eq_decide_eq]
theorem dNe_self {d : D} (h : SeqAt.shaped d = true) : dNe d d = some (.bool false) := by
  unfold dNe
  rw [if_pos ⟨h, h⟩, SeqAt.eqv_refl _ (shaped_iff.mp h).1]; rfl
/-- lists (tuples) of things of one shape, their depth at most n -/
def Fine (n : Nat) (d : D) : Prop := d.canLay0 = true ∧ d.depth ≤ n
theorem Fine.mono {m n : Nat} {d : D} (h : Fine m d) (l : m ≤ n) : Fine n d := ⟨h.1, Nat.le_trans h.2 l⟩
theorem Fine.shaped {n : Nat} {d : D} (h : Fine n d) (l : n ≤ 64 := by decide) : SeqAt.shaped d = true := shaped_iff.mpr ⟨h.1, Nat.le_trans h.2 l⟩
theorem fine_all {n : Nat} : ∀ {ds : List D}, (∀ d ∈ ds, Fine n d) → PyData.canLayAll0 ds = true ∧ PyData.depthAll ds ≤ n
  | [], _ => ⟨rfl, Nat.zero_le _⟩
  | d :: ds, h => by
    obtain ⟨a, b⟩ := fine_all fun e he => h e (List.mem_cons_of_mem _ he)
    have c := h d List.mem_cons_self
    exact ⟨by simp [PyData.canLayAll0, a, c.1], by simp only [PyData.depthAll]; exact Nat.max_le.mpr ⟨c.2, b⟩⟩
theorem fine_list {n : Nat} {ds : List D} (h : ∀ d ∈ ds, Fine n d) : Fine (n + 1) (.list ds) := by
  obtain ⟨a, b⟩ := fine_all h
  exact ⟨by simpa [PyData.canLay0] using a, by simp only [PyData.depth]; omega⟩
theorem fine_tup {n : Nat} {ds : List D} (h : ∀ d ∈ ds, Fine n d) : Fine (n + 1) (.tuple ds) := by
  obtain ⟨a, b⟩ := fine_all h
  exact ⟨by simpa [PyData.canLay0] using a, by simp only [PyData.depth]; omega⟩
theorem fine_int (i : Int) : Fine 0 (.int i) := ⟨by simp [PyData.canLay0], by simp [PyData.depth]⟩
theorem fine_str {x : Str} (h : PyData.strOk x = true) : Fine 0 (.str x) := ⟨by simpa [PyData.canLay0] using h, by simp [PyData.depth]⟩
/-- one sign -/
def ch (c : Nat) : D := .str ⟨#[c]⟩
theorem fine_ch {c : Nat} (h : c < 0x110000) : Fine 0 (ch c) := fine_str (by simp [PyData.strOk, h])
theorem ch_inj {a b : Nat} (h : ch a = ch b) : a = b := by
  unfold ch at h
  injection h with h
  injection h with h
  have := congrArg (fun z : Array Nat => z.toList) h
  simpa using this
theorem dEq_ch {a b : Nat} (ha : a < 0x110000) (hb : b < 0x110000) : dEq (ch a) (ch b) = some (.bool (decide (a = b))) := by
  unfold dEq
  rw [if_pos ⟨(fine_ch ha).shaped, (fine_ch hb).shaped⟩]
  congr 2
  unfold ch
  simp only [PyData.eqv]
  by_cases h : a = b
  · subst h; simp
  · rw [decide_eq_false h, beq_eq_false_iff_ne]
    intro e
    exact h (ch_inj (congrArg PyData.str e))
theorem dNe_ch {a b : Nat} (ha : a < 0x110000) (hb : b < 0x110000) : dNe (ch a) (ch b) = some (.bool (!decide (a = b))) := by
  have h := dEq_ch ha hb
  unfold dEq at h
  unfold dNe
  rw [if_pos ⟨(fine_ch ha).shaped, (fine_ch hb).shaped⟩] at h ⊢
  injection h with h
  injection h with h
  rw [h]

/-! ### comprehensions that change nothing else -/
theorem backS_same {old new : List (Option R)} {vs : List Nat} (h : wipeS new vs = wipeS old vs) : backS old new vs = old := by
  have hl : old.length = new.length := by
    have := congrArg List.length h
    rw [wipeS_len, wipeS_len] at this
    exact this.symm
  apply List.ext_getElem?
  intro n
  rw [backS_in hl]
  by_cases hn : n ∈ vs
  · rw [if_pos hn]
  · rw [if_neg hn]
    have := congrArg (fun l => l[n]?) h
    have h2 : (wipeS new vs)[n]? = (wipeS old vs)[n]? := this
    rwa [wipeS_out hn, wipeS_out hn] at h2
/-- the turns of a comprehension whose parts change nothing but its own names -/
theorem turns_pure {gg : D → Sx → Option Sx} {gt : M Bool} {ge : M D} {vs : List Nat} {b : D → Bool} {f : D → D} {w : List (Option R)} {os : List (Option Cell)} :
    ∀ (ds : List D) (sl : List (Option R)), wipeS sl vs = w → (∀ d ∈ ds, ∃ sl1, gg d ⟨w, os⟩ = some ⟨sl1, os⟩ ∧ wipeS sl1 vs = w ∧ gt ⟨sl1, os⟩ = some (b d, ⟨sl1, os⟩) ∧ (b d = true → ge ⟨sl1, os⟩ = some (f d, ⟨sl1, os⟩))) →
      ∃ sl', wipeS sl' vs = w ∧ gTurns gg gt ge vs ds ⟨sl, os⟩ = some ((ds.filter b).map f, ⟨sl', os⟩)
  | [], sl, e, _ => ⟨sl, e, rfl⟩
  | d :: ds, sl, e, h => by
    obtain ⟨sl1, h1, h2, h3, h4⟩ := h d List.mem_cons_self
    obtain ⟨sl', e', ih⟩ := turns_pure ds sl1 h2 fun x hx => h x (List.mem_cons_of_mem _ hx)
    refine ⟨sl', e', ?_⟩
    rw [gTurns]
    simp only [e, h1, h3, Option.bind_some]
    cases hb : b d with
    | true => simp [h4 hb, ih, hb]
    | false => simp [ih, hb]
/-! ### loops -/
theorem loop_inv {gg : D → Sx → Option Sx} {body : Sx → Option Out} (I : Nat → Sx → Prop) : ∀ (ds : List D) (n : Nat) (S : Sx), I n S → (∀ i d S, ds[i]? = some d → I (n + i) S → ∃ S1 S2, gg d S = some S1 ∧ body S1 = some (.nx S2) ∧ I (n + i + 1) S2) →
    ∃ S', gLoop gg body ds S = some (.nx S') ∧ I (n + ds.length) S'
  | [], n, S, h0, _ => ⟨S, rfl, h0⟩
  | d :: ds, n, S, h0, hs => by
    obtain ⟨S1, S2, h1, h2, h3⟩ := hs 0 d S rfl h0
    obtain ⟨S', h4, h5⟩ := loop_inv I ds (n + 1) S2 h3 fun i e T he hI => by
      have := hs (i + 1) e T (by simpa using he) (by rwa [show n + (i + 1) = n + 1 + i by omega])
      rwa [show n + (i + 1) + 1 = n + 1 + i + 1 by omega] at this
    refine ⟨S', ?_, by rwa [show n + (d :: ds).length = n + 1 + ds.length by simp; omega]⟩
    rw [gLoop]
    simp only [h1, h2, Option.bind_some]
    exact h4
theorem rng_mem {lo : Int} {n : Nat} {d : D} (h : d ∈ rng lo n) : ∃ i : Nat, i < n ∧ d = .int (lo + i) := by
  unfold rng at h
  obtain ⟨i, hi, rfl⟩ := List.mem_map.mp h
  exact ⟨i, List.mem_range.mp hi, rfl⟩
theorem rng_at {lo : Int} {n i : Nat} {d : D} (h : (rng lo n)[i]? = some d) : i < n ∧ d = .int (lo + i) := by
  unfold rng at h
  rw [List.getElem?_map] at h
  obtain ⟨j, hj, rfl⟩ := Option.map_eq_some_iff.mp h
  obtain ⟨h1, h2⟩ := List.getElem?_eq_some_iff.mp hj
  simp at h1 h2
  subst h2
  exact ⟨h1, rfl⟩
theorem atI_ok {α : Type} {xs : List α} {i : Int} (h0 : 0 ≤ i) (h1 : i < xs.length) : L2.atI xs i = xs[i.toNat]? := by
  unfold L2.atI L2.ixN
  rw [if_pos h0, if_pos h1]; rfl
theorem line_eq : sizeLine = 16777216 := sizeLine_eq
end Fu

set_option maxHeartbeats 4000000
namespace Fu
open PySem

/-! ### plain data: no truth value inside; there python's equality is equality -/
mutual
def plain : D → Bool
  | .none | .int _ | .str _ => true
  | .bool _ | .dict _ => false
  | .list xs | .tuple xs => plains xs
def plains : List D → Bool
  | [] => true
  | x :: xs => plain x && plains xs
end
mutual
theorem eqv_plain : ∀ d e : D, plain d = true → plain e = true → (PyData.eqv d e = true ↔ d = e)
  | .none, e, _, h => by cases e <;> simp [PyData.eqv, plain] at h ⊢
  | .int i, e, _, h => by cases e <;> simp [PyData.eqv, plain] at h ⊢
  | .str i, e, _, h => by cases e <;> simp [PyData.eqv, plain] at h ⊢
  | .bool b, _, h, _ => by simp [plain] at h
  | .dict b, _, h, _ => by simp [plain] at h
  | .list xs, e, h1, h2 => by
    cases e with
    | list ys =>
      simp only [plain] at h1 h2
      rw [PyData.eqv, eqvs_plain xs ys h1 h2]
      exact ⟨fun h => by rw [h], fun h => by injection h⟩
    | _ => simp [PyData.eqv, plain] at h2 ⊢
  | .tuple xs, e, h1, h2 => by
    cases e with
    | tuple ys =>
      simp only [plain] at h1 h2
      rw [PyData.eqv, eqvs_plain xs ys h1 h2]
      exact ⟨fun h => by rw [h], fun h => by injection h⟩
    | _ => simp [PyData.eqv, plain] at h2 ⊢
theorem eqvs_plain : ∀ xs ys : List D, plains xs = true → plains ys = true → (PyData.eqvAll xs ys = true ↔ xs = ys)
  | [], ys, _, _ => by cases ys <;> simp [PyData.eqvAll]
  | x :: xs, [], _, _ => by simp [PyData.eqvAll]
  | x :: xs, y :: ys, h1, h2 => by
    simp only [plains, Bool.and_eq_true] at h1 h2
    rw [PyData.eqvAll, Bool.and_eq_true, eqv_plain x y h1.1 h2.1, eqvs_plain xs ys h1.2 h2.2]
    exact ⟨fun h => by rw [h.1, h.2], fun h => by injection h; exact ⟨by assumption, by assumption⟩⟩
end
theorem plains_all {xs : List D} : plains xs = true ↔ ∀ d ∈ xs, plain d = true := by
  induction xs with
  | nil => simp [plains]
  | cons x xs ih => simp [plains, ih]
/-- good data: plain, of shape, not deep -/
structure Good (n : Nat) (d : D) : Prop where
  fine : Fine n d
  plain : plain d = true
theorem Good.shaped {n : Nat} {d : D} (h : Good n d) (l : n ≤ 64 := by decide) : SeqAt.shaped d = true := h.fine.shaped l
theorem Good.mono {m n : Nat} {d : D} (h : Good m d) (l : m ≤ n) : Good n d := ⟨h.fine.mono l, h.plain⟩
theorem good_int (i : Int) : Good 0 (.int i) := ⟨fine_int i, rfl⟩
theorem good_ch {c : Nat} (h : c < 0x110000) : Good 0 (ch c) := ⟨fine_ch h, rfl⟩
theorem good_list {n : Nat} {ds : List D} (h : ∀ d ∈ ds, Good n d) : Good (n + 1) (.list ds) := ⟨fine_list fun d hd => (h d hd).fine, plains_all.mpr fun d hd => (h d hd).plain⟩
theorem good_tup {n : Nat} {ds : List D} (h : ∀ d ∈ ds, Good n d) : Good (n + 1) (.tuple ds) := ⟨fine_tup fun d hd => (h d hd).fine, plains_all.mpr fun d hd => (h d hd).plain⟩
theorem good_list_le {m n : Nat} {ds : List D} (h : ∀ d ∈ ds, Good m d) (l : m + 1 ≤ n) : Good n (.list ds) := (good_list h).mono l
open Classical in
theorem dEq_good {m n : Nat} {d e : D} (h : Good m d) (k : Good n e) (l1 : m ≤ 64 := by decide) (l2 : n ≤ 64 := by decide) : dEq d e = some (.bool (decide (d = e))) := by
  unfold dEq
  rw [if_pos ⟨h.shaped l1, k.shaped l2⟩]
  by_cases x : d = e
  · rw [(eqv_plain d e h.plain k.plain).mpr x, decide_eq_true x]
  · rw [decide_eq_false x, Bool.eq_false_iff.mpr fun z => x ((eqv_plain d e h.plain k.plain).mp z)]
open Classical in
/-! ### what a run answers, forwards -/
def Ev {α : Type} (x : Option (α × Sx)) (Q : α → Sx → Prop) : Prop := ∃ a S, x = some (a, S) ∧ Q a S
def Es (x : Option Sx) (Q : Sx → Prop) : Prop := ∃ S, x = some S ∧ Q S
def Eo (x : Option Out) (Q : Out → Prop) : Prop := ∃ o, x = some o ∧ Q o
def Ed {α : Type} (x : Option α) (Q : α → Prop) : Prop := ∃ d, x = some d ∧ Q d
theorem Ev.mono {α : Type} {x : Option (α × Sx)} {P Q : α → Sx → Prop} (h : Ev x P) (f : ∀ a S, P a S → Q a S) : Ev x Q := let ⟨a, S, e, p⟩ := h; ⟨a, S, e, f a S p⟩
theorem Eo.mono {x : Option Out} {P Q : Out → Prop} (h : Eo x P) (f : ∀ a, P a → Q a) : Eo x Q := let ⟨a, e, p⟩ := h; ⟨a, e, f a p⟩
theorem Ed.of {α : Type} {x : Option α} {d : α} {Q : α → Prop} (e : x = some d) (h : Q d) : Ed x Q := ⟨d, e, h⟩
theorem Ev.of {α : Type} {x : Option (α × Sx)} {d : α} {S : Sx} {Q : α → Sx → Prop} (e : x = some (d, S)) (h : Q d S) : Ev x Q := ⟨d, S, e, h⟩
theorem Ev.eq {α : Type} {x : Option (α × Sx)} {d : α} {S : Sx} (h : Ev x fun a T => a = d ∧ T = S) : x = some (d, S) := by
  obtain ⟨a, T, e, rfl, rfl⟩ := h; exact e
theorem Es.eq {x : Option Sx} {S : Sx} (h : Es x fun T => T = S) : x = some S := by
  obtain ⟨T, e, rfl⟩ := h; exact e
section
variable {α : Type} {S : Sx} {Q : D → Sx → Prop} {P : Bool → Sx → Prop} {L : List D → Sx → Prop} {O : Option Int → Sx → Prop} {Z : Out → Prop} {W : Sx → Prop}
theorem ev_c {d : D} (h : Q d S) : Ev (gC d S) Q := ⟨d, S, rfl, h⟩
theorem ev_var {sl : List (Option R)} {os : List (Option Cell)} {i : Nat} (h : ∃ d, sl[i]? = some (some (.dat d)) ∧ Q d ⟨sl, os⟩) : Ev (gVar i ⟨sl, os⟩) Q := by
  obtain ⟨d, e, h⟩ := h
  exact ⟨d, _, by unfold gVar; simp only [e], h⟩
theorem ev_bin {f : D → D → Option D} {ga gb : M D} (h : Ev (ga S) fun d S1 => Ev (gb S1) fun e S2 => Ed (f d e) fun z => Q z S2) : Ev (gBin f ga gb S) Q := by
  obtain ⟨d, S1, e1, e, S2, e2, z, e3, q⟩ := h
  exact ⟨z, S2, by simp only [gBin, e1, e2, e3, Option.bind_some], q⟩
theorem ev_un {f : D → Option D} {ga : M D} (h : Ev (ga S) fun d S1 => Ed (f d) fun z => Q z S1) : Ev (gUn f ga S) Q := by
  obtain ⟨d, S1, e1, z, e3, q⟩ := h
  exact ⟨z, S1, by simp only [gUn, e1, e3, Option.bind_some], q⟩
theorem ev_nil (h : L [] S) : Ev (gNil S) L := ⟨_, _, rfl, h⟩
theorem ev_cons {g : M D} {gs : M (List D)} (h : Ev (g S) fun d S1 => Ev (gs S1) fun ds S2 => L (d :: ds) S2) : Ev (gCons g gs S) L := by
  obtain ⟨d, S1, e1, e, S2, e2, q⟩ := h
  exact ⟨_, S2, by simp only [gCons, e1, e2, Option.bind_some], q⟩
theorem ev_tup {g : M (List D)} (h : Ev (g S) fun ds S1 => ds.length ≤ 16777216 ∧ Q (.tuple ds) S1) : Ev (gTup g S) Q := by
  obtain ⟨d, S1, e1, l, q⟩ := h
  exact ⟨_, S1, by simp only [gTup, e1, Option.bind_some, line_eq, if_pos l], q⟩
theorem ev_lst {g : M (List D)} (h : Ev (g S) fun ds S1 => ds.length ≤ 16777216 ∧ Q (.list ds) S1) : Ev (gLst g S) Q := by
  obtain ⟨d, S1, e1, l, q⟩ := h
  exact ⟨_, S1, by simp only [gLst, e1, Option.bind_some, line_eq, if_pos l], q⟩
theorem ev_call {f : List D → Option D} {g : M (List D)} (h : Ev (g S) fun ds S1 => Ed (f ds) fun z => Q z S1) : Ev (gCall f g S) Q := by
  obtain ⟨d, S1, e1, z, e3, q⟩ := h
  exact ⟨z, S1, by simp only [gCall, e1, e3, Option.bind_some], q⟩
theorem ev_callF {n : Nat} {f : List D → Option D} {g : M (List D)} (h : Ev (g S) fun ds S1 => ds.length = n ∧ Ed (f ds) fun z => Q z S1) : Ev (gCallF n f g S) Q := by
  obtain ⟨d, S1, e1, l, z, e3, q⟩ := h
  exact ⟨z, S1, by simp only [gCallF, e1, e3, Option.bind_some, if_pos l], q⟩
theorem ev_isi {T : String} {g : M D} (h : Ev (g S) fun d S1 => Q (.bool (isT T d)) S1) : Ev (gIsi T g S) Q := by
  obtain ⟨d, S1, e1, q⟩ := h
  exact ⟨_, S1, by simp only [gIsi, e1, Option.bind_some], q⟩
theorem ev_isi2 {T U : String} {g : M D} (h : Ev (g S) fun d S1 => Q (.bool (isT T d || isT U d)) S1) : Ev (gIsi2 T U g S) Q := by
  obtain ⟨d, S1, e1, q⟩ := h
  exact ⟨_, S1, by simp only [gIsi2, e1, Option.bind_some], q⟩
theorem ev_andV {g k : M D} (h : Ev (g S) fun d S1 => ∃ b, d = .bool b ∧ (b = true → Ev (k S1) fun e S2 => ∃ c, e = .bool c ∧ Q (.bool c) S2) ∧ (b = false → Q (.bool false) S1)) : Ev (gAndV g k S) Q := by
  obtain ⟨d, S1, e1, b, rfl, h1, h2⟩ := h
  cases b with
  | true => 
    obtain ⟨e, S2, e2, c, rfl, q⟩ := h1 rfl
    exact ⟨_, S2, by simp [gAndV, e1, e2], q⟩
  | false => exact ⟨_, S1, by simp [gAndV, e1], h2 rfl⟩
theorem ev_orV {g k : M D} (h : Ev (g S) fun d S1 => ∃ b, d = .bool b ∧ (b = false → Ev (k S1) fun e S2 => ∃ c, e = .bool c ∧ Q (.bool c) S2) ∧ (b = true → Q (.bool true) S1)) : Ev (gOrV g k S) Q := by
  obtain ⟨d, S1, e1, b, rfl, h1, h2⟩ := h
  cases b with
  | false => 
    obtain ⟨e, S2, e2, c, rfl, q⟩ := h1 rfl
    exact ⟨_, S2, by simp [gOrV, e1, e2], q⟩
  | true => exact ⟨_, S1, by simp [gOrV, e1], h2 rfl⟩
theorem ev_notV {g : M D} (h : Ev (g S) fun d S1 => ∃ b, d = .bool b ∧ Q (.bool !b) S1) : Ev (gNotV g S) Q := by
  obtain ⟨d, S1, e1, b, rfl, q⟩ := h
  exact ⟨_, S1, by simp [gNotV, e1], q⟩
theorem ev_B {g : M D} (h : Ev (g S) fun d S1 => ∃ b, d = .bool b ∧ P b S1) : Ev (gB g S) P := by
  obtain ⟨d, S1, e1, b, rfl, q⟩ := h
  exact ⟨b, S1, by simp only [gB, e1, Option.bind_some], q⟩
theorem ev_and {g k : M Bool} (h : Ev (g S) fun b S1 => (b = true → Ev (k S1) P) ∧ (b = false → P false S1)) : Ev (gAnd g k S) P := by
  obtain ⟨b, S1, e1, h1, h2⟩ := h
  cases b with
  | true => 
    obtain ⟨c, S2, e2, q⟩ := h1 rfl
    exact ⟨_, S2, by simp [gAnd, e1, e2], q⟩
  | false => exact ⟨_, S1, by simp [gAnd, e1], h2 rfl⟩
theorem ev_or {g k : M Bool} (h : Ev (g S) fun b S1 => (b = false → Ev (k S1) P) ∧ (b = true → P true S1)) : Ev (gOr g k S) P := by
  obtain ⟨b, S1, e1, h1, h2⟩ := h
  cases b with
  | false => 
    obtain ⟨c, S2, e2, q⟩ := h1 rfl
    exact ⟨_, S2, by simp [gOr, e1, e2], q⟩
  | true => exact ⟨_, S1, by simp [gOr, e1], h2 rfl⟩
theorem ev_not {g : M Bool} (h : Ev (g S) fun b S1 => P (!b) S1) : Ev (gNot g S) P := by
  obtain ⟨b, S1, e1, q⟩ := h
  exact ⟨_, S1, by simp [gNot, e1], q⟩
theorem ev_yes (h : P true S) : Ev (gYes S) P := ⟨_, _, rfl, h⟩
theorem ev_if {t : M Bool} {g k : M D} (h : Ev (t S) fun b S1 => (b = true → Ev (g S1) Q) ∧ (b = false → Ev (k S1) Q)) : Ev (gIf t g k S) Q := by
  obtain ⟨b, S1, e1, h1, h2⟩ := h
  cases b with
  | true => 
    obtain ⟨c, S2, e2, q⟩ := h1 rfl
    exact ⟨_, S2, by simp [gIf, e1, e2], q⟩
  | false =>
    obtain ⟨c, S2, e2, q⟩ := h2 rfl
    exact ⟨_, S2, by simp [gIf, e1, e2], q⟩
theorem ev_no (h : O none S) : Ev (gNo S) O := ⟨_, _, rfl, h⟩
theorem ev_so {g : M D} (h : Ev (g S) fun d S1 => ∃ i, d = .int i ∧ O (some i) S1) : Ev (gSo g S) O := by
  obtain ⟨d, S1, e1, i, rfl, q⟩ := h
  exact ⟨_, S1, by simp only [gSo, e1, Option.bind_some], q⟩
theorem ev_sl {g : M D} {gl gh : M (Option Int)} (h : Ev (g S) fun d S1 => Ev (gl S1) fun lo S2 => Ev (gh S2) fun hi S3 => Ed (dSl d lo hi) fun z => Q z S3) : Ev (gSl g gl gh S) Q := by
  obtain ⟨d, S1, e1, lo, S2, e2, hi, S3, e3, z, e4, q⟩ := h
  exact ⟨z, S3, by simp only [gSl, e1, e2, e3, e4, Option.bind_some], q⟩
theorem ev_items {g : M D} (h : Ev (g S) fun d S1 => Ed (itemsOf d) fun xs => L xs S1) : Ev (gItems g S) L := by
  obtain ⟨d, S1, e1, xs, e2, q⟩ := h
  exact ⟨xs, S1, by simp only [gItems, e1, e2, Option.bind_some], q⟩
theorem ev_rng1 {g : M (List D)} (h : Ev (g S) fun ds S1 => ∃ n : Int, ds = [.int n] ∧ -4611686018427387904 ≤ n ∧ n ≤ 16777216 ∧ L (rng 0 n.toNat) S1) : Ev (gRng1 g S) L := by
  obtain ⟨ds, S1, e1, n, rfl, l1, l2, q⟩ := h
  exact ⟨_, S1, by simp only [gRng1, e1, Option.bind_some, line_eq]; rw [if_pos ⟨by omega, by omega⟩], q⟩
theorem ev_rng2 {g : M (List D)} (h : Ev (g S) fun ds S1 => ∃ i j : Int, ds = [.int i, .int j] ∧ -4294967296 ≤ i ∧ i ≤ 4294967296 ∧ -4294967296 ≤ j ∧ j ≤ 4294967296 ∧ j - i ≤ 16777216 ∧ L (rng i (j - i).toNat) S1) : Ev (gRng2 g S) L := by
  obtain ⟨ds, S1, e1, i, j, rfl, l1, l2, l3, l4, l5, q⟩ := h
  exact ⟨_, S1, by simp only [gRng2, e1, Option.bind_some, line_eq]; rw [if_pos ⟨by omega, by omega, by omega, by omega, by omega⟩], q⟩
/-- a comprehension that changes nothing else -/
theorem ev_lc {gi : M (List D)} {gg : D → Sx → Option Sx} {gt : M Bool} {ge : M D} {vs : List Nat} (b : D → Bool) (f : D → D)
    (h : Ev (gi S) fun ds S1 => (∀ d ∈ ds, Es (gg d ⟨wipeS S1.sl vs, S1.os⟩) fun S2 => wipeS S2.sl vs = wipeS S1.sl vs ∧ S2.os = S1.os ∧ Ev (gt S2) fun c S3 => S3 = S2 ∧ c = b d ∧ (b d = true → Ev (ge S2) fun e S4 => e = f d ∧ S4 = S2)) ∧ Q (.list ((ds.filter b).map f)) S1) : Ev (gLc gi gg gt ge vs S) Q := by
  obtain ⟨ds, ⟨sl1, os1⟩, e1, h1, q⟩ := h
  obtain ⟨sl', e', ht⟩ := turns_pure (gg := gg) (gt := gt) (ge := ge) (b := b) (f := f) ds sl1 rfl fun d hd => by
    obtain ⟨⟨sl2, os2⟩, e2, e3, e4, c, S3, e5, e6, e7, e8⟩ := h1 d hd
    cases e4
    subst e7 e6
    exact ⟨sl2, e2, e3, e5, fun hb => (e8 hb).eq⟩
  refine ⟨_, _, ?_, q⟩
  unfold gLc
  rw [e1]
  simp only [Option.bind_some, ht, backS_same e']
theorem ev_map {gi : M (List D)} {gg : D → Sx → Option Sx} {ge : M D} {vs : List Nat} (f : D → D)
    (h : Ev (gi S) fun ds S1 => (∀ d ∈ ds, Es (gg d ⟨wipeS S1.sl vs, S1.os⟩) fun S2 => wipeS S2.sl vs = wipeS S1.sl vs ∧ S2.os = S1.os ∧ Ev (ge S2) fun e S4 => e = f d ∧ S4 = S2) ∧ Q (.list (ds.map f)) S1) : Ev (gLc gi gg gYes ge vs S) Q := by
  refine ev_lc (fun _ => true) f ?_
  refine h.mono fun ds S1 h => ⟨fun d hd => ?_, by rw [List.filter_eq_self.mpr fun _ _ => rfl]; exact h.2⟩
  obtain ⟨S2, e2, e3, e4, e5⟩ := h.1 d hd
  exact ⟨S2, e2, e3, e4, ev_yes ⟨rfl, rfl, fun _ => e5⟩⟩
theorem es_name {i : Nat} {d : D} (h : W ⟨S.sl.set i (some (.dat d)), S.os⟩) : Es (sName i d S) W := ⟨_, rfl, h⟩
theorem es_tup2 {i j : Nat} {d e : D} (h : W ⟨(S.sl.set i (some (.dat d))).set j (some (.dat e)), S.os⟩) : Es (sTup 2 (sCons (sName i) (sCons (sName j) sNil)) (.tuple [d, e]) S) W := ⟨_, rfl, h⟩
theorem es_tup3 {i j k : Nat} {d e f : D} (h : W ⟨((S.sl.set i (some (.dat d))).set j (some (.dat e))).set k (some (.dat f)), S.os⟩) : Es (sTup 3 (sCons (sName i) (sCons (sName j) (sCons (sName k) sNil))) (.tuple [d, e, f]) S) W := ⟨_, rfl, h⟩
/-- what goes on after a statement -/
def Then (h : Sx → Option Out) (Z : Out → Prop) : Out → Prop
  | .nx S => Eo (h S) Z
  | .rt d S => Z (.rt d S)
  | .bk S => Z (.bk S)
  | .ct S => Z (.ct S)
  | .ro j S => Z (.ro j S)
theorem eo_seq {g h : Sx → Option Out} (e : Eo (g S) (Then h Z)) : Eo (qSeq g h S) Z := by
  obtain ⟨o, e1, q⟩ := e
  cases o with
  | nx S1 =>
    obtain ⟨o2, e2, q⟩ := q
    exact ⟨o2, by simp only [qSeq, e1, Option.bind_some, e2], q⟩
  | _ => exact ⟨_, by simp only [qSeq, e1, Option.bind_some], q⟩
theorem then_nx' {h : Sx → Option Out} {S1 : Sx} (e : ∃ S2, S1 = S2 ∧ Eo (h S2) Z) : Then h Z (.nx S1) := by obtain ⟨_, rfl, e⟩ := e; exact e
theorem eo_nx (h : Z (.nx S)) : Eo (qNx S) Z := ⟨_, rfl, h⟩
theorem eo_drop {g : M D} (h : Ev (g S) fun _ S1 => Z (.nx S1)) : Eo (qDrop g S) Z := by
  obtain ⟨d, S1, e1, q⟩ := h
  exact ⟨_, by simp only [qDrop, e1, Option.bind_some], q⟩
theorem eo_ret {g : M D} (h : Ev (g S) fun d S1 => Z (.rt d S1)) : Eo (qRet g S) Z := by
  obtain ⟨d, S1, e1, q⟩ := h
  exact ⟨_, by simp only [qRet, e1, Option.bind_some], q⟩
theorem eo_retN (h : Z (.rt .none S)) : Eo (qRetN S) Z := ⟨_, rfl, h⟩
theorem eo_if {t : M Bool} {g k : Sx → Option Out} (h : Ev (t S) fun b S1 => (b = true → Eo (g S1) Z) ∧ (b = false → Eo (k S1) Z)) : Eo (qIf t g k S) Z := by
  obtain ⟨b, S1, e1, h1, h2⟩ := h
  cases b with
  | true =>
    obtain ⟨c, e2, q⟩ := h1 rfl
    exact ⟨_, by simp [qIf, e1, e2], q⟩
  | false =>
    obtain ⟨c, e2, q⟩ := h2 rfl
    exact ⟨_, by simp [qIf, e1, e2], q⟩
theorem eo_set {i : Nat} {g : M D} (h : Ev (g S) fun d S1 => Z (.nx ⟨S1.sl.set i (some (.dat d)), S1.os⟩)) : Eo (qSet i g S) Z := by
  obtain ⟨d, S1, e1, q⟩ := h
  exact ⟨_, by simp only [qSet, e1, Option.bind_some], q⟩
theorem eo_asg {gg : D → Sx → Option Sx} {g : M D} (h : Ev (g S) fun d S1 => Es (gg d S1) fun S2 => Z (.nx S2)) : Eo (qAsg gg g S) Z := by
  obtain ⟨d, S1, e1, S2, e2, q⟩ := h
  exact ⟨_, by simp only [qAsg, e1, e2, Option.bind_some], q⟩
theorem eo_par {i j : Nat} {g : M (List D)} (h : Ev (g S) fun ds S1 => ∃ d e, ds = [d, e] ∧ Z (.nx ⟨(S1.sl.set i (some (.dat d))).set j (some (.dat e)), S1.os⟩)) : Eo (qPar i j g S) Z := by
  obtain ⟨ds, S1, e1, d, e, rfl, q⟩ := h
  exact ⟨_, by simp only [qPar, e1, Option.bind_some], q⟩
theorem eo_own {i : Nat} {g : M D} (h : Ev (g S) fun d S1 => ∃ ds, d = .list ds ∧ Z (.nx ⟨S1.sl.set i (some (.own S1.os.length)), S1.os ++ [some (.lst ds)]⟩)) : Eo (qOwn i g S) Z := by
  obtain ⟨d, S1, e1, ds, rfl, q⟩ := h
  exact ⟨_, by simp only [qOwn, e1, Option.bind_some], q⟩
theorem eo_retO {g : M D} (h : Ev (g S) fun d S1 => ∃ ds, d = .list ds ∧ Z (.ro S1.os.length ⟨S1.sl, S1.os ++ [some (.lst ds)]⟩)) : Eo (qRetO g S) Z := by
  obtain ⟨d, S1, e1, ds, rfl, q⟩ := h
  exact ⟨_, by simp only [qRetO, e1, Option.bind_some], q⟩
theorem eo_for {gi : M (List D)} {gg : D → Sx → Option Sx} {body : Sx → Option Out} (h : Ev (gi S) fun ds S1 => Eo (gLoop gg body ds S1) Z) : Eo (qFor gi gg body S) Z := by
  obtain ⟨ds, S1, e1, o, e2, q⟩ := h
  exact ⟨_, by simp only [qFor, e1, Option.bind_some, e2], q⟩
theorem eo_loop {gg : D → Sx → Option Sx} {body : Sx → Option Out} {ds : List D} (I : Nat → Sx → Prop) (h0 : I 0 S) (hs : ∀ i d S, ds[i]? = some d → I i S → Es (gg d S) fun S1 => Eo (body S1) fun o => ∃ S2, o = .nx S2 ∧ I (i + 1) S2) (hz : ∀ S', I ds.length S' → Z (.nx S')) : Eo (gLoop gg body ds S) Z := by
  obtain ⟨S', e, q⟩ := loop_inv (gg := gg) (body := body) I ds 0 S h0 fun i d S h1 h2 => by
    rw [Nat.zero_add] at h2 ⊢
    obtain ⟨S1, e1, o, e2, S2, rfl, q⟩ := hs i d S h1 h2
    exact ⟨S1, S2, e1, e2, q⟩
  rw [Nat.zero_add] at q
  exact ⟨_, e, hz S' q⟩
end

theorem then_rt {h : Sx → Option Out} {Z : Out → Prop} {d : D} {S : Sx} (q : Z (.rt d S)) : Then h Z (.rt d S) := q
theorem split_t {A B : Prop} {b : Bool} (e : b = true) (h : A) : (b = true → A) ∧ (b = false → B) := ⟨fun _ => h, fun k => by rw [e] at k; cases k⟩
theorem split_f {A B : Prop} {b : Bool} (e : b = false) (h : B) : (b = true → A) ∧ (b = false → B) := ⟨fun k => (by rw [e] at k; cases k), fun _ => h⟩
theorem split_t' {A B : Prop} {b : Bool} (e : b = true) (h : A) : (b = false → B) ∧ (b = true → A) := ⟨fun k => (by rw [e] at k; cases k), fun _ => h⟩
theorem split_f' {A B : Prop} {b : Bool} (e : b = false) (h : B) : (b = false → B) ∧ (b = true → A) := ⟨fun _ => h, fun k => by rw [e] at k; cases k⟩
/-! ### whole defs -/
def Gives (z : D) : Out → Prop
  | .rt d _ => d = z
  | .nx _ => z = .none
  | _ => False
theorem mF_of {n : Nat} {g : Sx → Option Out} {ds : List D} {z : D} (h : Eo (g ⟨initS n ds, []⟩) (Gives z)) : mF n g ds = some z := by
  obtain ⟨o, e, q⟩ := h
  unfold mF
  rw [e]
  cases o with
  | nx S => cases q; rfl
  | rt d S => cases q; rfl
  | _ => exact q.elim
theorem gives_rt {z d : D} {S : Sx} (h : d = z) : Gives z (.rt d S) := h
@[simp] theorem gives_rtI {z d : D} {S : Sx} : Gives z (.rt d S) ↔ d = z := Iff.rfl
theorem gives_nx {S : Sx} : Gives .none (.nx S) := rfl
def GivesO (Q : D → List D → Prop) : Out → Prop
  | .rt d S => ∃ cs, cellOf S 0 = some cs ∧ Q d cs
  | .nx S => ∃ cs, cellOf S 0 = some cs ∧ Q .none cs
  | _ => False
theorem mIO_of {n : Nat} {g : Sx → Option Out} {cs ds : List D} {Q : D → List D → Prop} (h : Eo (g ⟨some (.own 0) :: initS (n - 1) ds, [some (.lst cs)]⟩) (GivesO Q)) : ∃ d cs', mIO n g cs ds = some (d, cs') ∧ Q d cs' := by
  obtain ⟨o, e, q⟩ := h
  unfold mIO
  rw [e]
  cases o with
  | nx S => obtain ⟨cs', e, q⟩ := q; exact ⟨_, cs', by simp [e], q⟩
  | rt d S => obtain ⟨cs', e, q⟩ := q; exact ⟨_, cs', by simp [e], q⟩
  | _ => exact q.elim
theorem ev_IO {sl : List (Option R)} {os : List (Option Cell)} {i n : Nat} {f : List D → List D → Option (D × List D)} {g : M (List D)} {Q : D → Sx → Prop}
    (h : ∃ j, sl[i]? = some (some (.own j)) ∧ Ev (g ⟨sl, os⟩) fun ds S1 => ∃ cs, S1.os[j]? = some (some (.lst cs)) ∧ ds.length = n ∧ ∃ d cs', f cs ds = some (d, cs') ∧ Q d ⟨S1.sl, S1.os.set j (some (.lst cs'))⟩) : Ev (gIO i n f g ⟨sl, os⟩) Q := by
  obtain ⟨j, hi, ds, S1, e1, cs, e2, l, d, cs', e3, q⟩ := h
  exact ⟨d, _, by simp only [gIO, hi, e1, e2, e3, Option.bind_some, if_pos l], q⟩
theorem ev_ixO {sl : List (Option R)} {os : List (Option Cell)} {i : Nat} {gb : M D} {Q : D → Sx → Prop}
    (h : ∃ j cs, sl[i]? = some (some (.own j)) ∧ os[j]? = some (some (.lst cs)) ∧ Ev (gb ⟨sl, os⟩) fun d S1 => ∃ n, d = .int n ∧ S1 = ⟨sl, os⟩ ∧ Ed (L2.atI cs n) fun e => Q e ⟨sl, os⟩) : Ev (gIxO i gb ⟨sl, os⟩) Q := by
  obtain ⟨j, cs, hi, hc, d, S1, e1, n, rfl, rfl, e, e2, q⟩ := h
  exact ⟨e, _, by simp only [gIxO, ownOf, cellOf, hi, hc, e1, e2, Option.bind_some], q⟩
theorem eo_setO {S : Sx} {i : Nat} {gb ge : M D} {Z : Out → Prop} (h : Ev (ge S) fun d S1 => ∃ j cs, S1.sl[i]? = some (some (.own j)) ∧ S1.os[j]? = some (some (.lst cs)) ∧ Ev (gb S1) fun n S2 => S2 = S1 ∧ ∃ k : Nat, n = .int k ∧ k < cs.length ∧ Z (.nx ⟨S1.sl, S1.os.set j (some (.lst (cs.set k d)))⟩)) : Eo (qSetO i gb ge S) Z := by
  obtain ⟨d, S1, e1, j, cs, hi, hc, n, S2, e2, rfl, k, rfl, l, q⟩ := h
  refine ⟨_, ?_, q⟩
  have : L2.ixN cs.length (k : Int) = some k := by
    unfold L2.ixN
    rw [if_pos (by omega), if_pos (by omega)]; simp
  simp only [qSetO, e1, Option.bind_some, ownOf, cellOf, hi, hc, e2, this, setCell]
theorem ev_app {S : Sx} {i : Nat} {ge : M D} {Q : D → Sx → Prop} (hi : ∃ j cs, S.sl[i]? = some (some (.own j)) ∧ S.os[j]? = some (some (.lst cs)) ∧ Ev (ge S) fun d S1 => ∃ cs, S1.os[j]? = some (some (.lst cs)) ∧ cs.length < 16777216 ∧ Q .none ⟨S1.sl, S1.os.set j (some (.lst (cs ++ [d])))⟩) : Ev (gApp i ge S) Q := by
  obtain ⟨j, cs, h1, h2, d, S1, e1, cs1, h3, l, q⟩ := hi
  refine ⟨_, _, ?_, q⟩
  simp only [gApp, ownOf, h1, h2, cellOf, Option.bind_some, e1, h3, line_eq, if_pos l, setCell]
theorem ev_ext {S : Sx} {i : Nat} {ge : M D} {Q : D → Sx → Prop} (hi : ∃ j cs, S.sl[i]? = some (some (.own j)) ∧ S.os[j]? = some (some (.lst cs)) ∧ Ev (ge S) fun d S1 => ∃ xs, d = .list xs ∧ ∃ cs, S1.os[j]? = some (some (.lst cs)) ∧ cs.length + xs.length ≤ 16777216 ∧ Q .none ⟨S1.sl, S1.os.set j (some (.lst (cs ++ xs)))⟩) : Ev (gExt i ge S) Q := by
  obtain ⟨j, cs, h1, h2, d, S1, e1, xs, rfl, cs1, h3, l, q⟩ := hi
  refine ⟨_, _, ?_, q⟩
  simp only [gExt, ownOf, h1, h2, cellOf, Option.bind_some, e1, h3, line_eq, if_pos l, setCell]
theorem ev_lenO {sl : List (Option R)} {os : List (Option Cell)} {i : Nat} {Q : D → Sx → Prop} (h : ∃ j cs, sl[i]? = some (some (.own j)) ∧ os[j]? = some (some (.lst cs)) ∧ Q (.int cs.length) ⟨sl, os⟩) : Ev (gLenO i ⟨sl, os⟩) Q := by
  obtain ⟨j, cs, hi, hc, h⟩ := h
  exact ⟨_, _, by simp only [gLenO, ownOf, cellOf, hi, hc, Option.bind_some], h⟩
theorem ev_scrSl {sl : List (Option R)} {os : List (Option Cell)} {i : Nat} {gl gh : M (Option Int)} {Q : D → Sx → Prop} (h : ∃ ns, sl[i]? = some (some (.scr ns)) ∧ Ev (gl ⟨sl, os⟩) fun lo S1 => Ev (gh S1) fun hi S2 => Q (.list ((cutL ns lo hi).map .int)) S2) : Ev (gScrSl i gl gh ⟨sl, os⟩) Q := by
  obtain ⟨ns, hi, lo, S1, e1, hi2, S2, e2, h⟩ := h
  exact ⟨_, _, by simp only [gScrSl, scrOf, hi, Option.bind_some, e1, e2], h⟩
theorem ev_scrLen {sl : List (Option R)} {os : List (Option Cell)} {i : Nat} {Q : D → Sx → Prop} (h : ∃ ns : List Int, sl[i]? = some (some (.scr ns)) ∧ Q (.int ns.length) ⟨sl, os⟩) : Ev (gScrLen i ⟨sl, os⟩) Q := by
  obtain ⟨ns, hi, h⟩ := h
  exact ⟨_, _, by simp only [gScrLen, scrOf, hi, Option.bind_some], h⟩
theorem ev_callScr {sl : List (Option R)} {os : List (Option Cell)} {i : Nat} {f : List Int → Option (List D)} {Q : D → Sx → Prop} (h : ∃ ns : List Int, sl[i]? = some (some (.scr ns)) ∧ Ed (f ns) fun z => Q (.list z) ⟨sl, os⟩) : Ev (gCallScr i f ⟨sl, os⟩) Q := by
  obtain ⟨ns, hi, z, e, h⟩ := h
  exact ⟨_, _, by simp only [gCallScr, scrOf, hi, Option.bind_some, e], h⟩
theorem mScrN_of {n : Nat} {g : Sx → Option Out} {ns : List Int} {Q : List D → Prop} (h : Eo (g ⟨some (.scr ns) :: List.replicate (n - 1) none, []⟩) fun o => ∃ j S cs, o = .ro j S ∧ cellOf S j = some cs ∧ Q cs) : ∃ cs, mScrN n g ns = some cs ∧ Q cs := by
  obtain ⟨_, e, j, S, cs, rfl, h, q⟩ := h
  exact ⟨cs, by unfold mScrN; simp only [e, Option.bind_some, h], q⟩
theorem mScr_of {n : Nat} {g : Sx → Option Out} {ns : List Int} {z : D} (h : Eo (g ⟨some (.scr ns) :: List.replicate (n - 1) none, []⟩) fun o => ∃ S, o = .rt z S) : mScr n g ns = some z := by
  obtain ⟨_, e, S, rfl⟩ := h
  unfold mScr; simp only [e, Option.bind_some]

/-! ### operations on data -/
section
variable {Q : D → Prop} {i j : Int} {xs ys : List D}
theorem ed_addI (h : Q (.int (i + j))) : Ed (dAdd (.int i) (.int j)) Q := ⟨_, rfl, h⟩
theorem ed_subI (h : Q (.int (i - j))) : Ed (dSub (.int i) (.int j)) Q := ⟨_, rfl, h⟩
theorem ed_addL (l : xs.length + ys.length ≤ 16777216) (h : Q (.list (xs ++ ys))) : Ed (dAdd (.list xs) (.list ys)) Q := ⟨_, by simp only [dAdd, line_eq, if_pos l], h⟩
theorem ed_mulI (l : L2.CMulW i j) (h : Q (.int (i * j))) : Ed (dMul (.int i) (.int j)) Q := ⟨_, by simp only [dMul, if_pos l], h⟩
theorem ed_divI (l : L2.CDivW i j) (h : Q (.int (i / j))) : Ed (dDiv (.int i) (.int j)) Q := ⟨_, by simp only [dDiv, if_pos l], h⟩
theorem ed_modI (l : 0 < j) (h : Q (.int (i % j))) : Ed (dMod (.int i) (.int j)) Q := ⟨_, by simp only [dMod, if_pos l], h⟩
theorem ed_cmp {p : Int → Int → Bool} (h : Q (.bool (p i j))) : Ed (dCmp p (.int i) (.int j)) Q := ⟨_, rfl, h⟩
theorem ed_eqI (h : Q (.bool (decide (i = j)))) : Ed (dEq (.int i) (.int j)) Q := ⟨_, dEq_int i j, h⟩
theorem ed_neI (h : Q (.bool (!decide (i = j)))) : Ed (dNe (.int i) (.int j)) Q := ⟨_, dNe_int i j, h⟩
theorem ed_ixT {d : D} (h0 : 0 ≤ i) (e : xs[i.toNat]? = some d) (h : Q d) : Ed (dIx (.tuple xs) (.int i)) Q := ⟨d, by
  have hl := (List.getElem?_eq_some_iff.mp e).1
  show L2.atI xs i = _
  rw [atI_ok h0 (by omega), e], h⟩
theorem ed_ixL {d : D} (h0 : 0 ≤ i) (e : xs[i.toNat]? = some d) (h : Q d) : Ed (dIx (.list xs) (.int i)) Q := ⟨d, by
  have hl := (List.getElem?_eq_some_iff.mp e).1
  show L2.atI xs i = _
  rw [atI_ok h0 (by omega), e], h⟩
theorem ed_at {d : D} {Q : D → Prop} (h0 : 0 ≤ i) (e : xs[i.toNat]? = some d) (h : Q d) : Ed (L2.atI xs i) Q := ed_ixT h0 e h
theorem ed_slT {lo hi : Option Int} (h : Q (.tuple (cutL xs lo hi))) : Ed (dSl (.tuple xs) lo hi) Q := ⟨_, rfl, h⟩
theorem ed_slL {lo hi : Option Int} (h : Q (.list (cutL xs lo hi))) : Ed (dSl (.list xs) lo hi) Q := ⟨_, rfl, h⟩
theorem ed_lenT (h : Q (.int xs.length)) : Ed (dLen [.tuple xs]) Q := ⟨_, rfl, h⟩
theorem ed_lenL (h : Q (.int xs.length)) : Ed (dLen [.list xs]) Q := ⟨_, rfl, h⟩
theorem ed_lenS {x : Str} (h : Q (.int x.length)) : Ed (dLen [.str x]) Q := ⟨_, rfl, h⟩
theorem ed_inS {c : Nat} {y : Str} (h : Q (.bool (decide (c ∈ y.cps.toList)))) : Ed (dIn (.str ⟨#[c]⟩) (.str y)) Q := ⟨_, by simp only [dIn]; rw [PySem.StrLaws.found_one], h⟩
theorem ed_powI (l : L2.CPow i j) (h : Q (.int (i ^ j.toNat))) : Ed (dPow (.int i) (.int j)) Q := ⟨_, by simp only [dPow, if_pos l], h⟩
theorem ed_neg (h : Q (.int (-i))) : Ed (dNeg (.int i)) Q := ⟨_, rfl, h⟩
theorem ed_max (h : Q (.int (max i j))) : Ed (dMax2 [.int i, .int j]) Q := ⟨_, rfl, by
  have : (if j > i then j else i) = max i j := by split <;> omega
  rw [this]; exact h⟩
theorem ed_min (h : Q (.int (min i j))) : Ed (dMin2 [.int i, .int j]) Q := ⟨_, rfl, by
  have : (if j < i then j else i) = min i j := by split <;> omega
  rw [this]; exact h⟩
theorem ed_intB {b : Bool} (h : Q (.int (if b then 1 else 0))) : Ed (dInt [.bool b]) Q := ⟨_, rfl, h⟩
theorem ed_ixS {x : Str} {c : Nat} (h0 : 0 ≤ i) (e : x.cps.toList[i.toNat]? = some c) (h : Q (ch c)) : Ed (dIx (.str x) (.int i)) Q := ⟨_, by
  have hl := (List.getElem?_eq_some_iff.mp e).1
  show (L2.atI x.cps.toList i).bind _ = _
  rw [atI_ok h0 (by omega), e]; rfl, h⟩
theorem ed_itT {Q : List D → Prop} (h : Q xs) : Ed (itemsOf (.tuple xs)) Q := ⟨_, rfl, h⟩
theorem ed_itL {Q : List D → Prop} (h : Q xs) : Ed (itemsOf (.list xs)) Q := ⟨_, rfl, h⟩
theorem ed_tupL (h : Q (.tuple xs)) : Ed (dTuple [.list xs]) Q := ⟨_, rfl, h⟩
theorem ed_tupT (h : Q (.tuple xs)) : Ed (dTuple [.tuple xs]) Q := ⟨_, rfl, h⟩
theorem ed_listL (h : Q (.list xs)) : Ed (dList [.list xs]) Q := ⟨_, rfl, h⟩
theorem ed_listT (h : Q (.list xs)) : Ed (dList [.tuple xs]) Q := ⟨_, rfl, h⟩
end
theorem allBools_fn {α : Type} (f : α → Bool) : ∀ xs : List α, allBools (xs.map fun a => .bool (f a)) = some (xs.map f)
  | [] => rfl
  | a :: xs => by simp [allBools, allBools_fn f xs]
theorem all_map {α : Type} (f : α → Bool) (xs : List α) : dAll [.list (xs.map fun a => .bool (f a))] = some (.bool (xs.all f)) := by
  simp only [dAll, allBools_fn, Option.bind_some]; rw [List.all_map]; rfl
theorem cut_to {α : Type} {xs : List α} {i : Int} (h : 0 ≤ i) : cutL xs none (some i) = xs.take i.toNat := by
  unfold cutL HT.sIx
  simp only [if_neg (show ¬ i < 0 by omega), List.drop_zero, Nat.sub_zero]
  rw [← List.take_take]
  simp [Nat.min_def]
theorem cut_from {α : Type} {xs : List α} {i : Int} (h : 0 ≤ i) : cutL xs (some i) none = xs.drop i.toNat := by
  unfold cutL HT.sIx
  simp only [if_neg (show ¬ i < 0 by omega)]
  by_cases l : i.toNat ≤ xs.length
  · rw [Nat.min_eq_left l, List.take_of_length_le (by simp)]
  · rw [Nat.min_eq_right (by omega), List.drop_of_length_le (Nat.le_refl _), List.drop_of_length_le (by omega), List.take_nil]
/-! ### comprehensions of two clauses -/
theorem ev_varO {sl : List (Option R)} {os : List (Option Cell)} {i : Nat} {Q : D → Sx → Prop} (h : ∃ j cs, sl[i]? = some (some (.own j)) ∧ os[j]? = some (some (.lst cs)) ∧ Q (.list cs) ⟨sl.set i (some (.dat (.list cs))), os.set j none⟩) : Ev (gVar i ⟨sl, os⟩) Q := by
  obtain ⟨j, cs, e1, e2, h⟩ := h
  exact ⟨_, _, by unfold gVar; simp only [e1, e2], h⟩
theorem ed_pick {Q P : D → Prop} {xs : List D} {i : Int} (h0 : 0 ≤ i) (h1 : i < xs.length) (hp : ∀ x ∈ xs, P x) (h : ∀ x, P x → Q x) : Ed (dIx (.list xs) (.int i)) Q := by
  have hl : i.toNat < xs.length := by omega
  exact ed_ixL h0 (List.getElem?_eq_getElem hl) (h _ (hp _ (List.getElem_mem hl)))
theorem ed_pickS {Q : D → Prop} {P : Nat → Prop} {x : Str} {i : Int} (h0 : 0 ≤ i) (h1 : i < x.length) (hp : ∀ c ∈ x.cps.toList, P c) (h : ∀ c, P c → Q (ch c)) : Ed (dIx (.str x) (.int i)) Q := by
  have hl : i.toNat < x.cps.toList.length := by
    have : x.cps.toList.length = x.length := Array.length_toList
    omega
  exact ed_ixS h0 (List.getElem?_eq_getElem hl) (h _ (hp _ (List.getElem_mem hl)))
open Classical in
open Classical in
theorem ed_eq_good {Q : D → Prop} {d e : D} {m n : Nat} (g : Good m d) (k : Good n e) (q1 : d = e → Q (.bool true)) (q2 : d ≠ e → Q (.bool false)) (l1 : m ≤ 64 := by decide) (l2 : n ≤ 64 := by decide) : Ed (dEq d e) Q := by
  refine Ed.of (dEq_good g k l1 l2) ?_
  by_cases x : d = e
  · rw [decide_eq_true x]; exact q1 x
  · rw [decide_eq_false x]; exact q2 x
/-! ### comprehensions whose item changes the lists -/
theorem turns_io {gg : D → Sx → Option Sx} {ge : M D} {vs : List Nat} {w : List (Option R)} (J : Nat → List (Option Cell) → Prop) (P : Nat → D → Prop) :
    ∀ (ds : List D) (n : Nat) (sl : List (Option R)) (os : List (Option Cell)), wipeS sl vs = w → J n os → (∀ i d os, ds[i]? = some d → J (n + i) os → ∃ S1, gg d ⟨w, os⟩ = some S1 ∧ ∃ e S2, ge S1 = some (e, S2) ∧ wipeS S2.sl vs = w ∧ P (n + i) e ∧ J (n + i + 1) S2.os) →
      ∃ es sl' os', wipeS sl' vs = w ∧ gTurns gg gYes ge vs ds ⟨sl, os⟩ = some (es, ⟨sl', os'⟩) ∧ es.length = ds.length ∧ (∀ i e, es[i]? = some e → P (n + i) e) ∧ J (n + ds.length) os'
  | [], n, sl, os, e, h0, _ => ⟨[], sl, os, e, rfl, rfl, fun i e h => by simp at h, h0⟩
  | d :: ds, n, sl, os, e, h0, h => by
    obtain ⟨S1, h1, x, ⟨sl2, os2⟩, h2, h3, h4, h5⟩ := h 0 d os rfl h0
    obtain ⟨es, sl', os', e1, e2, e3, e4, e5⟩ := turns_io J P ds (n + 1) sl2 os2 h3 h5 fun i y os hy hj => by
      have := h (i + 1) y os (by simpa using hy) (by rwa [show n + (i + 1) = n + 1 + i by omega])
      rwa [show n + (i + 1) = n + 1 + i by omega] at this
    refine ⟨x :: es, sl', os', e1, ?_, by simp [e3], ?_, by rwa [show n + (d :: ds).length = n + 1 + ds.length by simp; omega]⟩
    · rw [gTurns]
      simp only [e, h1, Option.bind_some, gYes, h2, e2, if_true]
    · intro i y hy
      cases i with
      | zero => simp at hy; subst hy; exact h4
      | succ i => 
        have := e4 i y (by simpa using hy)
        rwa [show n + 1 + i = n + (i + 1) by omega] at this
theorem ev_lcIO {S : Sx} {Q : D → Sx → Prop} {gi : M (List D)} {gg : D → Sx → Option Sx} {ge : M D} {vs : List Nat} (J : Nat → List (Option Cell) → Prop) (P : Nat → D → Prop)
    (h : Ev (gi S) fun ds S1 => J 0 S1.os ∧ (∀ i d os, ds[i]? = some d → J i os → Es (gg d ⟨wipeS S1.sl vs, os⟩) fun S2 => Ev (ge S2) fun e S4 => wipeS S4.sl vs = wipeS S1.sl vs ∧ P i e ∧ J (i + 1) S4.os) ∧
      (∀ es os, es.length = ds.length → (∀ i e, es[i]? = some e → P i e) → J ds.length os → Q (.list es) ⟨S1.sl, os⟩)) : Ev (gLc gi gg gYes ge vs S) Q := by
  obtain ⟨ds, ⟨sl1, os1⟩, e1, h0, h1, q⟩ := h
  obtain ⟨es, sl', os', e', ht, e2, e3, e4⟩ := turns_io (gg := gg) (ge := ge) (vs := vs) J P ds 0 sl1 os1 rfl h0 fun i d os hd hj => by
    rw [Nat.zero_add] at hj ⊢
    obtain ⟨S2, h2, e, S4, h4, h5⟩ := h1 i d os hd hj
    exact ⟨S2, h2, e, S4, h4, h5⟩
  refine ⟨_, _, ?_, q es os' e2 (fun i e h => by have := e3 i e h; rwa [Nat.zero_add] at this) (by rwa [Nat.zero_add] at e4)⟩
  unfold gLc
  rw [e1]
  simp only [Option.bind_some, ht, backS_same e']
theorem ev_zip {S : Sx} {L : List D → Sx → Prop} {g : M (List D)} (h : Ev (g S) fun ds S1 => (∃ xs ys, ds = [.list xs, .list ys] ∧ L (zipD xs ys) S1) ∨ (∃ xs ys, ds = [.tuple xs, .tuple ys] ∧ L (zipD xs ys) S1)) : Ev (gZip g S) L := by
  obtain ⟨ds, S1, e1, h⟩ := h
  rcases h with ⟨xs, ys, rfl, h⟩ | ⟨xs, ys, rfl, h⟩
  · exact ⟨_, _, by simp only [gZip, e1, Option.bind_some], h⟩
  · exact ⟨_, _, by simp only [gZip, e1, Option.bind_some], h⟩
theorem zipD_map {α β : Type} (f : α → D) (g : β → D) : ∀ (xs : List α) (ys : List β), zipD (xs.map f) (ys.map g) = (xs.zip ys).map fun p => .tuple [f p.1, g p.2]
  | [], _ => rfl
  | _ :: _, [] => rfl
  | x :: xs, y :: ys => by
    rw [List.map_cons, List.map_cons, zipD, zipD_map f g xs ys]; rfl
/-! ### how many unlike ones -/
theorem dedup_len : ∀ (l acc : List Int), acc.Nodup → (l.foldl PyProof.Rows.step_dedup acc).length ≤ acc.length + l.length ∧ ((l.foldl PyProof.Rows.step_dedup acc).length = acc.length + l.length ↔ (acc ++ l).Nodup)
  | [], acc, h => by simp [h]
  | x :: l, acc, h => by
    simp only [List.foldl_cons, PyProof.Rows.step_dedup]
    by_cases hx : acc.any (· == x) = true
    · rw [if_pos hx]
      obtain ⟨h1, h2⟩ := dedup_len l acc h
      refine ⟨by simp only [List.length_cons]; omega, ⟨fun e => ?_, fun e => ?_⟩⟩
      · simp only [List.length_cons] at e; omega
      · exfalso
        obtain ⟨y, hy, e2⟩ := List.any_eq_true.mp hx
        have e2 : y = x := by simpa using e2
        subst e2
        exact (List.nodup_append.mp e).2.2 y hy y List.mem_cons_self rfl
    · rw [if_neg hx]
      have hm : x ∉ acc := fun z => hx (List.any_eq_true.mpr ⟨x, z, by simp⟩)
      have hn : (acc ++ [x]).Nodup := by
        rw [List.nodup_append]
        exact ⟨h, by simp, fun a ha b hb => by rw [List.mem_singleton.mp hb]; exact fun e => hm (e ▸ ha)⟩
      obtain ⟨h1, h2⟩ := dedup_len l (acc ++ [x]) hn
      simp only [List.length_append, List.length_cons, List.length_nil, List.append_assoc, List.cons_append, List.nil_append] at h1 h2 ⊢
      refine ⟨by omega, ?_⟩
      rw [← h2]
      constructor <;> intro e <;> omega
theorem unlike_iff {ns : List Int} : unlike ns = ns.length ↔ ns.Nodup := by
  have e : (List.range ns.length).map (fun i => ns.getD i 0) = ns := by
    apply List.ext_getElem?
    intro i
    rw [List.getElem?_map]
    by_cases h : i < ns.length
    · rw [List.getElem?_range h]
      simp [List.getD_eq_getElem?_getD, h]
    · rw [List.getElem?_eq_none (by simpa using h), List.getElem?_eq_none (by omega)]; rfl
  unfold unlike PyProof.Rows.firstMet
  rw [e]
  have := (dedup_len ns [] (by simp)).2
  simpa using this
theorem ed_lenSet {Q : D → Prop} {ns : List Int} (l : ns.length ≤ 4000) (h : Q (.int (unlike ns : Nat))) : Ed (dLenSet (.list (ns.map .int))) Q := ⟨_, by simp only [dLenSet, allInts_of, Option.bind_some, if_pos l], h⟩
theorem ed_rev {Q : D → Prop} {xs : List D} (h : Q (.list xs.reverse)) : Ed (dRevL (.list xs)) Q := ⟨_, rfl, h⟩
theorem ev_listRng1 {S : Sx} {Q : D → Sx → Prop} {g : M D} (h : Ev (g S) fun d S1 => ∃ n : Int, d = .int n ∧ -4611686018427387904 ≤ n ∧ n ≤ 16777216 ∧ Q (.list (rng 0 n.toNat)) S1) : Ev (gListRng1 g S) Q := by
  obtain ⟨ds, S1, e1, n, rfl, l1, l2, q⟩ := h
  exact ⟨_, S1, by simp only [gListRng1, e1, Option.bind_some]; rw [if_pos ⟨by omega, by omega⟩], q⟩
theorem ev_OL {sl : List (Option R)} {os : List (Option Cell)} {i : Nat} {f : D → D → Option D} {gb : M D} {Q : D → Sx → Prop} (h : ∃ j cs0, sl[i]? = some (some (.own j)) ∧ os[j]? = some (some (.lst cs0)) ∧ Ev (gb ⟨sl, os⟩) fun d S1 => ∃ cs, S1.os[j]? = some (some (.lst cs)) ∧ Ed (f (.list cs) d) fun z => ∃ b, z = .bool b ∧ Q (.bool b) S1) : Ev (gOL f i gb ⟨sl, os⟩) Q := by
  obtain ⟨j, cs0, h1, h2, d, S1, e1, cs, h3, z, e2, b, rfl, q⟩ := h
  exact ⟨_, _, by simp only [gOL, ownOf, cellOf, h1, h2, e1, h3, e2, Option.bind_some], q⟩
theorem ev_OR {S : Sx} {i : Nat} {f : D → D → Option D} {gb : M D} {Q : D → Sx → Prop} (h : Ev (gb S) fun d S1 => ∃ j cs, S1.sl[i]? = some (some (.own j)) ∧ S1.os[j]? = some (some (.lst cs)) ∧ Ed (f d (.list cs)) fun z => ∃ b, z = .bool b ∧ Q (.bool b) S1) : Ev (gOR f gb i S) Q := by
  obtain ⟨d, S1, e1, j, cs, h1, h2, z, e2, b, rfl, q⟩ := h
  exact ⟨_, _, by simp only [gOR, ownOf, cellOf, h1, h2, e1, e2, Option.bind_some], q⟩
theorem ev_popAt {S : Sx} {i : Nat} {ge : M D} {Q : D → Sx → Prop} (hi : ∃ j cs0, S.sl[i]? = some (some (.own j)) ∧ S.os[j]? = some (some (.lst cs0)) ∧ Ev (ge S) fun d S1 => ∃ cs n, S1.os[j]? = some (some (.lst cs)) ∧ d = .int n ∧ 0 ≤ n ∧ ∃ e, cs[n.toNat]? = some e ∧ Q e ⟨S1.sl, S1.os.set j (some (.lst (cs.eraseIdx n.toNat)))⟩) : Ev (gPopAt i ge S) Q := by
  obtain ⟨j, cs0, h1, h2, d, S1, e1, cs, n, h3, rfl, n0, e, he, q⟩ := hi
  have hl := (List.getElem?_eq_some_iff.mp he).1
  refine ⟨e, _, ?_, q⟩
  simp only [gPopAt, ownOf, cellOf, h1, h2, e1, h3, Option.bind_some, setCell]
  rw [if_pos ⟨n0, by omega⟩, he]; rfl
theorem ev_rep {S : Sx} {f : D → D → Option D} {ga gb : M D} {Q : D → Sx → Prop} (h : Ev (gBin f ga gb S) fun d S1 => ∃ ds, d = .list ds ∧ Q (.list ds) S1) : Ev (gRep f ga gb S) Q := by
  obtain ⟨d, S1, e1, ds, rfl, q⟩ := h
  exact ⟨_, _, by simp only [gRep, e1, Option.bind_some], q⟩
theorem ed_mulL {Q : D → Prop} {xs : List D} {k : Int} (k0 : 0 ≤ k) (k1 : k ≤ 16777216) (l : xs.length * k.toNat ≤ 16777216) (h : Q (.list (List.replicate k.toNat xs).flatten)) : Ed (dMul (.list xs) (.int k)) Q := ⟨_, by
  simp only [dMul, line_eq]
  rw [if_pos ⟨by omega, by omega, l⟩], h⟩
theorem rep_one (d : D) : ∀ n : Nat, (List.replicate n [d]).flatten = List.replicate n d
  | 0 => rfl
  | n + 1 => by rw [List.replicate_succ, List.replicate_succ, List.flatten_cons, rep_one d n]; rfl
theorem ed_atLast {xs : List D} {d : D} {Q : D → Prop} (e : xs.getLast? = some d) (q : Q d) : Ed (L2.atI xs (-1)) Q := by
  refine ⟨d, ?_, q⟩
  have h0 : 0 < xs.length := by
    cases xs with
    | nil => simp at e
    | cons x xs => simp
  unfold L2.atI L2.ixN
  rw [if_neg (by decide), if_pos (by omega)]
  show xs[((-1 : Int) + (xs.length : Int)).toNat]? = _
  rw [show ((-1 : Int) + (xs.length : Int)).toNat = xs.length - 1 by omega, ← List.getLast?_eq_getElem?]
  exact e
end Fu

set_option maxHeartbeats 16000000
namespace Lw
open PySem PySem.Spec PyProof.Rows L2 RZ Fu
def g_is_whole : Sx → Option Out :=
  (qRet (gAndV (gIsi "int" (gVar 0)) (gAndV (gNotV (gIsi "bool" (gVar 0))) (gBin dGe (gVar 0) (gC (.int 0))))))
def m_is_whole := mF 1 g_is_whole
def g_is_row : Sx → Option Out :=
  (qRet (gAndV (gIsi2 "list" "tuple" (gVar 0)) (gBin dEq (gCall dLen (gCons (gVar 0) gNil)) (gVar 1))))
def m_is_row := mF 2 g_is_row
def g_place_of : Sx → Option Out :=
  (qRet (gBin dIx (gBin dIx (gBin dIx (gVar 0) (gC (.int 1))) (gBin dIx (gVar 1) (gC (.int 0)))) (gBin dIx (gVar 1) (gC (.int 1)))))
def m_place_of := mF 2 g_place_of
def g_is_end : Sx → Option Out :=
  (qSeq (qIf (gOr (gNot (gB (gCallF 2 m_is_row (gCons (gVar 1) (gCons (gC (.int 2)) gNil))))) (gOr (gNot (gB (gCallF 1 m_is_whole (gCons (gBin dIx (gVar 1) (gC (.int 0))) gNil)))) (gNot (gB (gCallF 1 m_is_whole (gCons (gBin dIx (gVar 1) (gC (.int 1))) gNil)))))) (qRet (gC (.bool false))) qNx) (qRet (gAndV (gBin dLt (gBin dIx (gVar 1) (gC (.int 0))) (gCall dLen (gCons (gBin dIx (gVar 0) (gC (.int 1))) gNil))) (gBin dLt (gBin dIx (gVar 1) (gC (.int 1))) (gC (.int 2))))))
def m_is_end := mF 2 g_is_end
def g_company_of : Sx → Option Out :=
  (qRet (gBin dIx (gBin dIx (gBin dIx (gVar 0) (gC (.int 1))) (gBin dIx (gVar 1) (gC (.int 0)))) (gC (.int 2))))
def m_company_of := mF 2 g_company_of
def g__law_spring : Sx → Option Out :=
  (qSeq (qSet 1 (gC (.int 0))) (qSeq (qSet 2 (gC (.int 88651))) (qSeq (qFor (gItems (gScrSl 0 gNo (gSo (gC (.int 63))))) (sName 3) (qSeq (qIf (gB (gBin dGe (gCall dAbs (gCons (gVar 3) gNil)) (gBin dPow (gC (.int 10)) (gC (.int 18))))) (qSet 1 (gBin dAdd (gBin dMul (gVar 1) (gBin dPow (gC (.int 10)) (gC (.int 60)))) (gBin dMod (gCall dAbs (gCons (gVar 3) gNil)) (gBin dPow (gC (.int 10)) (gC (.int 60)))))) qNx) (qSet 2 (gBin dMod (gBin dAdd (gBin dAdd (gBin dMul (gVar 2) (gC (.int 69069))) (gBin dMod (gVar 3) (gC (.int 2305843009213693921)))) (gC (.int 7))) (gC (.int 2305843009213693951)))))) (qRetO (gLst (gCons (gVar 1) (gCons (gVar 2) (gCons (gC (.int 0)) gNil))))))))
def m__law_spring := mScrN 4 g__law_spring
def g__law_draw_k15 : Sx → Option Out :=
  (qSeq (qIf (gB (gBin dGt (gIxO 0 (gC (.int 0))) (gC (.int 0)))) (qSeq (qSet 2 (gBin dMod (gIxO 0 (gC (.int 0))) (gVar 1))) (qSeq (qSetO 0 (gC (.int 0)) (gBin dDiv (gIxO 0 (gC (.int 0))) (gVar 1))) (qRet (gVar 2)))) qNx) (qSeq (qSetO 0 (gC (.int 2)) (gBin dAdd (gIxO 0 (gC (.int 2))) (gC (.int 1)))) (qSeq (qSet 3 (gBin dMod (gBin dMul (gIxO 0 (gC (.int 1))) (gIxO 0 (gC (.int 1)))) (gC (.int 2305843009213693951)))) (qSeq (qSetO 0 (gC (.int 1)) (gBin dMod (gBin dAdd (gBin dAdd (gVar 3) (gBin dMul (gBin dMul (gC (.int 7919)) (gIxO 0 (gC (.int 2)))) (gIxO 0 (gC (.int 1))))) (gC (.int 104729))) (gC (.int 2305843009213693951)))) (qRet (gBin dMod (gBin dDiv (gIxO 0 (gC (.int 1))) (gC (.int 65537))) (gVar 1)))))))
def m__law_draw_k15 := mIO 4 g__law_draw_k15
def g__law_circle : Sx → Option Out :=
  (qSeq (qSet 4 (gLc (gRng1 (gCons (gVar 1) gNil)) (sName 6) gYes (gIO 0 1 m__law_draw_k15 (gCons (gVar 2) gNil)) [6])) (qSeq (qOwn 5 (gLst gNil)) (qSeq (qFor (gRng1 (gCons (gVar 1) gNil)) (sName 6) (qSeq (qSet 7 (gLc (gItems (gC (.str "abcd"))) (sName 14) (gOr (gB (gOL dEq 5 (gLst gNil))) (gB (gBin dNe (gVar 14) (gIxO 5 (gUn dNeg (gC (.int 1))))))) (gVar 14) [14])) (qSeq (qIf (gB (gBin dEq (gVar 6) (gBin dSub (gVar 1) (gC (.int 1))))) (qSet 7 (gLc (gItems (gVar 7)) (sName 14) (gB (gBin dNe (gVar 14) (gIxO 5 (gC (.int 0))))) (gVar 14) [14])) qNx) (qDrop (gApp 5 (gBin dIx (gVar 7) (gIO 0 1 m__law_draw_k15 (gCons (gCall dLen (gCons (gVar 7) gNil)) gNil)))))))) (qSeq (qOwn 8 (gListRng1 (gVar 1))) (qSeq (qOwn 9 (gRep dMul (gLst (gCons (gC .none) gNil)) (gVar 1))) (qSeq (qOwn 10 (gLst gNil)) (qSeq (qFor (gRng1 (gCons (gVar 1) gNil)) (sName 6) (qSeq (qSet 11 (gPopAt 8 (gIO 0 1 m__law_draw_k15 (gCons (gLenO 8) gNil)))) (qSeq (qSet 12 (gIO 0 1 m__law_draw_k15 (gCons (gC (.int 2)) gNil))) (qSeq (qSet 13 (gLst (gCons (gBin dIx (gVar 4) (gVar 6)) (gCons (gBin dIx (gVar 4) (gBin dMod (gBin dAdd (gVar 6) (gC (.int 1))) (gVar 1))) gNil)))) (qSeq (qSetO 9 (gVar 11) (gTup (gCons (gBin dIx (gVar 13) (gVar 12)) (gCons (gBin dIx (gVar 13) (gBin dSub (gC (.int 1)) (gVar 12))) (gCons (gIxO 5 (gVar 6)) gNil))))) (qDrop (gApp 10 (gTup (gCons (gBin dAdd (gVar 3) (gVar 11)) (gCons (gVar 12) gNil)))))))))) (qRet (gTup (gCons (gVar 9) (gCons (gVar 10) gNil)))))))))))
def m__law_circle := mIO 15 g__law_circle
def g__law_planted : Sx → Option Out :=
  (qSeq (qSet 2 (gBin dAdd (gC (.int 1)) (gIO 0 1 m__law_draw_k15 (gCons (gBin dIx (gLst (gCons (gC (.int 2)) (gCons (gC (.int 5)) (gCons (gC (.int 20)) gNil)))) (gIO 0 1 m__law_draw_k15 (gCons (gC (.int 3)) gNil))) gNil)))) (qSeq (qAsg (sTup 2 (sCons (sName 3) (sCons (sName 4) sNil))) (gIO 0 3 m__law_circle (gCons (gBin dAdd (gC (.int 2)) (gIO 0 1 m__law_draw_k15 (gCons (gBin dSub (gVar 1) (gC (.int 1))) gNil))) (gCons (gVar 2) (gCons (gC (.int 0)) gNil))))) (qSeq (qSet 5 (gLc (gRng1 (gCons (gIO 0 1 m__law_draw_k15 (gCons (gC (.int 7)) gNil)) gNil)) (sName 6) gYes (gTup (gCons (gIO 0 1 m__law_draw_k15 (gCons (gVar 2) gNil)) (gCons (gIO 0 1 m__law_draw_k15 (gCons (gVar 2) gNil)) (gCons (gBin dIx (gC (.str "abcz")) (gIO 0 1 m__law_draw_k15 (gCons (gC (.int 4)) gNil))) gNil)))) [6])) (qRet (gTup (gCons (gTup (gCons (gVar 2) (gCons (gCall dTuple (gCons (gBin dAdd (gVar 3) (gVar 5)) gNil)) gNil))) (gCons (gVar 4) gNil)))))))
def m__law_planted := mIO 7 g__law_planted
def g__law_at : Sx → Option Out :=
  (qRet (gBin dIx (gBin dIx (gBin dIx (gVar 0) (gC (.int 1))) (gBin dIx (gVar 1) (gC (.int 0)))) (gBin dIx (gVar 1) (gC (.int 1)))))
def m__law_at := mF 2 g__law_at
def g__law_other : Sx → Option Out :=
  (qRet (gTup (gCons (gBin dIx (gVar 0) (gC (.int 0))) (gCons (gBin dSub (gC (.int 1)) (gBin dIx (gVar 0) (gC (.int 1)))) gNil))))
def m__law_other := mF 1 g__law_other
def g__law_goes : Sx → Option Out :=
  (qSeq (qIf (gB (gBin dNe (gCallF 2 m__law_at (gCons (gVar 0) (gCons (gCallF 1 m__law_other (gCons (gVar 1) gNil)) gNil))) (gCallF 2 m__law_at (gCons (gVar 0) (gCons (gVar 2) gNil))))) (qRet (gC (.bool false))) qNx) (qRet (gBin dNe (gBin dIx (gBin dIx (gBin dIx (gVar 0) (gC (.int 1))) (gBin dIx (gVar 1) (gC (.int 0)))) (gC (.int 2))) (gBin dIx (gBin dIx (gBin dIx (gVar 0) (gC (.int 1))) (gBin dIx (gVar 2) (gC (.int 0)))) (gC (.int 2))))))
def m__law_goes := mF 3 g__law_goes
def g__law_is_end_k15 : Sx → Option Out :=
  (qSeq (qIf (gOr (gNot (gB (gIsi2 "list" "tuple" (gVar 1)))) (gB (gBin dNe (gCall dLen (gCons (gVar 1) gNil)) (gC (.int 2))))) (qRet (gC (.bool false))) qNx) (qSeq (qIf (gB (gBin dNe (gLc (gItems (gVar 1)) (sName 2) (gOr (gB (gIsi "bool" (gVar 2))) (gNot (gB (gIsi "int" (gVar 2))))) (gVar 2) [2]) (gLst gNil))) (qRet (gC (.bool false))) qNx) (qRet (gAndV (gChain dLe dLt (gC (.int 0)) (gBin dIx (gVar 1) (gC (.int 0))) (gCall dLen (gCons (gBin dIx (gVar 0) (gC (.int 1))) gNil))) (gChain dLe dLe (gC (.int 0)) (gBin dIx (gVar 1) (gC (.int 1))) (gC (.int 1)))))))
def m__law_is_end_k15 := mF 3 g__law_is_end_k15
def g__law_is_ride : Sx → Option Out :=
  (qSeq (qIf (gOr (gNot (gB (gIsi2 "list" "tuple" (gVar 1)))) (gB (gBin dEq (gCall dLen (gCons (gVar 1) gNil)) (gC (.int 0))))) (qRet (gC (.bool false))) qNx) (qSeq (qIf (gB (gBin dNe (gLc (gItems (gVar 1)) (sName 3) (gNot (gB (gCallF 2 m__law_is_end_k15 (gCons (gVar 0) (gCons (gVar 3) gNil))))) (gVar 3) [3]) (gLst gNil))) (qRet (gC (.bool false))) qNx) (qSeq (qSet 2 (gLc (gItems (gVar 1)) (sName 3) gYes (gBin dIx (gVar 3) (gC (.int 0))) [3])) (qSeq (qIf (gB (gBin dNe (gLc (gItems (gVar 2)) (sName 4) (gB (gBin dGt (gBin dCount (gVar 2) (gVar 4)) (gC (.int 1)))) (gVar 4) [4]) (gLst gNil))) (qRet (gC (.bool false))) qNx) (qRet (gBin dEq (gLc (gRng2 (gCons (gC (.int 1)) (gCons (gCall dLen (gCons (gVar 1) gNil)) gNil))) (sName 5) (gNot (gB (gCallF 3 m__law_goes (gCons (gVar 0) (gCons (gBin dIx (gVar 1) (gBin dSub (gVar 5) (gC (.int 1)))) (gCons (gBin dIx (gVar 1) (gVar 5)) gNil)))))) (gVar 5) [5]) (gLst gNil)))))))
def m__law_is_ride := mF 6 g__law_is_ride
def g_far_end : Sx → Option Out :=
  (qRet (gTup (gCons (gBin dIx (gVar 0) (gC (.int 0))) (gCons (gBin dSub (gC (.int 1)) (gBin dIx (gVar 0) (gC (.int 1)))) gNil))))
def m_far_end := mF 1 g_far_end
def g_can_go_on : Sx → Option Out :=
  (qSeq (qIf (gB (gBin dNe (gCallF 2 m_place_of (gCons (gVar 0) (gCons (gCallF 1 m_far_end (gCons (gVar 1) gNil)) gNil))) (gCallF 2 m_place_of (gCons (gVar 0) (gCons (gVar 2) gNil))))) (qRet (gC (.bool false))) qNx) (qRet (gBin dNe (gCallF 2 m_company_of (gCons (gVar 0) (gCons (gVar 1) gNil))) (gCallF 2 m_company_of (gCons (gVar 0) (gCons (gVar 2) gNil))))))
def m_can_go_on := mF 3 g_can_go_on
def g_ride_is : Sx → Option Out :=
  (qSeq (qIf (gOr (gNot (gB (gIsi2 "list" "tuple" (gVar 1)))) (gOr (gB (gBin dEq (gCall dLen (gCons (gVar 1) gNil)) (gC (.int 0)))) (gNot (gB (gCall dAll (gCons (gLc (gItems (gVar 1)) (sName 2) gYes (gCallF 2 m_is_end (gCons (gVar 0) (gCons (gVar 2) gNil))) [2]) gNil)))))) (qRet (gC (.bool false))) qNx) (qSeq (qIf (gB (gBin dNe (gUn dLenSet (gLc (gItems (gVar 1)) (sName 2) gYes (gBin dIx (gVar 2) (gC (.int 0))) [2])) (gCall dLen (gCons (gVar 1) gNil)))) (qRet (gC (.bool false))) qNx) (qRet (gCall dAll (gCons (gLc (gZip (gCons (gVar 1) (gCons (gSl (gVar 1) (gSo (gC (.int 1))) gNo) gNil))) (sTup 2 (sCons (sName 2) (sCons (sName 3) sNil))) gYes (gCallF 3 m_can_go_on (gCons (gVar 0) (gCons (gVar 2) (gCons (gVar 3) gNil)))) [2, 3]) gNil)))))
def m_ride_is := mF 4 g_ride_is
def g_round_is : Sx → Option Out :=
  (qRet (gAndV (gCallF 2 m_ride_is (gCons (gVar 0) (gCons (gVar 1) gNil))) (gCallF 3 m_can_go_on (gCons (gVar 0) (gCons (gBin dIx (gVar 1) (gUn dNeg (gC (.int 1)))) (gCons (gBin dIx (gVar 1) (gC (.int 0))) gNil))))))
def m_round_is := mF 2 g_round_is
def g__law_is_round : Sx → Option Out :=
  (qRet (gAndV (gCallF 2 m__law_is_ride (gCons (gVar 0) (gCons (gVar 1) gNil))) (gCallF 3 m__law_goes (gCons (gVar 0) (gCons (gBin dIx (gVar 1) (gUn dNeg (gC (.int 1)))) (gCons (gBin dIx (gVar 1) (gC (.int 0))) gNil))))))
def m__law_is_round := mF 2 g__law_is_round
def g_need_ride_Z : Sx → Option (Zr Out) :=
  (zSeq (zIf (gNot (gB (gCallF 2 m_ride_is (gCons (gVar 0) (gCons (gVar 1) gNil))))) (zRaise "NoRide") (zS qNx)) (zS (qRet (gLc (gItems (gVar 1)) (sName 2) gYes (gCall dTuple (gCons (gVar 2) gNil)) [2]))))
def m_need_ride_Z := mZ 3 g_need_ride_Z
def g_faced_about : Sx → Option Out :=
  (qRet (gLc (gItems (gUn dRevL (gVar 0))) (sName 1) gYes (gCallF 1 m_far_end (gCons (gVar 1) gNil)) [1]))
def m_faced_about := mF 2 g_faced_about
def g_all_ways : Sx → Option Out :=
  (qSeq (qOwn 1 (gLst gNil)) (qSeq (qFor (gItems (gTup (gCons (gVar 0) (gCons (gCallF 1 m_faced_about (gCons (gVar 0) gNil)) gNil)))) (sName 2) (qDrop (gExt 1 (gLc (gRng1 (gCons (gCall dLen (gCons (gVar 2) gNil)) gNil)) (sName 3) gYes (gBin dAdd (gSl (gVar 2) (gSo (gVar 3)) gNo) (gSl (gVar 2) gNo (gSo (gVar 3)))) [3])))) (qRet (gVar 1))))
def m_all_ways := mF 4 g_all_ways
def g_places_along : Sx → Option Out :=
  (qRet (gBin dAdd (gLc (gItems (gVar 1)) (sName 2) gYes (gCallF 2 m_place_of (gCons (gVar 0) (gCons (gVar 2) gNil))) [2]) (gLst (gCons (gCallF 2 m_place_of (gCons (gVar 0) (gCons (gCallF 1 m_far_end (gCons (gBin dIx (gVar 1) (gUn dNeg (gC (.int 1)))) gNil)) gNil))) gNil))))
def m_places_along := mF 3 g_places_along
def g_need_round_Z : Sx → Option (Zr Out) :=
  (zSeq (zIf (gNot (gB (gCallF 2 m_round_is (gCons (gVar 0) (gCons (gVar 1) gNil))))) (zRaise "NoRide") (zS qNx)) (zS (qRet (gLc (gItems (gVar 1)) (sName 2) gYes (gCall dTuple (gCons (gVar 2) gNil)) [2]))))
def m_need_round_Z := mZ 3 g_need_round_Z
def g__law_word_k21 : Sx → Option Out :=
  (qSeq (qIf (gNot (gB (gIsE 0 ["NoRide", "NoNumber"] fun _ => true))) (qRet (gC (.str "odd"))) qNx) (qSeq (qSet 1 (gLst (gCons (gIsE 0 ["NoRide", "NoNumber"] fun c => decide (c = "NoRide")) (gCons (gIsE 0 ["NoRide", "NoNumber"] fun c => decide (c = "NoNumber")) gNil)))) (qSeq (qIf (gB (gIsE 0 ["NoRide", "NoNumber"] fun c => (decide (c = "NoCompany") || (decide (c = "NoEnd") || (decide (c = "NoForm") || (decide (c = "NoLine") || (decide (c = "NoPlace") || (decide (c = "NoText") || (decide (c = "NoTurning") || (decide (c = "NoWeb") || (decide (c = "NoneYet") || (decide (c = "TooMany") || false)))))))))))) (qRet (gC (.str "odd"))) qNx) (qRet (gIf (gB (gBin dEq (gBin dCount (gVar 1) (gC (.bool true))) (gC (.int 1)))) (gBin dIx (gLst (gCons (gC (.str "NoRide")) (gCons (gC (.str "NoNumber")) gNil))) (gBin dIndex (gVar 1) (gC (.bool true)))) (gC (.str "odd")))))))
def m__law_word_k21 := mX 2 g__law_word_k21
def g_begun_at_Z : Sx → Option (Zr Out) :=
  (zSeq (zSet 3 (zCall 2 m_need_round_Z (gCons (gVar 0) (gCons (gVar 1) gNil)))) (zSeq (zIf (gOr (gNot (gB (gCallF 1 m_is_whole (gCons (gVar 2) gNil)))) (gB (gBin dGe (gVar 2) (gCall dLen (gCons (gVar 3) gNil))))) (zRaise "NoNumber") (zS qNx)) (zS (qRet (gBin dAdd (gSl (gVar 3) (gSo (gVar 2)) gNo) (gSl (gVar 3) gNo (gSo (gVar 2))))))))
def m_begun_at_Z := mZ 4 g_begun_at_Z
def g_least_round_Z : Sx → Option (Zr Out) :=
  (zRet (zCallB (dPick PySem.W.minD) (zOne (zCallF 1 m_all_ways (zOne (zCall 2 m_need_round_Z (gCons (gVar 0) (gCons (gVar 1) gNil))))))))
def m_least_round_Z := mZ 2 g_least_round_Z
def g_about_Z_k21 : Sx → Option (Zr Out) :=
  (zRet (zCallF 1 m_faced_about (zOne (zCall 2 m_need_ride_Z (gCons (gVar 0) (gCons (gVar 1) gNil))))))
def m_about_Z_k21 := mZ 2 g_about_Z_k21
def g_places_of_Z_k21 : Sx → Option (Zr Out) :=
  (zRet (zCallF 2 m_places_along (zCons (gVar 0) (zOne (zCall 2 m_need_ride_Z (gCons (gVar 0) (gCons (gVar 1) gNil)))))))
def m_places_of_Z_k21 := mZ 2 g_places_of_Z_k21
def g__law_asked_k21 : Sx → Option Out :=
  (qSeq (qSet 4 (gC .none)) (qSeq (qTry ["NoRide", "NoNumber"] 5 4 (zIf (gB (gBin dEq (gVar 0) (gC (.int 0)))) (zDrop (zCall 3 m_begun_at_Z (gCons (gVar 1) (gCons (gVar 2) (gCons (gVar 3) gNil))))) (zIf (gB (gBin dEq (gVar 0) (gC (.int 1)))) (zDrop (zCall 2 m_least_round_Z (gCons (gVar 1) (gCons (gVar 2) gNil)))) (zIf (gB (gBin dEq (gVar 0) (gC (.int 2)))) (zDrop (zCall 2 m_about_Z_k21 (gCons (gVar 1) (gCons (gVar 2) gNil)))) (zDrop (zCall 2 m_places_of_Z_k21 (gCons (gVar 1) (gCons (gVar 2) gNil)))))))) (qRet (gIf (gB (gIsN 4)) (gC (.str "none")) (gCallX 4 m__law_word_k21)))))
def m__law_asked_k21 := mF 6 g__law_asked_k21
end Lw

set_option maxHeartbeats 4000000
namespace Fu
open PySem
/-! ### comprehensions over typed items -/
theorem turns_typed {α : Type} {gg : D → Sx → Option Sx} {gt : M Bool} {ge : M D} {vs : List Nat} {b : α → Bool} {enc f : α → D} {w : List (Option R)} {os : List (Option Cell)} :
    ∀ (xs : List α) (sl : List (Option R)), wipeS sl vs = w → (∀ x ∈ xs, ∃ sl1, gg (enc x) ⟨w, os⟩ = some ⟨sl1, os⟩ ∧ wipeS sl1 vs = w ∧ gt ⟨sl1, os⟩ = some (b x, ⟨sl1, os⟩) ∧ (b x = true → ge ⟨sl1, os⟩ = some (f x, ⟨sl1, os⟩))) →
      ∃ sl', wipeS sl' vs = w ∧ gTurns gg gt ge vs (xs.map enc) ⟨sl, os⟩ = some ((xs.filter b).map f, ⟨sl', os⟩)
  | [], sl, e, _ => ⟨sl, e, rfl⟩
  | x :: xs, sl, e, h => by
    obtain ⟨sl1, h1, h2, h3, h4⟩ := h x List.mem_cons_self
    obtain ⟨sl', e', ih⟩ := turns_typed xs sl1 h2 fun y hy => h y (List.mem_cons_of_mem _ hy)
    refine ⟨sl', e', ?_⟩
    rw [List.map_cons, gTurns]
    simp only [e, h1, h3, Option.bind_some]
    cases hb : b x with
    | true => simp [h4 hb, ih, hb]
    | false => simp [ih, hb]
theorem ev_lcX {α : Type} {S : Sx} {Q : D → Sx → Prop} {gi : M (List D)} {gg : D → Sx → Option Sx} {gt : M Bool} {ge : M D} {vs : List Nat} {xs : List α} {enc : α → D} {b : α → Bool} {g : α → D}
    (h : Ev (gi S) fun ds S1 => ds = xs.map enc ∧ (∀ x ∈ xs, Es (gg (enc x) ⟨wipeS S1.sl vs, S1.os⟩) fun S2 => wipeS S2.sl vs = wipeS S1.sl vs ∧ S2.os = S1.os ∧ Ev (gt S2) fun c S3 => S3 = S2 ∧ c = b x ∧ (b x = true → Ev (ge S2) fun e S4 => e = g x ∧ S4 = S2)) ∧ Q (.list ((xs.filter b).map g)) S1) : Ev (gLc gi gg gt ge vs S) Q := by
  obtain ⟨ds, ⟨sl1, os1⟩, e1, rfl, h1, q⟩ := h
  obtain ⟨sl', e', ht⟩ := turns_typed (gg := gg) (gt := gt) (ge := ge) (b := b) (enc := enc) (f := g) xs sl1 rfl fun d hd => by
    obtain ⟨⟨sl2, os2⟩, e2, e3, e4, c, S3, e5, e6, e7, e8⟩ := h1 d hd
    cases e4
    subst e7 e6
    exact ⟨sl2, e2, e3, e5, fun hb => (e8 hb).eq⟩
  refine ⟨_, _, ?_, q⟩
  unfold gLc
  rw [e1]
  simp only [Option.bind_some, ht, backS_same e']
theorem ev_mapX {α : Type} {S : Sx} {Q : D → Sx → Prop} {gi : M (List D)} {gg : D → Sx → Option Sx} {ge : M D} {vs : List Nat} {xs : List α} {enc : α → D} {g : α → D}
    (h : Ev (gi S) fun ds S1 => ds = xs.map enc ∧ (∀ x ∈ xs, Es (gg (enc x) ⟨wipeS S1.sl vs, S1.os⟩) fun S2 => wipeS S2.sl vs = wipeS S1.sl vs ∧ S2.os = S1.os ∧ Ev (ge S2) fun e S4 => e = g x ∧ S4 = S2) ∧ Q (.list (xs.map g)) S1) : Ev (gLc gi gg gYes ge vs S) Q := by
  refine ev_lcX (xs := xs) (enc := enc) (b := fun _ => true) (g := g) ?_
  refine h.mono fun ds S1 h => ⟨h.1, fun d hd => ?_, by rw [List.filter_eq_self.mpr fun _ _ => rfl]; exact h.2.2⟩
  obtain ⟨S2, e2, e3, e4, e5⟩ := h.2.1 d hd
  exact ⟨S2, e2, e3, e4, ev_yes ⟨rfl, rfl, fun _ => e5⟩⟩
/-- loops over typed items -/
theorem eo_loopX {α : Type} {S : Sx} {Z : Out → Prop} {gg : D → Sx → Option Sx} {body : Sx → Option Out} {xs : List α} {enc : α → D} (I : Nat → Sx → Prop) (h0 : I 0 S) (hs : ∀ i x S, xs[i]? = some x → I i S → Es (gg (enc x) S) fun S1 => Eo (body S1) fun o => ∃ S2, o = .nx S2 ∧ I (i + 1) S2) (hz : ∀ S', I xs.length S' → Z (.nx S')) : Eo (gLoop gg body (xs.map enc) S) Z := by
  refine eo_loop I h0 (fun i d S hd hI => ?_) fun S' h => hz S' (by simpa using h)
  rw [List.getElem?_map] at hd
  obtain ⟨x, hx, rfl⟩ := Option.map_eq_some_iff.mp hd
  exact hs i x S hx hI
theorem rng_map (lo : Int) (n : Nat) : rng lo n = (List.range n).map fun i : Nat => .int (lo + (i : Int)) := rfl
/-! ### lists or tuples -/
def seqOf : D → Option (List D)
  | .list xs => some xs
  | .tuple xs => some xs
  | _ => none
def Sq (d : D) (xs : List D) : Prop := d = .list xs ∨ d = .tuple xs
theorem sq_l (xs : List D) : Sq (.list xs) xs := .inl rfl
theorem sq_t (xs : List D) : Sq (.tuple xs) xs := .inr rfl
theorem sq_of {d : D} {xs : List D} (h : seqOf d = some xs) : Sq d xs := by
  cases d <;> simp [seqOf] at h
  · exact .inl (by rw [h])
  · exact .inr (by rw [h])
theorem Sq.of {d : D} {xs : List D} (h : Sq d xs) : seqOf d = some xs := by rcases h with rfl | rfl <;> rfl
theorem isi_seq (d : D) : (isT "list" d || isT "tuple" d) = (seqOf d).isSome := by cases d <;> rfl
section
variable {Q : D → Prop} {d x : D} {xs : List D} {i : Int}
theorem ed_ixQ (s : Sq d xs) (h0 : 0 ≤ i) (e : xs[i.toNat]? = some x) (h : Q x) : Ed (dIx d (.int i)) Q := by
  rcases s with rfl | rfl
  · exact ed_ixL h0 e h
  · exact ed_ixT h0 e h
theorem ed_lenQ (s : Sq d xs) (h : Q (.int xs.length)) : Ed (dLen [d]) Q := by rcases s with rfl | rfl <;> exact ⟨_, rfl, h⟩
theorem ed_itQ {Q : List D → Prop} (s : Sq d xs) (h : Q xs) : Ed (itemsOf d) Q := by rcases s with rfl | rfl <;> exact ⟨_, rfl, h⟩
theorem ed_tupQ (s : Sq d xs) (h : Q (.tuple xs)) : Ed (dTuple [d]) Q := by rcases s with rfl | rfl <;> exact ⟨_, rfl, h⟩
end
theorem all_mapX {α : Type} (f : α → Bool) (xs : List α) {Q : D → Prop} (h : Q (.bool (xs.all f))) : Ed (dAll [.list (xs.map fun a => .bool (f a))]) Q := ⟨_, all_map f xs, h⟩
/-! ### looks -/
theorem sealS_none (os : List (Option Cell)) : sealS os none = none := rfl
theorem sealS_dat (os : List (Option Cell)) (d : D) : sealS os (some (.dat d)) = some (.dat d) := rfl
theorem sealS_scr (os : List (Option Cell)) (d : List Int) : sealS os (some (.scr d)) = some (.scr d) := rfl
def sealC (os : List (Option Cell)) : Option (Option Cell) → Option R
  | some (some (.lst ds)) => some (.dat (.list ds))
  | some (some (.lR rs)) => ((mapO (snapR os 7) rs).map .list).map .dat
  | _ => none
theorem sealS_own (os : List (Option Cell)) (j : Nat) : sealS os (some (.own j)) = sealC os os[j]? := by
  simp only [sealS, snapR]
  generalize os[j]? = c
  rcases c with _ | _ | c
  · rfl
  · rfl
  · cases c <;> rfl
theorem sealC_lst (os : List (Option Cell)) (ds : List D) : sealC os (some (some (.lst ds))) = some (.dat (.list ds)) := rfl
theorem sealAll_mk {sl sl' : List (Option R)} {os os' : List (Option Cell)} (h : sl.map (sealS os) = sl') (h2 : os.map (fun _ => none) = os') : sealAll ⟨sl, os⟩ = ⟨sl', os'⟩ := by unfold sealAll; rw [h, h2]
end Fu

set_option maxHeartbeats 4000000
namespace Lw
open PySem Fu
local macro_rules | `(tactic| walk_at "e1") => `(tactic| first
  | with_reducible refine eo_seq ?_ | (with_reducible refine then_nx' ?_; refine ⟨?_, ?_, ?_⟩; rotate_left; · (try dsimp only [List.set, List.length_cons, List.length_nil, List.cons_append, List.nil_append, Nat.zero_add, Nat.reduceAdd]); exact rfl) | with_reducible refine then_rt ?_ | with_reducible refine eo_if ?_ | with_reducible refine eo_ret ?_ | with_reducible refine eo_set ?_ | with_reducible refine eo_asg ?_ | with_reducible refine eo_drop ?_ | with_reducible refine eo_nx ?_ | with_reducible refine eo_par ?_ | with_reducible refine eo_own ?_ | with_reducible refine eo_retN ?_ | with_reducible refine eo_for ?_ | with_reducible refine eo_retO ?_
  | with_reducible refine ev_c ?_ | (with_reducible refine ev_var ?_; refine ⟨_, rfl, ?_⟩) | with_reducible refine ev_bin ?_ | with_reducible refine ev_un ?_ | with_reducible refine ev_nil ?_ | with_reducible refine ev_cons ?_
  | with_reducible refine ev_tup ?_ | with_reducible refine ev_lst ?_ | with_reducible refine ev_call ?_ | with_reducible refine ev_callF ?_ | with_reducible refine ev_isi ?_ | with_reducible refine ev_isi2 ?_ | with_reducible refine ev_andV ?_ | with_reducible refine ev_orV ?_ | with_reducible refine ev_notV ?_
  | with_reducible refine ev_B ?_ | with_reducible refine ev_and ?_ | with_reducible refine ev_or ?_ | with_reducible refine ev_not ?_ | with_reducible refine ev_yes ?_ | with_reducible refine ev_if ?_ | with_reducible refine ev_no ?_ | with_reducible refine ev_so ?_ | with_reducible refine ev_sl ?_ | with_reducible refine ev_items ?_
  | (with_reducible refine ev_ixO ?_; refine ⟨_, _, rfl, rfl, ?_⟩) | (with_reducible refine ev_varO ?_; refine ⟨_, _, rfl, rfl, ?_⟩) | (with_reducible refine ev_lenO ?_; refine ⟨_, _, rfl, rfl, ?_⟩) | (with_reducible refine ev_scrSl ?_; refine ⟨_, rfl, ?_⟩) | (with_reducible refine ev_scrLen ?_; refine ⟨_, rfl, ?_⟩) | (with_reducible refine ev_callScr ?_; refine ⟨_, rfl, ?_⟩) | (with_reducible refine ev_OL ?_; refine ⟨_, _, rfl, rfl, ?_⟩) | with_reducible refine ev_OR ?_ | with_reducible refine ev_rep ?_ | with_reducible refine ev_listRng1 ?_ | with_reducible refine eo_setO ?_
  | with_reducible refine es_name ?_ | with_reducible refine es_tup2 ?_ | with_reducible refine es_tup3 ?_
  | with_reducible refine ed_addI ?_ | with_reducible refine ed_subI ?_ | with_reducible refine ed_cmp ?_ | with_reducible refine ed_eqI ?_ | with_reducible refine ed_neI ?_ | with_reducible refine ed_slT ?_ | with_reducible refine ed_slL ?_ | with_reducible refine ed_lenT ?_ | with_reducible refine ed_lenL ?_ | with_reducible refine ed_lenS ?_ | with_reducible refine ed_inS ?_ | with_reducible refine ed_itT ?_ | with_reducible refine ed_itL ?_ | with_reducible refine ed_tupL ?_ | with_reducible refine ed_tupT ?_ | with_reducible refine ed_listL ?_ | with_reducible refine ed_listT ?_ | with_reducible refine ed_neg ?_ | with_reducible refine ed_max ?_ | with_reducible refine ed_min ?_ | with_reducible refine ed_intB ?_
  | with_reducible refine ev_rng1 ?_ | with_reducible refine ev_rng2 ?_)
local macro_rules | `(tactic| walk_at "sd") => `(tactic| first | rfl | assumption | (simp only [decide_eq_true_eq, decide_eq_false_iff_not, Bool.not_eq_true', Bool.not_eq_false', Bool.and_eq_true, Bool.or_eq_true, List.length_map, List.length_cons, List.length_nil, List.length_append, List.length_range] at *; omega))
local macro_rules | `(tactic| walk_at "e2") => `(tactic| first
  | walk_at "e1" | with_reducible refine ⟨_, rfl, ?_⟩ | with_reducible refine ⟨_, _, rfl, ?_⟩
  | with_reducible refine And.intro (Eq.refl (List.length _)) ?_ | with_reducible refine And.intro (Nat.le_of_ble_eq_true (n := List.length _) rfl) ?_
  | with_reducible refine And.intro (Eq.refl (_ : Sx)) (?_ : Ed _ _)
  | ((with_reducible refine And.intro ?_ (And.intro ?_ (?_ : Ev _ _))); (· rfl); (· rfl))
  | ((with_reducible refine ed_ixT ?_ ?_ ?_); (· decide); (· rfl)) | ((with_reducible refine ed_ixL ?_ ?_ ?_); (· decide); (· rfl)) | ((with_reducible refine ed_at ?_ ?_ ?_); (· decide); (· rfl))
  | ((with_reducible refine ed_modI ?_ ?_); (· first | decide | omega))
  | with_reducible exact gives_nx | ((with_reducible refine gives_rt ?_); (· rfl)) | ((with_reducible refine And.intro ?_ ?_); (· exact rfl); (· with_reducible exact Eq.refl (_ : Sx))))
local macro_rules | `(tactic| walk_at "e") => `(tactic| repeat walk_at "e2")
/-- begin a def's spec -/
local macro_rules | `(tactic| walk_at "i") => `(tactic| simp only [initS, List.map_cons, List.map_nil, List.length_cons, List.length_nil, Nat.reduceAdd, Nat.reduceSub, List.replicate, List.cons_append, List.nil_append])
/-- a known truth decides -/
local macro_rules | `(tactic| walk_at "t") => `(tactic| first | ((with_reducible refine split_t ?_ ?_); (· walk_at "sd")) | ((with_reducible refine split_t' ?_ ?_); (· walk_at "sd")))
local macro_rules | `(tactic| walk_at "f") => `(tactic| first | ((with_reducible refine split_f ?_ ?_); (· walk_at "sd")) | ((with_reducible refine split_f' ?_ ?_); (· walk_at "sd")))
/-- all that is seen in a look -/
local macro_rules | `(tactic| walk_at "v") => `(tactic| (rw [sealAll_mk (by (simp only [List.set_cons_zero, List.set_cons_succ, List.map_cons, List.map_nil, sealS_none, sealS_dat, sealS_scr, sealS_own, List.getElem?_cons_zero, List.getElem?_cons_succ, sealC_lst]; rfl)) (by (simp only [List.set_cons_zero, List.set_cons_succ, List.map_cons, List.map_nil]; rfl))]))
/-! ### whole numbers, rows, companies, lines, ends: of anything -/
def wholeD : D → Bool
  | .int i => decide (0 ≤ i)
  | _ => false
def rowD (n : Nat) (d : D) : Bool := match seqOf d with
  | some xs => decide (xs.length = n)
  | none => false
def Let (c : Nat) : Prop := 97 ≤ c ∧ c ≤ 122
instance (c : Nat) : Decidable (Let c) := inferInstanceAs (Decidable (_ ∧ _))
theorem Let.ok {c : Nat} (h : Let c) : c < 0x110000 := by have := h.2; omega
def companyD : D → Bool
  | .str x => match x.cps.toList with
    | [c] => decide (Let c)
    | _ => false
  | _ => false
def endD (n : Nat) (d : D) : Bool := match seqOf d with
  | some [.int a, .int s] => decide (0 ≤ a) && decide (0 ≤ s) && decide (a < n) && decide (s < 2)
  | _ => false
theorem company_of {d : D} (h : companyD d = true) : ∃ c, d = ch c ∧ Let c := by
  unfold companyD at h
  split at h
  · split at h
    · rename_i x c e
      refine ⟨c, ?_, of_decide_eq_true h⟩
      unfold ch
      congr 1
      exact congrArg Str.mk (Array.toList_inj.mp (by simpa using e))
    · cases h
  · cases h
theorem x_is_whole (d : D) : m_is_whole [d] = some (.bool (wholeD d)) := by
  unfold m_is_whole; refine mF_of ?_; walk_at "i"; unfold g_is_whole
  walk_at "e"
  refine ⟨fun h1 => ?_, fun h1 => ?_⟩
  · walk_at "e"
    refine ⟨fun h2 => ?_, fun h2 => ?_⟩
    · cases d <;> simp [isT, dTy] at h1 h2
      walk_at "e"
    · cases d <;> simp [isT, dTy] at h1 h2
      walk_at "e"
  · cases d <;> simp [isT, dTy] at h1 <;> walk_at "e"
theorem x_is_row (d : D) (n : Nat) : m_is_row [d, .int n] = some (.bool (rowD n d)) := by
  unfold m_is_row; refine mF_of ?_; walk_at "i"; unfold g_is_row
  walk_at "e"
  rw [isi_seq]
  refine ⟨fun h1 => ?_, fun h1 => ?_⟩
  · obtain ⟨xs, hx⟩ := Option.isSome_iff_exists.mp h1
    walk_at "e"
    refine ed_lenQ (sq_of hx) ?_
    walk_at "e"
    unfold rowD
    rw [gives_rtI, hx]
    simp only [PyData.bool.injEq, decide_eq_decide]
    omega
  · have hx : seqOf d = none := by simpa using h1
    rw [gives_rtI]
    unfold rowD; rw [hx]
theorem row_of {n : Nat} {d : D} (h : rowD n d = true) : ∃ xs, Sq d xs ∧ xs.length = n := by
  unfold rowD at h
  split at h
  · rename_i xs e; exact ⟨xs, sq_of e, of_decide_eq_true h⟩
  · cases h
def placeD (p : Int) (d : D) : Bool := match d with | .int a => decide (0 ≤ a) && decide (a < p) | _ => false
/-! ### webs -/
abbrev Ln := Int × Int × Nat
def ln (l : Ln) : D := .tuple [.int l.1, .int l.2.1, ch l.2.2]
def wb (p : Int) (ls : List Ln) : D := .tuple [.int p, .tuple (ls.map ln)]
structure LnOk (p : Int) (l : Ln) : Prop where
  a0 : 0 ≤ l.1
  a1 : l.1 < p
  b0 : 0 ≤ l.2.1
  b1 : l.2.1 < p
  c : Let l.2.2
structure WbOk (p : Int) (ls : List Ln) : Prop where
  p0 : 0 ≤ p
  all : ∀ l ∈ ls, LnOk p l
  len : ls.length ≤ 1000000
def IsLn (d : D) (l : Ln) : Prop := Sq d [.int l.1, .int l.2.1, ch l.2.2]
def Lns (d : D) (ls : List Ln) : Prop := ∃ ps : List (D × Ln), Sq d (ps.map (·.1)) ∧ ls = ps.map (·.2) ∧ ∀ q ∈ ps, IsLn q.1 q.2
def Web (d : D) (p : Int) (ls : List Ln) : Prop := ∃ L, Sq d [.int p, L] ∧ Lns L ls
theorem isLn_ln (l : Ln) : IsLn (ln l) l := sq_t _
theorem lns_of {d : D} {ls : List Ln} (s : Sq d (ls.map ln)) : Lns d ls := ⟨ls.map fun l => (ln l, l), by rw [List.map_map]; exact s, by rw [List.map_map]; exact (List.map_id _).symm, fun q hq => by
  obtain ⟨l, _, rfl⟩ := List.mem_map.mp hq
  exact isLn_ln l⟩
theorem web_wb (p : Int) (ls : List Ln) : Web (wb p ls) p ls := ⟨_, sq_t _, lns_of (sq_t _)⟩
theorem line_at {d : D} {ls : List Ln} (h : Lns d ls) {i : Nat} {l : Ln} (hl : ls[i]? = some l) : ∃ xs x, Sq d xs ∧ xs.length = ls.length ∧ xs[i]? = some x ∧ IsLn x l := by
  obtain ⟨ps, s, rfl, hp⟩ := h
  rw [List.getElem?_map] at hl
  obtain ⟨q, hq, rfl⟩ := Option.map_eq_some_iff.mp hl
  exact ⟨_, q.1, s, by simp, by rw [List.getElem?_map, hq]; rfl, hp q (List.mem_of_getElem? hq)⟩
theorem lns_len {d : D} {ls : List Ln} (h : Lns d ls) : ∃ xs, Sq d xs ∧ xs.length = ls.length := by
  obtain ⟨ps, s, rfl, hp⟩ := h
  exact ⟨_, s, by simp⟩
/-! ### ends -/
def en (e : Int × Int) : D := .tuple [.int e.1, .int e.2]
def IsEn (d : D) (e : Int × Int) : Prop := Sq d [.int e.1, .int e.2]
theorem isEn_en (e : Int × Int) : IsEn (en e) e := sq_t _
def EndOk (n : Nat) (e : Int × Int) : Prop := 0 ≤ e.1 ∧ e.1 < n ∧ 0 ≤ e.2 ∧ e.2 < 2
instance (n : Nat) (e : Int × Int) : Decidable (EndOk n e) := by unfold EndOk; infer_instance
theorem endD_of {n : Nat} {d : D} {e : Int × Int} (s : IsEn d e) : endD n d = decide (EndOk n e) := by
  unfold endD
  rw [s.of]
  refine Bool.eq_iff_iff.mpr ⟨fun h => decide_eq_true ?_, fun h => ?_⟩
  · simp only [Bool.and_eq_true, decide_eq_true_eq] at h
    exact ⟨h.1.1.1, h.1.2, h.1.1.2, h.2⟩
  · have h := of_decide_eq_true h
    simp only [Bool.and_eq_true, decide_eq_true_eq]
    exact ⟨⟨⟨h.1, h.2.2.1⟩, h.2.1⟩, h.2.2.2⟩
theorem isEn_of {n : Nat} {d : D} (h : endD n d = true) : ∃ e, IsEn d e ∧ EndOk n e := by
  unfold endD at h
  split at h
  · rename_i a s e
    have h1 := h
    simp only [Bool.and_eq_true, decide_eq_true_eq] at h1
    exact ⟨(a, s), sq_of e, h1.1.1.1, h1.1.2, h1.1.1.2, h1.2⟩
  · cases h
theorem x_is_end {w : D} {p : Int} {ls : List Ln} (hw : Web w p ls) (d : D) : m_is_end [w, d] = some (.bool (endD ls.length d)) := by
  obtain ⟨L, s, hL⟩ := hw
  obtain ⟨xs, sx, hl⟩ := lns_len hL
  unfold m_is_end; refine mF_of ?_; walk_at "i"; unfold g_is_end
  walk_at "e"
  refine Ed.of (x_is_row d 2) ?_
  walk_at "e"
  refine ⟨fun h1 => ?_, fun h1 => ?_⟩
  rotate_left
  · walk_at "t"
    walk_at "e"
    have h1 : rowD 2 d = false := by simpa using h1
    have : endD ls.length d = false := by
      unfold endD; unfold rowD at h1
      split
      · rename_i e; rw [e] at h1; simp at h1
      · rfl
    simp [this]
  have h1 : rowD 2 d = true := by simpa using h1
  obtain ⟨zs, sz, hz⟩ := row_of h1
  obtain ⟨a, b, rfl⟩ : ∃ a b, zs = [a, b] := by
    match zs, hz with
    | [a, b], _ => exact ⟨a, b, rfl⟩
  have el : endD ls.length d = (wholeD a && wholeD b && (match a, b with | .int a, .int b => decide (a < ls.length) && decide (b < 2) | _, _ => false)) := by
    unfold endD; rw [sz.of]
    cases a <;> cases b <;> simp [wholeD, Bool.and_assoc]
  rw [el]
  walk_at "e"
  refine ed_ixQ sz (by decide) rfl ?_
  walk_at "e"
  refine Ed.of (x_is_whole _) ?_
  walk_at "e"
  refine ⟨fun h2 => ?_, fun h2 => ?_⟩
  rotate_left
  · walk_at "t"
    walk_at "e"
    have h2 : wholeD a = false := by simpa using h2
    simp [h2]
  have h2 : wholeD a = true := by simpa using h2
  walk_at "e"
  refine ed_ixQ sz (by decide) rfl ?_
  walk_at "e"
  refine Ed.of (x_is_whole _) ?_
  walk_at "e"
  refine ⟨fun h3 => ?_, fun h3 => ?_⟩
  · walk_at "e"
    have h3 : wholeD b = false := by simpa using h3
    simp [h2, h3]
  have h3 : wholeD b = true := by simpa using h3
  cases a <;> simp [wholeD] at h2
  cases b <;> simp [wholeD] at h3
  walk_at "e"
  refine ed_ixQ sz (by decide) rfl ?_
  walk_at "e"
  refine ed_ixQ s (by decide) rfl ?_
  walk_at "e"
  refine ed_lenQ sx ?_
  walk_at "e"
  rw [hl]
  refine ⟨fun h4 => ?_, fun h4 => ?_⟩
  · walk_at "e"
    refine ed_ixQ sz (by decide) rfl ?_
    walk_at "e"
    simp [wholeD, h2, h3, h4]
  · walk_at "e"
    simp [h4]
def sideOf (s : Int) (l : Ln) : Int := if s = 0 then l.1 else l.2.1
def plc (ls : List Ln) (e : Int × Int) : Int := match ls[e.1.toNat]? with
  | some l => sideOf e.2 l
  | none => 0
def cmpy (ls : List Ln) (e : Int × Int) : Nat := match ls[e.1.toNat]? with
  | some l => l.2.2
  | none => 0
def far (e : Int × Int) : Int × Int := (e.1, 1 - e.2)
theorem end_line {n : Nat} {ls : List Ln} {e : Int × Int} (hn : n = ls.length) (h : EndOk n e) : ∃ l, ls[e.1.toNat]? = some l ∧ l ∈ ls := by
  have hl : e.1.toNat < ls.length := by have := h.1; have := h.2.1; omega
  exact ⟨_, List.getElem?_eq_getElem hl, List.getElem_mem hl⟩
theorem x_place_of {w : D} {p : Int} {ls : List Ln} {d : D} {e : Int × Int} (hw : Web w p ls) (s : IsEn d e) (h : EndOk ls.length e) : m_place_of [w, d] = some (.int (plc ls e)) := by
  obtain ⟨L, sw, hL⟩ := hw
  obtain ⟨l, hl, _⟩ := end_line rfl h
  obtain ⟨xs, x, sx, hxl, hx, hln⟩ := line_at hL hl
  unfold m_place_of; refine mF_of ?_; walk_at "i"; unfold g_place_of
  walk_at "e"
  refine ed_ixQ sw (by decide) rfl ?_
  walk_at "e"
  refine ed_ixQ s (by decide) rfl ?_
  walk_at "e"
  refine ed_ixQ sx h.1 hx ?_
  walk_at "e"
  refine ed_ixQ s (by decide) rfl ?_
  walk_at "e"
  have h2 : e.2 = 0 ∨ e.2 = 1 := by have := h.2.2.1; have := h.2.2.2; omega
  unfold plc; rw [hl]
  rcases h2 with h2 | h2 <;> rw [h2] <;> exact ed_ixQ hln (by decide) rfl rfl
theorem x_company_of {w : D} {p : Int} {ls : List Ln} {d : D} {e : Int × Int} (hw : Web w p ls) (s : IsEn d e) (h : EndOk ls.length e) : m_company_of [w, d] = some (ch (cmpy ls e)) := by
  obtain ⟨L, sw, hL⟩ := hw
  obtain ⟨l, hl, _⟩ := end_line rfl h
  obtain ⟨xs, x, sx, hxl, hx, hln⟩ := line_at hL hl
  unfold m_company_of; refine mF_of ?_; walk_at "i"; unfold g_company_of
  walk_at "e"
  refine ed_ixQ sw (by decide) rfl ?_
  walk_at "e"
  refine ed_ixQ s (by decide) rfl ?_
  walk_at "e"
  refine ed_ixQ sx h.1 hx ?_
  walk_at "e"
  refine ed_ixQ hln (by decide) rfl ?_
  unfold cmpy; rw [hl]; rfl
theorem cmpy_let {p : Int} {ls : List Ln} {e : Int × Int} (h : WbOk p ls) (k : EndOk ls.length e) : Let (cmpy ls e) := by
  obtain ⟨l, hl, hm⟩ := end_line rfl k
  unfold cmpy; rw [hl]
  exact (h.all _ hm).c
theorem cmpy_ok {p : Int} {ls : List Ln} {e : Int × Int} (h : WbOk p ls) (k : EndOk ls.length e) : cmpy ls e < 0x110000 := (cmpy_let h k).ok
/-! ### all ends, the ends at a place -/
def allE (n : Nat) : List (Int × Int) := (List.range n).flatMap fun i : Nat => [((i : Int), 0), ((i : Int), 1)]
def ends (ls : List Ln) (q : Int) : List (Int × Int) := (allE ls.length).filter fun e => decide (plc ls e = q)
end Lw

set_option maxHeartbeats 4000000
namespace Lw
open PySem Fu
local macro_rules | `(tactic| walk_at "e1") => `(tactic| first
  | with_reducible refine eo_seq ?_ | (with_reducible refine then_nx' ?_; refine ⟨?_, ?_, ?_⟩; rotate_left; · (try dsimp only [List.set, List.length_cons, List.length_nil, List.cons_append, List.nil_append, Nat.zero_add, Nat.reduceAdd]); exact rfl) | with_reducible refine then_rt ?_ | with_reducible refine eo_if ?_ | with_reducible refine eo_ret ?_ | with_reducible refine eo_set ?_ | with_reducible refine eo_asg ?_ | with_reducible refine eo_drop ?_ | with_reducible refine eo_nx ?_ | with_reducible refine eo_par ?_ | with_reducible refine eo_own ?_ | with_reducible refine eo_retN ?_ | with_reducible refine eo_for ?_ | with_reducible refine eo_retO ?_
  | with_reducible refine ev_c ?_ | (with_reducible refine ev_var ?_; refine ⟨_, rfl, ?_⟩) | with_reducible refine ev_bin ?_ | with_reducible refine ev_un ?_ | with_reducible refine ev_nil ?_ | with_reducible refine ev_cons ?_
  | with_reducible refine ev_tup ?_ | with_reducible refine ev_lst ?_ | with_reducible refine ev_call ?_ | with_reducible refine ev_callF ?_ | with_reducible refine ev_isi ?_ | with_reducible refine ev_isi2 ?_ | with_reducible refine ev_andV ?_ | with_reducible refine ev_orV ?_ | with_reducible refine ev_notV ?_
  | with_reducible refine ev_B ?_ | with_reducible refine ev_and ?_ | with_reducible refine ev_or ?_ | with_reducible refine ev_not ?_ | with_reducible refine ev_yes ?_ | with_reducible refine ev_if ?_ | with_reducible refine ev_no ?_ | with_reducible refine ev_so ?_ | with_reducible refine ev_sl ?_ | with_reducible refine ev_items ?_
  | (with_reducible refine ev_ixO ?_; refine ⟨_, _, rfl, rfl, ?_⟩) | (with_reducible refine ev_varO ?_; refine ⟨_, _, rfl, rfl, ?_⟩) | (with_reducible refine ev_lenO ?_; refine ⟨_, _, rfl, rfl, ?_⟩) | (with_reducible refine ev_scrSl ?_; refine ⟨_, rfl, ?_⟩) | (with_reducible refine ev_scrLen ?_; refine ⟨_, rfl, ?_⟩) | (with_reducible refine ev_callScr ?_; refine ⟨_, rfl, ?_⟩) | (with_reducible refine ev_OL ?_; refine ⟨_, _, rfl, rfl, ?_⟩) | with_reducible refine ev_OR ?_ | with_reducible refine ev_rep ?_ | with_reducible refine ev_listRng1 ?_ | with_reducible refine eo_setO ?_
  | with_reducible refine es_name ?_ | with_reducible refine es_tup2 ?_ | with_reducible refine es_tup3 ?_
  | with_reducible refine ed_addI ?_ | with_reducible refine ed_subI ?_ | with_reducible refine ed_cmp ?_ | with_reducible refine ed_eqI ?_ | with_reducible refine ed_neI ?_ | with_reducible refine ed_slT ?_ | with_reducible refine ed_slL ?_ | with_reducible refine ed_lenT ?_ | with_reducible refine ed_lenL ?_ | with_reducible refine ed_lenS ?_ | with_reducible refine ed_inS ?_ | with_reducible refine ed_itT ?_ | with_reducible refine ed_itL ?_ | with_reducible refine ed_tupL ?_ | with_reducible refine ed_tupT ?_ | with_reducible refine ed_listL ?_ | with_reducible refine ed_listT ?_ | with_reducible refine ed_neg ?_ | with_reducible refine ed_max ?_ | with_reducible refine ed_min ?_ | with_reducible refine ed_intB ?_
  | with_reducible refine ev_rng1 ?_ | with_reducible refine ev_rng2 ?_)
local macro_rules | `(tactic| walk_at "sd") => `(tactic| first | rfl | assumption | (simp only [decide_eq_true_eq, decide_eq_false_iff_not, Bool.not_eq_true', Bool.not_eq_false', Bool.and_eq_true, Bool.or_eq_true, List.length_map, List.length_cons, List.length_nil, List.length_append, List.length_range] at *; omega))
local macro_rules | `(tactic| walk_at "e2") => `(tactic| first
  | walk_at "e1" | with_reducible refine ⟨_, rfl, ?_⟩ | with_reducible refine ⟨_, _, rfl, ?_⟩
  | with_reducible refine And.intro (Eq.refl (List.length _)) ?_ | with_reducible refine And.intro (Nat.le_of_ble_eq_true (n := List.length _) rfl) ?_
  | with_reducible refine And.intro (Eq.refl (_ : Sx)) (?_ : Ed _ _)
  | ((with_reducible refine And.intro ?_ (And.intro ?_ (?_ : Ev _ _))); (· rfl); (· rfl))
  | ((with_reducible refine ed_ixT ?_ ?_ ?_); (· decide); (· rfl)) | ((with_reducible refine ed_ixL ?_ ?_ ?_); (· decide); (· rfl)) | ((with_reducible refine ed_at ?_ ?_ ?_); (· decide); (· rfl))
  | ((with_reducible refine ed_modI ?_ ?_); (· first | decide | omega))
  | with_reducible exact gives_nx | ((with_reducible refine gives_rt ?_); (· rfl)) | ((with_reducible refine And.intro ?_ ?_); (· exact rfl); (· with_reducible exact Eq.refl (_ : Sx))))
local macro_rules | `(tactic| walk_at "e") => `(tactic| repeat walk_at "e2")
/-- begin a def's spec -/
local macro_rules | `(tactic| walk_at "i") => `(tactic| simp only [initS, List.map_cons, List.map_nil, List.length_cons, List.length_nil, Nat.reduceAdd, Nat.reduceSub, List.replicate, List.cons_append, List.nil_append])
/-- a known truth decides -/
local macro_rules | `(tactic| walk_at "t") => `(tactic| first | ((with_reducible refine split_t ?_ ?_); (· walk_at "sd")) | ((with_reducible refine split_t' ?_ ?_); (· walk_at "sd")))
local macro_rules | `(tactic| walk_at "f") => `(tactic| first | ((with_reducible refine split_f ?_ ?_); (· walk_at "sd")) | ((with_reducible refine split_f' ?_ ?_); (· walk_at "sd")))
/-- all that is seen in a look -/
local macro_rules | `(tactic| walk_at "v") => `(tactic| (rw [sealAll_mk (by (simp only [List.set_cons_zero, List.set_cons_succ, List.map_cons, List.map_nil, sealS_none, sealS_dat, sealS_scr, sealS_own, List.getElem?_cons_zero, List.getElem?_cons_succ, sealC_lst]; rfl)) (by (simp only [List.set_cons_zero, List.set_cons_succ, List.map_cons, List.map_nil]; rfl))]))
/-! ### rides -/
def goesB (ls : List Ln) (e f : Int × Int) : Bool := decide (plc ls (far e) = plc ls f) && !decide (cmpy ls e = cmpy ls f)
def rideB (ls : List Ln) (es : List (Int × Int)) : Bool := decide (es ≠ []) && es.all (fun e => decide (EndOk ls.length e)) && decide (es.map Prod.fst).Nodup && (es.zip es.tail).all fun p => goesB ls p.1 p.2
def lastE (es : List (Int × Int)) : Int × Int := es.getLast?.getD (0, 0)
def headE (es : List (Int × Int)) : Int × Int := es.head?.getD (0, 0)
def roundB (ls : List Ln) (es : List (Int × Int)) : Bool := rideB ls es && goesB ls (lastE es) (headE es)
theorem EndOk.far {n : Nat} {e : Int × Int} (h : EndOk n e) : EndOk n (far e) := by
  obtain ⟨h1, h2, h3, h4⟩ := h
  exact ⟨h1, h2, by show 0 ≤ 1 - e.2; omega, by show 1 - e.2 < 2; omega⟩
theorem x_far_end {d : D} {e : Int × Int} (s : IsEn d e) : m_far_end [d] = some (en (far e)) := by
  unfold m_far_end; refine mF_of ?_; walk_at "i"; unfold g_far_end
  walk_at "e"
  refine ed_ixQ s (by decide) rfl ?_
  walk_at "e"
  refine ed_ixQ s (by decide) rfl ?_
  walk_at "e"
theorem x_can_go_on {w : D} {p : Int} {ls : List Ln} {a b : D} {e f : Int × Int} (hw : Web w p ls) (h : WbOk p ls) (sa : IsEn a e) (sb : IsEn b f) (he : EndOk ls.length e) (hf : EndOk ls.length f) : m_can_go_on [w, a, b] = some (.bool (goesB ls e f)) := by
  unfold m_can_go_on; refine mF_of ?_; walk_at "i"; unfold g_can_go_on goesB
  walk_at "e"
  refine Ed.of (x_far_end sa) ?_
  walk_at "e"
  refine Ed.of (x_place_of hw (isEn_en _) he.far) ?_
  walk_at "e"
  refine Ed.of (x_place_of hw sb hf) ?_
  walk_at "e"
  refine ⟨fun ht => ?_, fun ht => ?_⟩
  · walk_at "e"
    simp only [Bool.not_eq_true', decide_eq_false_iff_not] at ht
    simp [ht]
  · walk_at "e"
    refine Ed.of (x_company_of hw sa he) ?_
    walk_at "e"
    refine Ed.of (x_company_of hw sb hf) ?_
    walk_at "e"
    refine Ed.of (dNe_ch (cmpy_ok h he) (cmpy_ok h hf)) ?_
    simp only [Bool.not_eq_false', decide_eq_true_eq] at ht
    simp [ht]
theorem last_mem {es : List (Int × Int)} (h : es ≠ []) : es.getLast? = some (lastE es) ∧ lastE es ∈ es := by
  unfold lastE
  rw [List.getLast?_eq_some_getLast h]
  exact ⟨rfl, List.getLast_mem h⟩
theorem head_mem {es : List (Int × Int)} (h : es ≠ []) : es[0]? = some (headE es) ∧ headE es ∈ es := by
  cases es with
  | nil => exact absurd rfl h
  | cons e es => exact ⟨rfl, List.mem_cons_self⟩
theorem ed_lastQ {d : D} {xs : List D} {x : D} {Q : D → Prop} (s : Sq d xs) (e : xs.getLast? = some x) (q : Q x) : Ed (dIx d (.int (-1))) Q := by
  rcases s with rfl | rfl
  · obtain ⟨z, h1, h2⟩ := ed_atLast (Q := Q) e q
    exact ⟨z, h1, h2⟩
  · obtain ⟨z, h1, h2⟩ := ed_atLast (Q := Q) e q
    exact ⟨z, h1, h2⟩
/-- a list of ends, as handed -/
def IsRide (d : D) (es : List (Int × Int)) : Prop := ∃ ps : List (D × (Int × Int)), Sq d (ps.map (·.1)) ∧ es = ps.map (·.2) ∧ ∀ q ∈ ps, IsEn q.1 q.2
theorem ride_of {d : D} {es : List (Int × Int)} (s : Sq d (es.map en)) : IsRide d es := ⟨es.map fun l => (en l, l), by rw [List.map_map]; exact s, by rw [List.map_map]; exact (List.map_id _).symm, fun q hq => by
  obtain ⟨l, _, rfl⟩ := List.mem_map.mp hq
  exact isEn_en l⟩
def lE (es : List (Int × Int)) : D := .list (es.map en)
theorem ride_lE (es : List (Int × Int)) : IsRide (lE es) es := ride_of (sq_l _)
def unEn (d : D) : Int × Int := match seqOf d with
  | some [.int a, .int b] => (a, b)
  | _ => (0, 0)
theorem unEn_of {d : D} {e : Int × Int} (s : IsEn d e) : unEn d = e := by unfold unEn; rw [s.of]
def rideD (ls : List Ln) (d : D) : Bool := match seqOf d with
  | some xs => xs.all (endD ls.length) && rideB ls (xs.map unEn)
  | none => false
def roundD (ls : List Ln) (d : D) : Bool := match seqOf d with
  | some xs => xs.all (endD ls.length) && roundB ls (xs.map unEn)
  | none => false
theorem map_unEn {ps : List (D × (Int × Int))} (h : ∀ q ∈ ps, IsEn q.1 q.2) : (ps.map (·.1)).map unEn = ps.map (·.2) := by
  rw [List.map_map]
  exact List.map_congr_left fun q hq => unEn_of (h q hq)
theorem all_endD {ps : List (D × (Int × Int))} (h : ∀ q ∈ ps, IsEn q.1 q.2) (n : Nat) : (ps.map (·.1)).all (endD n) = (ps.map (·.2)).all fun e => decide (EndOk n e) := by
  rw [List.all_map, List.all_map]
  apply Bool.eq_iff_iff.mpr
  simp only [List.all_eq_true, Function.comp]
  exact ⟨fun k q hq => by rw [← endD_of (h q hq)]; exact k q hq, fun k q hq => by rw [endD_of (h q hq)]; exact k q hq⟩
theorem rideD_of {ls : List Ln} {d : D} {es : List (Int × Int)} (h : IsRide d es) : rideD ls d = rideB ls es := by
  obtain ⟨ps, s, rfl, hp⟩ := h
  unfold rideD; rw [s.of]
  simp only
  rw [map_unEn hp, all_endD hp]
  unfold rideB
  cases (ps.map (·.2)).all fun e => decide (EndOk ls.length e) <;> simp
theorem roundD_of {ls : List Ln} {d : D} {es : List (Int × Int)} (h : IsRide d es) : roundD ls d = roundB ls es := by
  obtain ⟨ps, s, rfl, hp⟩ := h
  unfold roundD; rw [s.of]
  simp only
  rw [map_unEn hp, all_endD hp]
  unfold roundB rideB
  cases (ps.map (·.2)).all fun e => decide (EndOk ls.length e) <;> simp
theorem seq_ride {xs : List D} {n : Nat} (h : xs.all (endD n) = true) : ∃ ps : List (D × (Int × Int)), xs = ps.map (·.1) ∧ (∀ q ∈ ps, IsEn q.1 q.2) ∧ ∀ q ∈ ps, EndOk n q.2 := by
  induction xs with
  | nil => exact ⟨[], rfl, (fun _ h => nomatch h), fun _ h => nomatch h⟩
  | cons x xs ih =>
    rw [List.all_cons, Bool.and_eq_true] at h
    obtain ⟨e, s, k⟩ := isEn_of h.1
    obtain ⟨ps, rfl, h1, h2⟩ := ih h.2
    exact ⟨(x, e) :: ps, rfl, fun q hq => by rcases List.mem_cons.mp hq with rfl | hq; exact s; exact h1 q hq, fun q hq => by rcases List.mem_cons.mp hq with rfl | hq; exact k; exact h2 q hq⟩
theorem of_rideD {ls : List Ln} {d : D} (h : rideD ls d = true) : ∃ es, IsRide d es ∧ rideB ls es = true := by
  have h0 := h
  unfold rideD at h
  split at h
  · rename_i xs e
    rw [Bool.and_eq_true] at h
    obtain ⟨ps, rfl, h1, h2⟩ := seq_ride h.1
    have k : IsRide d (ps.map (·.2)) := ⟨ps, sq_of e, rfl, h1⟩
    exact ⟨_, k, by rw [← rideD_of k]; exact h0⟩
  · cases h
theorem rideB_ends {ls : List Ln} {es : List (Int × Int)} (h : rideB ls es = true) : es ≠ [] ∧ (∀ e ∈ es, EndOk ls.length e) ∧ (es.map Prod.fst).Nodup ∧ ∀ q ∈ es.zip es.tail, goesB ls q.1 q.2 = true := by
  unfold rideB at h
  simp only [Bool.and_eq_true, decide_eq_true_eq, List.all_eq_true] at h
  exact ⟨h.1.1.1, h.1.1.2, h.1.2, h.2⟩
def lenD (d : D) : Nat := ((seqOf d).getD []).length
theorem lenD_of {d : D} {xs : List D} (s : Sq d xs) : lenD d = xs.length := by unfold lenD; rw [s.of]; rfl
theorem cut_one {α : Type} (xs : List α) : cutL xs (some 1) none = xs.tail := by rw [cut_from (by decide), show (1 : Int).toNat = 1 from rfl, List.drop_one]
theorem x_ride_is {w : D} {p : Int} {ls : List Ln} (hw : Web w p ls) (h : WbOk p ls) (d : D) (hz : lenD d ≤ 4000) : m_ride_is [w, d] = some (.bool (rideD ls d)) := by
  unfold m_ride_is; refine mF_of ?_; walk_at "i"; unfold g_ride_is
  walk_at "e"
  rw [isi_seq]
  refine ⟨fun h1 => ?_, fun h1 => ?_⟩
  rotate_left
  · walk_at "t"
    walk_at "e"
    have h1 : seqOf d = none := by simpa using h1
    unfold rideD; rw [h1]
    simp
  obtain ⟨xs, hx⟩ := Option.isSome_iff_exists.mp (show (seqOf d).isSome = true by simpa using h1)
  have s := sq_of hx
  rw [lenD_of s] at hz
  have ed : rideD ls d = (xs.all (endD ls.length) && rideB ls (xs.map unEn)) := by unfold rideD; rw [hx]
  rw [ed]
  walk_at "e"
  refine ed_lenQ s ?_
  walk_at "e"
  refine ⟨fun hn => ?_, fun hn => ?_⟩
  rotate_left
  · walk_at "t"
    walk_at "e"
    have : xs = [] := by
      have hn := of_decide_eq_true hn
      exact List.length_eq_zero_iff.mp (by omega)
    simp [this, rideB]
  walk_at "e"
  refine ev_mapX (xs := xs) (enc := fun z => z) (g := fun z => .bool (endD ls.length z)) ?_
  walk_at "e"
  refine ed_itQ s ⟨by simp, fun z hz => ?_, ?_⟩
  · walk_at "e"
    exact Ed.of (x_is_end hw z) ⟨rfl, rfl⟩
  walk_at "e"
  refine all_mapX (endD ls.length) xs ?_
  walk_at "e"
  refine ⟨fun ha => ?_, fun ha => ?_⟩
  · walk_at "e"
    have ha : xs.all (endD ls.length) = false := by simpa using ha
    simp [ha]
  have ha : xs.all (endD ls.length) = true := by simpa using ha
  obtain ⟨ps, rfl, hp, hk⟩ := seq_ride ha
  rw [map_unEn hp, ha, Bool.true_and]
  have hnn : ps.map (·.2) ≠ [] := by
    intro z
    have : ps = [] := List.map_eq_nil_iff.mp z
    rw [this] at hn; simp at hn
  have hall : ∀ e ∈ ps.map (·.2), EndOk ls.length e := fun e he => by
    obtain ⟨q, hq, rfl⟩ := List.mem_map.mp he
    exact hk q hq
  have h1 : (ps.map (·.2)).all (fun e => decide (EndOk ls.length e)) = true := List.all_eq_true.mpr fun e he => decide_eq_true (hall e he)
  unfold rideB
  rw [decide_eq_true hnn, h1, Bool.true_and, Bool.true_and]
  walk_at "e"
  refine ev_mapX (xs := ps) (enc := (·.1)) (g := fun q => .int q.2.1) ?_
  walk_at "e"
  refine ed_itQ s ⟨rfl, fun q hq => ?_, ?_⟩
  · walk_at "e"
    refine ed_ixQ (hp q hq) (by decide) rfl ⟨rfl, rfl⟩
  have e1 : ps.map (fun q => PyData.int q.2.1) = ((ps.map (·.2)).map Prod.fst).map PyData.int := by rw [List.map_map, List.map_map]; rfl
  rw [e1]
  walk_at "e"
  refine ed_lenSet (by simpa using hz) ?_
  walk_at "e"
  refine ed_lenQ s ?_
  walk_at "e"
  have e2 : (((unlike ((ps.map (·.2)).map Prod.fst) : Nat) : Int) = ((ps.map (·.1)).length : Int)) ↔ ((ps.map (·.2)).map Prod.fst).Nodup := by
    rw [← unlike_iff]
    simp only [List.length_map]
    omega
  refine ⟨fun hd => ?_, fun hd => ?_⟩
  · walk_at "e"
    have hd : ¬ ((ps.map (·.2)).map Prod.fst).Nodup := by
      rw [← e2]
      simpa using hd
    rw [decide_eq_false hd]; rfl
  have hd : ((ps.map (·.2)).map Prod.fst).Nodup := by
    rw [← e2]
    simpa using hd
  rw [decide_eq_true hd, Bool.true_and]
  walk_at "e"
  refine ev_mapX (xs := ps.zip ps.tail) (enc := fun z => .tuple [z.1.1, z.2.1]) (g := fun z => .bool (goesB ls z.1.2 z.2.2)) ?_
  have tl : (ps.map (·.1)).tail = ps.tail.map (·.1) := by rw [List.map_tail]
  have ez : zipD (ps.map (·.1)) ((ps.map (·.1)).tail) = (ps.zip ps.tail).map fun z => .tuple [z.1.1, z.2.1] := by
    rw [tl, zipD_map]
  refine ev_zip ?_
  rcases s with rfl | rfl
  · walk_at "e"
    rw [cut_one]
    refine .inl ⟨_, _, rfl, ez, fun z hz => ?_, ?_⟩
    · obtain ⟨m1, m2⟩ := List.of_mem_zip hz
      walk_at "e"
      exact Ed.of (x_can_go_on hw h (hp _ m1) (hp _ (List.mem_of_mem_tail m2)) (hk _ m1) (hk _ (List.mem_of_mem_tail m2))) ⟨rfl, rfl⟩
    · walk_at "e"
      refine all_mapX (fun z : (D × (Int × Int)) × (D × (Int × Int)) => goesB ls z.1.2 z.2.2) _ ?_
      rw [gives_rtI, ← List.map_tail, List.zip_map, List.all_map]
      rfl
  · walk_at "e"
    rw [cut_one]
    refine .inr ⟨_, _, rfl, ez, fun z hz => ?_, ?_⟩
    · obtain ⟨m1, m2⟩ := List.of_mem_zip hz
      walk_at "e"
      exact Ed.of (x_can_go_on hw h (hp _ m1) (hp _ (List.mem_of_mem_tail m2)) (hk _ m1) (hk _ (List.mem_of_mem_tail m2))) ⟨rfl, rfl⟩
    · walk_at "e"
      refine all_mapX (fun z : (D × (Int × Int)) × (D × (Int × Int)) => goesB ls z.1.2 z.2.2) _ ?_
      rw [gives_rtI, ← List.map_tail, List.zip_map, List.all_map]
      rfl
theorem ride_round {ls : List Ln} {d : D} : roundD ls d = (rideD ls d && match seqOf d with
    | some xs => goesB ls (lastE (xs.map unEn)) (headE (xs.map unEn))
    | none => false) := by
  unfold roundD rideD roundB
  cases seqOf d with
  | none => rfl
  | some xs => simp only [Bool.and_assoc]
theorem last_map {ps : List (D × (Int × Int))} (h : ps ≠ []) : ∃ q, q ∈ ps ∧ (ps.map (·.1)).getLast? = some q.1 ∧ lastE (ps.map (·.2)) = q.2 := by
  refine ⟨ps.getLast h, List.getLast_mem h, ?_, ?_⟩
  · rw [List.getLast?_map, List.getLast?_eq_some_getLast h]; rfl
  · unfold lastE
    rw [List.getLast?_map, List.getLast?_eq_some_getLast h]; rfl
theorem head_map {ps : List (D × (Int × Int))} (h : ps ≠ []) : ∃ q, q ∈ ps ∧ (ps.map (·.1))[0]? = some q.1 ∧ headE (ps.map (·.2)) = q.2 := by
  cases ps with
  | nil => exact absurd rfl h
  | cons q ps => exact ⟨q, List.mem_cons_self, rfl, rfl⟩
theorem x_round_is {w : D} {p : Int} {ls : List Ln} (hw : Web w p ls) (h : WbOk p ls) (d : D) (hz : lenD d ≤ 4000) : m_round_is [w, d] = some (.bool (roundD ls d)) := by
  unfold m_round_is; refine mF_of ?_; walk_at "i"; unfold g_round_is
  walk_at "e"
  refine Ed.of (x_ride_is hw h d hz) ?_
  rw [ride_round]
  walk_at "e"
  refine ⟨fun hr => ?_, fun hr => by simp [hr]⟩
  obtain ⟨es, ⟨ps, s, rfl, hp⟩, hb⟩ := of_rideD hr
  obtain ⟨hn, hall, _, _⟩ := rideB_ends hb
  have hn : ps ≠ [] := fun z => hn (by rw [z]; rfl)
  obtain ⟨a, ha, la, la2⟩ := last_map hn
  obtain ⟨b, hb, lb, lb2⟩ := head_map hn
  walk_at "e"
  refine ed_lastQ s la ?_
  walk_at "e"
  refine ed_ixQ s (by decide) lb ?_
  walk_at "e"
  refine Ed.of (x_can_go_on hw h (hp _ ha) (hp _ hb) (hall _ (List.mem_map_of_mem ha)) (hall _ (List.mem_map_of_mem hb))) ?_
  walk_at "e"
  rw [s.of]
  simp only [map_unEn hp, la2, lb2, hr, Bool.true_and]
  rfl
end Lw

set_option maxHeartbeats 4000000
namespace Lw
open PySem Fu
local macro_rules | `(tactic| walk_at "e1") => `(tactic| first
  | with_reducible refine eo_seq ?_ | (with_reducible refine then_nx' ?_; refine ⟨?_, ?_, ?_⟩; rotate_left; · (try dsimp only [List.set, List.length_cons, List.length_nil, List.cons_append, List.nil_append, Nat.zero_add, Nat.reduceAdd]); exact rfl) | with_reducible refine then_rt ?_ | with_reducible refine eo_if ?_ | with_reducible refine eo_ret ?_ | with_reducible refine eo_set ?_ | with_reducible refine eo_asg ?_ | with_reducible refine eo_drop ?_ | with_reducible refine eo_nx ?_ | with_reducible refine eo_par ?_ | with_reducible refine eo_own ?_ | with_reducible refine eo_retN ?_ | with_reducible refine eo_for ?_ | with_reducible refine eo_retO ?_
  | with_reducible refine ev_c ?_ | (with_reducible refine ev_var ?_; refine ⟨_, rfl, ?_⟩) | with_reducible refine ev_bin ?_ | with_reducible refine ev_un ?_ | with_reducible refine ev_nil ?_ | with_reducible refine ev_cons ?_
  | with_reducible refine ev_tup ?_ | with_reducible refine ev_lst ?_ | with_reducible refine ev_call ?_ | with_reducible refine ev_callF ?_ | with_reducible refine ev_isi ?_ | with_reducible refine ev_isi2 ?_ | with_reducible refine ev_andV ?_ | with_reducible refine ev_orV ?_ | with_reducible refine ev_notV ?_
  | with_reducible refine ev_B ?_ | with_reducible refine ev_and ?_ | with_reducible refine ev_or ?_ | with_reducible refine ev_not ?_ | with_reducible refine ev_yes ?_ | with_reducible refine ev_if ?_ | with_reducible refine ev_no ?_ | with_reducible refine ev_so ?_ | with_reducible refine ev_sl ?_ | with_reducible refine ev_items ?_
  | (with_reducible refine ev_ixO ?_; refine ⟨_, _, rfl, rfl, ?_⟩) | (with_reducible refine ev_varO ?_; refine ⟨_, _, rfl, rfl, ?_⟩) | (with_reducible refine ev_lenO ?_; refine ⟨_, _, rfl, rfl, ?_⟩) | (with_reducible refine ev_scrSl ?_; refine ⟨_, rfl, ?_⟩) | (with_reducible refine ev_scrLen ?_; refine ⟨_, rfl, ?_⟩) | (with_reducible refine ev_callScr ?_; refine ⟨_, rfl, ?_⟩) | (with_reducible refine ev_OL ?_; refine ⟨_, _, rfl, rfl, ?_⟩) | with_reducible refine ev_OR ?_ | with_reducible refine ev_rep ?_ | with_reducible refine ev_listRng1 ?_ | with_reducible refine eo_setO ?_
  | with_reducible refine es_name ?_ | with_reducible refine es_tup2 ?_ | with_reducible refine es_tup3 ?_
  | with_reducible refine ed_addI ?_ | with_reducible refine ed_subI ?_ | with_reducible refine ed_cmp ?_ | with_reducible refine ed_eqI ?_ | with_reducible refine ed_neI ?_ | with_reducible refine ed_slT ?_ | with_reducible refine ed_slL ?_ | with_reducible refine ed_lenT ?_ | with_reducible refine ed_lenL ?_ | with_reducible refine ed_lenS ?_ | with_reducible refine ed_inS ?_ | with_reducible refine ed_itT ?_ | with_reducible refine ed_itL ?_ | with_reducible refine ed_tupL ?_ | with_reducible refine ed_tupT ?_ | with_reducible refine ed_listL ?_ | with_reducible refine ed_listT ?_ | with_reducible refine ed_neg ?_ | with_reducible refine ed_max ?_ | with_reducible refine ed_min ?_ | with_reducible refine ed_intB ?_)
local macro_rules | `(tactic| walk_at "e2") => `(tactic| first
  | walk_at "e1" | with_reducible refine ⟨_, rfl, ?_⟩ | with_reducible refine ⟨_, _, rfl, ?_⟩
  | with_reducible refine And.intro (Eq.refl (List.length _)) ?_ | with_reducible refine And.intro (Nat.le_of_ble_eq_true (n := List.length _) rfl) ?_
  | with_reducible refine And.intro (Eq.refl (_ : Sx)) (?_ : Ed _ _)
  | with_reducible exact gives_nx | with_reducible (refine gives_rt ?_; rfl))
local macro_rules | `(tactic| walk_at "e") => `(tactic| repeat walk_at "e2")
/-- begin a def's spec -/
local macro_rules | `(tactic| walk_at "i") => `(tactic| simp only [initS, List.map_cons, List.map_nil, List.length_cons, List.length_nil, Nat.reduceAdd, Nat.reduceSub, List.replicate, List.cons_append, List.nil_append])
namespace Sp
/-! ### the spring -/
structure Reel (b : Nat) (cs : List D) : Prop where
  ex : ∃ (f s n : Int), cs = [.int f, .int s, .int n] ∧ 0 ≤ f ∧ 0 ≤ s ∧ s < 2305843009213693951 ∧ 0 ≤ n ∧ n + b ≤ 18446744073709551616
theorem Reel.mono {a b : Nat} {cs : List D} (h : Reel a cs) (l : b ≤ a) : Reel b cs := by
  obtain ⟨f, s, n, h1, h2, h3, h4, h5, h6⟩ := h
  exact ⟨f, s, n, h1, h2, h3, h4, h5, by omega⟩
theorem log_lt {i : Int} {k : Nat} (h : i.natAbs < 2 ^ (k + 1)) : i.natAbs.log2 ≤ k := by
  by_cases z : i.natAbs = 0
  · rw [z]; simp
  · exact Nat.le_of_lt_succ ((Nat.log2_lt z).mpr h)
theorem mulW {i j : Int} (a : -170141183460469231731687303715884105728 < i ∧ i < 170141183460469231731687303715884105728) (b : -170141183460469231731687303715884105728 < j ∧ j < 170141183460469231731687303715884105728) : L2.CMulW i j := by
  unfold L2.CMulW
  have h1 : i.natAbs.log2 ≤ 126 := log_lt (by show i.natAbs < 170141183460469231731687303715884105728; omega)
  have h2 : j.natAbs.log2 ≤ 126 := log_lt (by show j.natAbs < 170141183460469231731687303715884105728; omega)
  omega
theorem divW {i j : Int} (a : 0 < j ∧ j < 170141183460469231731687303715884105728) : L2.CDivW i j := by
  unfold L2.CDivW
  have h2 : j.natAbs.log2 ≤ 126 := log_lt (by show j.natAbs < 170141183460469231731687303715884105728; omega)
  exact ⟨a.1, by omega⟩
theorem x_draw {b : Nat} {cs : List D} {many : Int} (h : Reel (b + 1) cs) (m0 : 0 < many) (m1 : many ≤ 18446744073709551616) : ∃ d cs', m__law_draw_k15 cs [.int many] = some (d, cs') ∧ ∃ v, d = .int v ∧ 0 ≤ v ∧ v < many ∧ Reel b cs' := by
  obtain ⟨f, s, n, rfl, f0, s0, s1, n0, n1⟩ := h
  unfold m__law_draw_k15; refine mIO_of ?_; walk_at "i"; unfold g__law_draw_k15
  walk_at "e"
  refine ed_at (by decide) rfl ?_
  walk_at "e"
  refine ⟨fun ht => ?_, fun ht => ?_⟩
  · walk_at "e"
    refine ed_at (by decide) rfl ?_
    walk_at "e"
    refine ed_modI m0 ?_
    walk_at "e"
    refine ed_at (by decide) rfl ?_
    walk_at "e"
    refine ed_divI (divW ⟨m0, by omega⟩) ?_
    refine ⟨0, _, rfl, rfl, ?_⟩
    walk_at "e"
    refine ⟨rfl, 0, rfl, by simp, ?_⟩
    walk_at "e"
    exact ⟨_, rfl, _, rfl, Int.emod_nonneg _ (by omega), Int.emod_lt_of_pos _ m0, f / many, s, n, rfl, Int.ediv_nonneg f0 (by omega), s0, s1, n0, by omega⟩
  · walk_at "e"
    refine ed_at (by decide) rfl ?_
    walk_at "e"
    refine ⟨0, _, rfl, rfl, ?_⟩
    walk_at "e"
    refine ⟨rfl, 2, rfl, by simp, ?_⟩
    walk_at "e"
    refine ed_at (by decide) rfl ?_
    walk_at "e"
    refine ed_at (by decide) rfl ?_
    walk_at "e"
    refine ed_mulI (mulW ⟨by omega, by omega⟩ ⟨by omega, by omega⟩) ?_
    walk_at "e"
    refine ed_modI (by decide) ?_
    walk_at "e"
    refine ed_at (by decide) rfl ?_
    walk_at "e"
    refine ed_mulI (mulW ⟨by omega, by omega⟩ ⟨by omega, by omega⟩) ?_
    walk_at "e"
    refine ed_at (by decide) rfl ?_
    walk_at "e"
    refine ed_mulI (mulW ⟨by omega, by omega⟩ ⟨by omega, by omega⟩) ?_
    walk_at "e"
    refine ed_modI (by decide) ?_
    refine ⟨0, _, rfl, rfl, ?_⟩
    walk_at "e"
    refine ⟨rfl, 1, rfl, by simp, ?_⟩
    walk_at "e"
    refine ed_at (by decide) rfl ?_
    walk_at "e"
    refine ed_divI (divW ⟨by decide, by decide⟩) ?_
    walk_at "e"
    refine ed_modI m0 ?_
    exact ⟨_, rfl, _, rfl, Int.emod_nonneg _ (by omega), Int.emod_lt_of_pos _ m0, f, _, n + 1, rfl, f0, Int.emod_nonneg _ (by decide), Int.emod_lt_of_pos _ (by decide), by omega, by omega⟩
theorem ed_abs {Q : D → Prop} {i : Int} (h : Q (.int i.natAbs)) : Ed (dAbs [.int i]) Q := ⟨_, rfl, by
  have : (if i < 0 then -i else i) = (i.natAbs : Int) := by split <;> omega
  rw [this]; exact h⟩
theorem x_spring {ns : List Int} (h : ns.length ≤ 63) : ∃ cs, m__law_spring ns = some cs ∧ Reel 4294967296 cs := by
  unfold m__law_spring; refine mScrN_of ?_; walk_at "i"; unfold g__law_spring
  walk_at "e"
  rw [cut_to (by decide), List.take_of_length_le (by simpa using h)]
  have hlen : (ns.map PyData.int).length ≤ 63 := by simpa using h
  refine eo_loop (fun i S => ∃ f st x, S = ⟨[some (.scr ns), some (.dat (.int f)), some (.dat (.int st)), x], []⟩ ∧ 0 ≤ f ∧ f < 2 ^ (200 * i) ∧ 0 ≤ st ∧ st < 2305843009213693951) ⟨_, _, _, rfl, by decide, by decide, by decide, by decide⟩ ?_ ?_
  · rintro i d S hd ⟨f, st, x, rfl, f0, f1, h0, h1⟩
    have hi : i < 63 := by
      have := (List.getElem?_eq_some_iff.mp hd).1
      omega
    obtain ⟨c, hc, rfl⟩ := List.mem_map.mp (List.mem_of_getElem? hd)
    have hp : (2 : Int) ^ (200 * (i + 1)) = 2 ^ (200 * i) * 2 ^ 200 := by rw [← Int.pow_add]; congr 1
    have hpos : (0 : Int) < 2 ^ (200 * i) := Int.pow_pos (by decide)
    have hbig : (10 : Int) ^ 60 < 2 ^ 200 := by decide
    have mono : f < 2 ^ (200 * (i + 1)) := by
      rw [hp]
      have : (2 : Int) ^ (200 * i) * 1 ≤ 2 ^ (200 * i) * 2 ^ 200 := Int.mul_le_mul_of_nonneg_left (by decide) (by omega)
      omega
    walk_at "e"
    refine ed_abs ?_
    walk_at "e"
    refine ed_powI (by decide) ?_
    walk_at "e"
    refine ⟨fun ht => ?_, fun ht => ?_⟩
    · walk_at "e"
      refine ed_powI (by decide) ?_
      refine ed_mulI ?_ ?_
      · unfold L2.CMulW
        have e1 : f.natAbs.log2 ≤ 200 * i := log_lt (by
          have : (f.natAbs : Int) < ((2 ^ (200 * i + 1) : Nat) : Int) := by
            push_cast
            rw [Int.pow_succ]
            omega
          exact Int.ofNat_lt.mp this)
        have e2 : ((10 : Int) ^ (60 : Int).toNat).natAbs.log2 ≤ 200 := by decide
        omega
      walk_at "e"
      refine ed_abs ?_
      walk_at "e"
      refine ed_powI (by decide) ?_
      refine ed_modI (by decide) ?_
      walk_at "e"
      refine ed_mulI (mulW ⟨by omega, by omega⟩ ⟨by decide, by decide⟩) ?_
      walk_at "e"
      refine ed_modI (by decide) ?_
      walk_at "e"
      refine ed_modI (by decide) ?_
      refine ⟨_, rfl, _, _, _, rfl, ?_, ?_, Int.emod_nonneg _ (by decide), Int.emod_lt_of_pos _ (by decide)⟩
      · have := Int.emod_nonneg (c.natAbs : Int) (show (10 : Int) ^ (60 : Int).toNat ≠ 0 by decide)
        have := Int.mul_nonneg f0 (show (0 : Int) ≤ 10 ^ (60 : Int).toNat by decide)
        omega
      · have a1 := Int.emod_lt_of_pos (c.natAbs : Int) (show (0 : Int) < 10 ^ (60 : Int).toNat by decide)
        have a2 : (f + 1) * (10 : Int) ^ (60 : Int).toNat ≤ 2 ^ (200 * i) * 10 ^ (60 : Int).toNat := Int.mul_le_mul_of_nonneg_right (by omega) (by decide)
        have a3 : (2 : Int) ^ (200 * i) * 10 ^ (60 : Int).toNat ≤ 2 ^ (200 * i) * 2 ^ 200 := Int.mul_le_mul_of_nonneg_left (by decide) (by omega)
        rw [hp]
        rw [Int.add_mul, Int.one_mul] at a2
        omega
    · walk_at "e"
      refine ed_mulI (mulW ⟨by omega, by omega⟩ ⟨by decide, by decide⟩) ?_
      walk_at "e"
      refine ed_modI (by decide) ?_
      walk_at "e"
      refine ed_modI (by decide) ?_
      exact ⟨_, rfl, _, _, _, rfl, f0, mono, Int.emod_nonneg _ (by decide), Int.emod_lt_of_pos _ (by decide)⟩
  · rintro S ⟨f, st, x, rfl, f0, f1, h0, h1⟩
    walk_at "e"
    exact ⟨_, _, _, rfl, rfl, f, st, 0, rfl, f0, h0, h1, by decide, by decide⟩
theorem ev_draw {sl : List (Option R)} {os : List (Option Cell)} {i : Nat} {g : M (List D)} {Q : D → Sx → Prop} {b : Nat}
    (h : ∃ j, sl[i]? = some (some (.own j)) ∧ Ev (g ⟨sl, os⟩) fun ds S1 => ∃ cs many, S1.os[j]? = some (some (.lst cs)) ∧ ds = [.int many] ∧ 0 < many ∧ many ≤ 18446744073709551616 ∧ Reel (b + 1) cs ∧ ∀ v cs', 0 ≤ v → v < many → Reel b cs' → Q (.int v) ⟨S1.sl, S1.os.set j (some (.lst cs'))⟩) : Ev (gIO i 1 m__law_draw_k15 g ⟨sl, os⟩) Q := by
  obtain ⟨j, hi, h⟩ := h
  refine ev_IO ⟨j, hi, h.mono ?_⟩
  rintro ds S1 ⟨cs, many, hc, rfl, m0, m1, hR, h⟩
  obtain ⟨d, cs', e, v, rfl, v0, v1, hR'⟩ := x_draw hR m0 m1
  exact ⟨cs, hc, rfl, _, cs', e, h v cs' v0 v1 hR'⟩
end Sp
end Lw

set_option maxHeartbeats 4000000
namespace Lw
open PySem Fu
local macro_rules | `(tactic| walk_at "e1") => `(tactic| first
  | with_reducible refine eo_seq ?_ | (with_reducible refine then_nx' ?_; refine ⟨?_, ?_, ?_⟩; rotate_left; · (try dsimp only [List.set, List.length_cons, List.length_nil, List.cons_append, List.nil_append, Nat.zero_add, Nat.reduceAdd]); exact rfl) | with_reducible refine then_rt ?_ | with_reducible refine eo_if ?_ | with_reducible refine eo_ret ?_ | with_reducible refine eo_set ?_ | with_reducible refine eo_asg ?_ | with_reducible refine eo_drop ?_ | with_reducible refine eo_nx ?_ | with_reducible refine eo_par ?_ | with_reducible refine eo_own ?_ | with_reducible refine eo_retN ?_ | with_reducible refine eo_for ?_ | with_reducible refine eo_retO ?_
  | with_reducible refine ev_c ?_ | (with_reducible refine ev_var ?_; refine ⟨_, rfl, ?_⟩) | with_reducible refine ev_bin ?_ | with_reducible refine ev_un ?_ | with_reducible refine ev_nil ?_ | with_reducible refine ev_cons ?_
  | with_reducible refine ev_tup ?_ | with_reducible refine ev_lst ?_ | with_reducible refine ev_call ?_ | with_reducible refine ev_callF ?_ | with_reducible refine ev_isi ?_ | with_reducible refine ev_isi2 ?_ | with_reducible refine ev_andV ?_ | with_reducible refine ev_orV ?_ | with_reducible refine ev_notV ?_
  | with_reducible refine ev_B ?_ | with_reducible refine ev_and ?_ | with_reducible refine ev_or ?_ | with_reducible refine ev_not ?_ | with_reducible refine ev_yes ?_ | with_reducible refine ev_if ?_ | with_reducible refine ev_no ?_ | with_reducible refine ev_so ?_ | with_reducible refine ev_sl ?_ | with_reducible refine ev_items ?_
  | (with_reducible refine ev_ixO ?_; refine ⟨_, _, rfl, rfl, ?_⟩) | (with_reducible refine ev_varO ?_; refine ⟨_, _, rfl, rfl, ?_⟩) | (with_reducible refine ev_lenO ?_; refine ⟨_, _, rfl, rfl, ?_⟩) | (with_reducible refine ev_scrSl ?_; refine ⟨_, rfl, ?_⟩) | (with_reducible refine ev_scrLen ?_; refine ⟨_, rfl, ?_⟩) | (with_reducible refine ev_callScr ?_; refine ⟨_, rfl, ?_⟩) | (with_reducible refine ev_OL ?_; refine ⟨_, _, rfl, rfl, ?_⟩) | with_reducible refine ev_OR ?_ | with_reducible refine ev_rep ?_ | with_reducible refine ev_listRng1 ?_ | with_reducible refine eo_setO ?_
  | with_reducible refine es_name ?_ | with_reducible refine es_tup2 ?_ | with_reducible refine es_tup3 ?_
  | with_reducible refine ed_addI ?_ | with_reducible refine ed_subI ?_ | with_reducible refine ed_cmp ?_ | with_reducible refine ed_eqI ?_ | with_reducible refine ed_neI ?_ | with_reducible refine ed_slT ?_ | with_reducible refine ed_slL ?_ | with_reducible refine ed_lenT ?_ | with_reducible refine ed_lenL ?_ | with_reducible refine ed_lenS ?_ | with_reducible refine ed_inS ?_ | with_reducible refine ed_itT ?_ | with_reducible refine ed_itL ?_ | with_reducible refine ed_tupL ?_ | with_reducible refine ed_tupT ?_ | with_reducible refine ed_listL ?_ | with_reducible refine ed_listT ?_ | with_reducible refine ed_neg ?_ | with_reducible refine ed_max ?_ | with_reducible refine ed_min ?_ | with_reducible refine ed_intB ?_)
local macro_rules | `(tactic| walk_at "e2") => `(tactic| first
  | walk_at "e1" | with_reducible refine ⟨_, rfl, ?_⟩ | with_reducible refine ⟨_, _, rfl, ?_⟩
  | with_reducible refine And.intro (Eq.refl (List.length _)) ?_ | with_reducible refine And.intro (Nat.le_of_ble_eq_true (n := List.length _) rfl) ?_
  | with_reducible refine And.intro (Eq.refl (_ : Sx)) (?_ : Ed _ _)
  | with_reducible exact gives_nx | with_reducible (refine gives_rt ?_; rfl))
local macro_rules | `(tactic| walk_at "e") => `(tactic| repeat walk_at "e2")
/-- begin a def's spec -/
local macro_rules | `(tactic| walk_at "i") => `(tactic| simp only [initS, List.map_cons, List.map_nil, List.length_cons, List.length_nil, Nat.reduceAdd, Nat.reduceSub, List.replicate, List.cons_append, List.nil_append])
def rv (es : List (Int × Int)) : List (Int × Int) := es.reverse.map far
def rot (k : Nat) (es : List (Int × Int)) : List (Int × Int) := es.drop k ++ es.take k
def ways (es : List (Int × Int)) : List (List (Int × Int)) := ((List.range es.length).map fun k => rot k es) ++ ((List.range es.length).map fun k => rot k (rv es))
def along (ls : List Ln) (es : List (Int × Int)) : List Int := es.map (plc ls) ++ [plc ls (far (lastE es))]
theorem rv_len (es : List (Int × Int)) : (rv es).length = es.length := by simp [rv]
/-! ### rounds and rides, in plain words -/
def chain (ls : List Ln) : List (Int × Int) → Bool
  | [] => true
  | [_] => true
  | e :: f :: r => goesB ls e f && chain ls (f :: r)
theorem chain_zip (ls : List Ln) : ∀ es : List (Int × Int), ((es.zip es.tail).all fun q => goesB ls q.1 q.2) = chain ls es
  | [] => rfl
  | [_] => rfl
  | e :: f :: r => by
    have := chain_zip ls (f :: r)
    simp only [List.tail_cons, List.zip_cons_cons, List.all_cons, chain] at this ⊢
    rw [this]
theorem rideB_iff {ls : List Ln} {es : List (Int × Int)} : rideB ls es = true ↔ es ≠ [] ∧ (∀ e ∈ es, EndOk ls.length e) ∧ (es.map Prod.fst).Nodup ∧ chain ls es = true := by
  unfold rideB
  rw [chain_zip]
  simp only [Bool.and_eq_true, decide_eq_true_eq, List.all_eq_true]
  exact ⟨fun h => ⟨h.1.1.1, h.1.1.2, h.1.2, h.2⟩, fun h => ⟨⟨⟨h.1, h.2.1⟩, h.2.2.1⟩, h.2.2.2⟩⟩
theorem roundB_iff {ls : List Ln} {es : List (Int × Int)} : roundB ls es = true ↔ rideB ls es = true ∧ goesB ls (lastE es) (headE es) = true := by
  unfold roundB
  rw [Bool.and_eq_true]
theorem mem_ways {es w : List (Int × Int)} : w ∈ ways es ↔ ∃ k, k < es.length ∧ (w = rot k es ∨ w = rot k (rv es)) := by
  unfold ways
  simp only [List.mem_append, List.mem_map, List.mem_range]
  constructor
  · rintro (⟨k, hk, rfl⟩ | ⟨k, hk, rfl⟩)
    · exact ⟨k, hk, .inl rfl⟩
    · exact ⟨k, hk, .inr rfl⟩
  · rintro ⟨k, hk, rfl | rfl⟩
    · exact .inl ⟨k, hk, rfl⟩
    · exact .inr ⟨k, hk, rfl⟩
/-! ### the least of all ways -/
theorem lt_irr (a : D) : PySem.W.dataLt a a = false := (PyProof.Rows.listOrd PyProof.Rows.itemOrd).irrefl _
theorem lt_neg {a b c : D} (h1 : PySem.W.dataLt a b = false) (h2 : PySem.W.dataLt b c = false) : PySem.W.dataLt a c = false := by
  cases h : PySem.W.dataLt a c with
  | false => rfl
  | true =>
    rcases (PyProof.Rows.listOrd PyProof.Rows.itemOrd).negTrans (PySem.W.keyToks a) (PySem.W.keyToks b) (PySem.W.keyToks c) h with g | g
    · exact absurd (show PySem.W.dataLt a b = true from g) (by rw [h1]; simp)
    · exact absurd (show PySem.W.dataLt b c = true from g) (by rw [h2]; simp)
theorem lt_asym {a b : D} (h : PySem.W.dataLt a b = true) : PySem.W.dataLt b a = false := by
  cases h2 : PySem.W.dataLt b a with
  | false => rfl
  | true =>
    have := (PyProof.Rows.listOrd PyProof.Rows.itemOrd).trans (PySem.W.keyToks a) (PySem.W.keyToks b) (PySem.W.keyToks a) h h2
    rw [show (PyProof.Rows.listOrd PyProof.Rows.itemOrd).blt (PySem.W.keyToks a) (PySem.W.keyToks a) = false from lt_irr a] at this
    cases this
theorem min_spec : ∀ (xs : List D) (x : D), PySem.W.minD x xs ∈ x :: xs ∧ ∀ y ∈ x :: xs, PySem.W.dataLt y (PySem.W.minD x xs) = false
  | [], x => ⟨List.mem_cons_self, fun y hy => by rw [List.mem_singleton.mp hy]; exact lt_irr x⟩
  | z :: zs, x => by
    have e : PySem.W.minD x (z :: zs) = PySem.W.minD (if PySem.W.dataLt z x then z else x) zs := rfl
    obtain ⟨h1, h2⟩ := min_spec zs (if PySem.W.dataLt z x then z else x)
    rw [← e] at h1 h2
    by_cases hz : PySem.W.dataLt z x = true
    · rw [if_pos hz] at h1 h2
      refine ⟨List.mem_cons_of_mem _ h1, fun y hy => ?_⟩
      rcases List.mem_cons.mp hy with rfl | hy
      · exact lt_neg (lt_asym hz) (h2 z List.mem_cons_self)
      · exact h2 y hy
    · rw [if_neg hz] at h1 h2
      have hz : PySem.W.dataLt z x = false := by simpa using hz
      refine ⟨?_, fun y hy => ?_⟩
      · rcases List.mem_cons.mp h1 with g | g
        · rw [g]; exact List.mem_cons_self
        · exact List.mem_cons_of_mem _ (List.mem_cons_of_mem _ g)
      · rcases List.mem_cons.mp hy with rfl | hy
        · exact h2 _ List.mem_cons_self
        · rcases List.mem_cons.mp hy with rfl | hy
          · exact lt_neg hz (h2 x List.mem_cons_self)
          · exact h2 y (List.mem_cons_of_mem _ hy)
/-- the least one of the ways -/
def IsLeast (ws : List (List (Int × Int))) (m : List (Int × Int)) : Prop := m ∈ ws ∧ ∀ w ∈ ws, PySem.W.dataLt (lE w) (lE m) = false
theorem min_least {w : List (Int × Int)} {ws : List (List (Int × Int))} : ∃ m, PySem.W.minD (lE w) (ws.map lE) = lE m ∧ IsLeast (w :: ws) m := by
  obtain ⟨h1, h2⟩ := min_spec (ws.map lE) (lE w)
  rw [← List.map_cons] at h1
  obtain ⟨m, hm, e⟩ := List.mem_map.mp h1
  refine ⟨m, e.symm, hm, fun v hv => ?_⟩
  have := h2 (lE v) (by rw [← List.map_cons]; exact List.mem_map_of_mem hv)
  rwa [← e] at this
end Lw

set_option maxHeartbeats 4000000
namespace Lw
open PySem Fu
local macro_rules | `(tactic| walk_at "e1") => `(tactic| first
  | with_reducible refine eo_seq ?_ | (with_reducible refine then_nx' ?_; refine ⟨?_, ?_, ?_⟩; rotate_left; · (try dsimp only [List.set, List.length_cons, List.length_nil, List.cons_append, List.nil_append, Nat.zero_add, Nat.reduceAdd]); exact rfl) | with_reducible refine then_rt ?_ | with_reducible refine eo_if ?_ | with_reducible refine eo_ret ?_ | with_reducible refine eo_set ?_ | with_reducible refine eo_asg ?_ | with_reducible refine eo_drop ?_ | with_reducible refine eo_nx ?_ | with_reducible refine eo_par ?_ | with_reducible refine eo_own ?_ | with_reducible refine eo_retN ?_ | with_reducible refine eo_for ?_ | with_reducible refine eo_retO ?_
  | with_reducible refine ev_c ?_ | (with_reducible refine ev_var ?_; refine ⟨_, rfl, ?_⟩) | with_reducible refine ev_bin ?_ | with_reducible refine ev_un ?_ | with_reducible refine ev_nil ?_ | with_reducible refine ev_cons ?_
  | with_reducible refine ev_tup ?_ | with_reducible refine ev_lst ?_ | with_reducible refine ev_call ?_ | with_reducible refine ev_callF ?_ | with_reducible refine ev_isi ?_ | with_reducible refine ev_isi2 ?_ | with_reducible refine ev_andV ?_ | with_reducible refine ev_orV ?_ | with_reducible refine ev_notV ?_
  | with_reducible refine ev_B ?_ | with_reducible refine ev_and ?_ | with_reducible refine ev_or ?_ | with_reducible refine ev_not ?_ | with_reducible refine ev_yes ?_ | with_reducible refine ev_if ?_ | with_reducible refine ev_no ?_ | with_reducible refine ev_so ?_ | with_reducible refine ev_sl ?_ | with_reducible refine ev_items ?_
  | (with_reducible refine ev_ixO ?_; refine ⟨_, _, rfl, rfl, ?_⟩) | (with_reducible refine ev_varO ?_; refine ⟨_, _, rfl, rfl, ?_⟩) | (with_reducible refine ev_lenO ?_; refine ⟨_, _, rfl, rfl, ?_⟩) | (with_reducible refine ev_scrSl ?_; refine ⟨_, rfl, ?_⟩) | (with_reducible refine ev_scrLen ?_; refine ⟨_, rfl, ?_⟩) | (with_reducible refine ev_callScr ?_; refine ⟨_, rfl, ?_⟩) | (with_reducible refine ev_OL ?_; refine ⟨_, _, rfl, rfl, ?_⟩) | with_reducible refine ev_OR ?_ | with_reducible refine ev_rep ?_ | with_reducible refine ev_listRng1 ?_ | with_reducible refine eo_setO ?_
  | with_reducible refine es_name ?_ | with_reducible refine es_tup2 ?_ | with_reducible refine es_tup3 ?_
  | with_reducible refine ed_addI ?_ | with_reducible refine ed_subI ?_ | with_reducible refine ed_cmp ?_ | with_reducible refine ed_eqI ?_ | with_reducible refine ed_neI ?_ | with_reducible refine ed_slT ?_ | with_reducible refine ed_slL ?_ | with_reducible refine ed_lenT ?_ | with_reducible refine ed_lenL ?_ | with_reducible refine ed_lenS ?_ | with_reducible refine ed_inS ?_ | with_reducible refine ed_itT ?_ | with_reducible refine ed_itL ?_ | with_reducible refine ed_tupL ?_ | with_reducible refine ed_tupT ?_ | with_reducible refine ed_listL ?_ | with_reducible refine ed_listT ?_ | with_reducible refine ed_neg ?_ | with_reducible refine ed_max ?_ | with_reducible refine ed_min ?_ | with_reducible refine ed_intB ?_)
local macro_rules | `(tactic| walk_at "e2") => `(tactic| first
  | walk_at "e1" | with_reducible refine ⟨_, rfl, ?_⟩ | with_reducible refine ⟨_, _, rfl, ?_⟩
  | with_reducible refine And.intro (Eq.refl (List.length _)) ?_ | with_reducible refine And.intro (Nat.le_of_ble_eq_true (n := List.length _) rfl) ?_
  | with_reducible refine And.intro (Eq.refl (_ : Sx)) (?_ : Ed _ _)
  | with_reducible exact gives_nx | with_reducible (refine gives_rt ?_; rfl))
local macro_rules | `(tactic| walk_at "e") => `(tactic| repeat walk_at "e2")
/-- begin a def's spec -/
local macro_rules | `(tactic| walk_at "i") => `(tactic| simp only [initS, List.map_cons, List.map_nil, List.length_cons, List.length_nil, Nat.reduceAdd, Nat.reduceSub, List.replicate, List.cons_append, List.nil_append])
namespace Sp
/-! ### the circle that the law plants -/
def lnO : Option Ln → D
  | none => .none
  | some l => ln l
/-- four signs less two -/
theorem signs_left (a b : Nat) : (([97, 98, 99, 100] : List Nat).filter fun c => decide (c ≠ a) && decide (c ≠ b)) ≠ [] := by
  intro h
  rw [List.filter_eq_nil_iff] at h
  have h1 := h 97 (by simp)
  have h2 := h 98 (by simp)
  have h3 := h 99 (by simp)
  simp at h1 h2 h3
  omega
def lastN (sg : List Nat) : Nat := sg.getLast?.getD 0
def headN (sg : List Nat) : Nat := sg.head?.getD 0
structure Signs (sg : List Nat) : Prop where
  all : ∀ c ∈ sg, 97 ≤ c ∧ c ≤ 100
  adj : ∀ i a b, sg[i]? = some a → sg[i + 1]? = some b → a ≠ b
theorem Signs.add {sg : List Nat} {c : Nat} (h : Signs sg) (c0 : 97 ≤ c ∧ c ≤ 100) (h2 : sg ≠ [] → c ≠ lastN sg) : Signs (sg ++ [c]) := by
  refine ⟨fun x hx => ?_, fun i a b ha hb => ?_⟩
  · rcases List.mem_append.mp hx with hx | hx
    · exact h.all x hx
    · rw [List.mem_singleton.mp hx]; exact c0
  · by_cases hi : i + 1 < sg.length
    · rw [List.getElem?_append_left (by omega)] at ha
      rw [List.getElem?_append_left hi] at hb
      exact h.adj i a b ha hb
    · have hl : i + 1 < (sg ++ [c]).length := (List.getElem?_eq_some_iff.mp hb).1
      rw [List.length_append, List.length_singleton] at hl
      have hn : i + 1 = sg.length := by omega
      rw [List.getElem?_append_right (by omega), hn, Nat.sub_self] at hb
      have hb : c = b := by simpa using hb
      rw [List.getElem?_append_left (by omega)] at ha
      have hs : sg ≠ [] := fun z => by subst z; simp at hn
      have : a = lastN sg := by
        unfold lastN
        rw [List.getLast?_eq_getElem?, show sg.length - 1 = i by omega, ha]; rfl
      subst hb
      exact fun e => h2 hs (by rw [← e, this])
theorem ch_ne {a b : Nat} (ha : a < 0x110000) (hb : b < 0x110000) {Q : D → Prop} (h : Q (.bool (!decide (a = b)))) : Ed (dNe (ch a) (ch b)) Q := Ed.of (dNe_ch ha hb) h
theorem abcd : chars "abcd" = ([97, 98, 99, 100] : List Nat).map ch := rfl
def sgF (f : Nat → Bool) : D → Bool
  | .str x => match x.cps.toList with
    | [c] => f c
    | _ => false
  | _ => false
theorem sgF_ch (f : Nat → Bool) (c : Nat) : sgF f (ch c) = f c := rfl
theorem filter_sgF (f : Nat → Bool) (l : List Nat) : (l.map ch).filter (sgF f) = (l.filter f).map ch := by
  rw [List.filter_map]; rfl
theorem getLast_ch {sg : List Nat} (h : sg ≠ []) : (sg.map ch).getLast? = some (ch (lastN sg)) := by
  unfold lastN
  rw [List.getLast?_map, List.getLast?_eq_some_getLast h]; rfl
theorem head_ch {sg : List Nat} (h : sg ≠ []) : (sg.map ch)[0]? = some (ch (headN sg)) := by
  cases sg with
  | nil => exact absurd rfl h
  | cons a sg => rfl
theorem lastN_mem {sg : List Nat} (h : sg ≠ []) : lastN sg ∈ sg := by
  unfold lastN
  rw [List.getLast?_eq_some_getLast h]
  exact List.getLast_mem h
theorem headN_mem {sg : List Nat} (h : sg ≠ []) : headN sg ∈ sg := by
  cases sg with
  | nil => exact absurd rfl h
  | cons a sg => exact List.mem_cons_self
/-- the line at one step of the circle -/
def stepLn (n : Nat) (sp : List Int) (sg : List Nat) (i : Nat) (s : Int) : Ln :=
  if s = 0 then (sp.getD i 0, sp.getD ((i + 1) % n) 0, sg.getD i 0) else (sp.getD ((i + 1) % n) 0, sp.getD i 0, sg.getD i 0)
structure Half (p : Int) (first n k : Nat) (sp : List Int) (sg : List Nat) (L : List Nat) (qs : List (Option Ln)) (es : List (Int × Int)) : Prop where
  len : L.length + k = n
  nd : L.Nodup
  lt : ∀ m ∈ L, m < n
  qlen : qs.length = n
  free : ∀ m ∈ L, qs[m]? = some none
  full : ∀ m, m < n → m ∉ L → ∃ l, qs[m]? = some (some l) ∧ LnOk p l
  elen : es.length = k
  at' : ∀ i, i < k → ∃ (m : Nat) (s : Int), es[i]? = some (((first + m : Nat) : Int), s) ∧ m < n ∧ m ∉ L ∧ (s = 0 ∨ s = 1) ∧ qs[m]? = some (some (stepLn n sp sg i s))
  end' : (es.map Prod.fst).Nodup
  sub : ∀ e ∈ es, ∃ m : Nat, e.1 = ((first + m : Nat) : Int) ∧ m < n ∧ m ∉ L
theorem Half.step {p : Int} {first n k : Nat} {sp : List Int} {sg L : List Nat} {qs : List (Option Ln)} {es : List (Int × Int)} {v m : Nat} {s : Int} (h : Half p first n k sp sg L qs es) (hv : L[v]? = some m) (hs : s = 0 ∨ s = 1) (hl : LnOk p (stepLn n sp sg k s)) :
    Half p first n (k + 1) sp sg (L.eraseIdx v) (qs.set m (some (stepLn n sp sg k s))) (es ++ [(((first + m : Nat) : Int), s)]) := by
  obtain ⟨hvl, hve⟩ := List.getElem?_eq_some_iff.mp hv
  have hm : m ∈ L := List.mem_of_getElem? hv
  have hmn := h.lt m hm
  have hne : m ∉ L.eraseIdx v := by
    intro z
    rw [List.mem_eraseIdx_iff_getElem?] at z
    obtain ⟨i, hi, he⟩ := z
    obtain ⟨hil, hie⟩ := List.getElem?_eq_some_iff.mp he
    exact hi ((List.getElem_inj h.nd).mp (hie.trans hve.symm))
  have hsub : ∀ x ∈ L.eraseIdx v, x ∈ L := fun x hx => List.mem_of_mem_eraseIdx hx
  have hback : ∀ x ∈ L, x ≠ m → x ∈ L.eraseIdx v := fun x hx hxm => by
    rw [List.mem_eraseIdx_iff_getElem?]
    obtain ⟨i, hi⟩ := List.mem_iff_getElem?.mp hx
    refine ⟨i, fun e => ?_, hi⟩
    subst e
    rw [hv] at hi
    cases hi; exact hxm rfl
  refine ⟨?_, h.nd.sublist (List.eraseIdx_sublist L v), fun x hx => h.lt x (hsub x hx), by rw [List.length_set]; exact h.qlen, fun x hx => ?_, fun x hx hxl => ?_, ?_, fun i hi => ?_, ?_, fun e he => ?_⟩
  · rw [List.length_eraseIdx, if_pos hvl]
    have := h.len
    omega
  · rw [List.getElem?_set_ne (fun e : m = x => hne (by rw [e]; exact hx))]
    exact h.free x (hsub x hx)
  · by_cases e : x = m
    · subst e
      exact ⟨_, List.getElem?_set_self (by rw [h.qlen]; exact hx), hl⟩
    · rw [List.getElem?_set_ne (fun z => e z.symm)]
      exact h.full x hx fun z => hxl (hback x z e)
  · rw [List.length_append, h.elen]; rfl
  · by_cases hik : i < k
    · obtain ⟨x, t, h1, h2, h3, h4, h5⟩ := h.at' i hik
      refine ⟨x, t, by rw [List.getElem?_append_left (by rw [h.elen]; exact hik)]; exact h1, h2, fun z => h3 (hsub x z), h4, ?_⟩
      rw [List.getElem?_set_ne (fun z : m = x => h3 (by rw [← z]; exact hm))]
      exact h5
    · have : i = k := by omega
      subst this
      refine ⟨m, s, ?_, hmn, hne, hs, List.getElem?_set_self (by rw [h.qlen]; exact hmn)⟩
      rw [List.getElem?_append_right (by rw [h.elen]; exact Nat.le_refl _), h.elen, Nat.sub_self]; rfl
  · rw [List.map_append, List.nodup_append]
    refine ⟨h.end', by simp, fun a ha c hc => ?_⟩
    obtain ⟨e, he, rfl⟩ := List.mem_map.mp ha
    have hc : c = ((first + m : Nat) : Int) := by simpa using hc
    obtain ⟨x, h1, h2, h3⟩ := h.sub e he
    intro z
    have : x = m := by omega
    exact h3 (this ▸ hm)
  · rcases List.mem_append.mp he with he | he
    · obtain ⟨x, h1, h2, h3⟩ := h.sub e he
      exact ⟨x, h1, h2, fun z => h3 (hsub x z)⟩
    · rw [List.mem_singleton.mp he]
      exact ⟨m, rfl, hmn, hne⟩
theorem getD_ok {sp : List Int} {p : Int} (h : ∀ x ∈ sp, 0 ≤ x ∧ x < p) {i : Nat} (hi : i < sp.length) : 0 ≤ sp.getD i 0 ∧ sp.getD i 0 < p := by
  rw [List.getD_eq_getElem?_getD, List.getElem?_eq_getElem hi]
  exact h _ (List.getElem_mem hi)
theorem stepLn_ok {p : Int} {n : Nat} {sp : List Int} {sg : List Nat} {i : Nat} {s : Int} (h : ∀ x ∈ sp, 0 ≤ x ∧ x < p) (hl : sp.length = n) (hg : Signs sg) (hgl : sg.length = n) (hi : i < n) : LnOk p (stepLn n sp sg i s) := by
  have hj : (i + 1) % n < n := Nat.mod_lt _ (by omega)
  obtain ⟨a, b⟩ := getD_ok h (show i < sp.length by omega)
  obtain ⟨c, d⟩ := getD_ok h (show (i + 1) % n < sp.length by omega)
  have hc : Let (sg.getD i 0) := by
    rw [List.getD_eq_getElem?_getD, List.getElem?_eq_getElem (by omega)]
    have := hg.all _ (List.getElem_mem (show i < sg.length by omega))
    exact ⟨this.1, by simp only [Option.getD_some]; omega⟩
  unfold stepLn
  split
  · exact ⟨a, b, c, d, hc⟩
  · exact ⟨c, d, a, b, hc⟩
structure Circ (p : Int) (first n : Nat) (sp : List Int) (sg : List Nat) (ks : List Ln) (es : List (Int × Int)) : Prop where
  spOk : ∀ x ∈ sp, 0 ≤ x ∧ x < p
  spl : sp.length = n
  sgOk : Signs sg
  sgl : sg.length = n
  ends : lastN sg ≠ headN sg
  half : Half p first n n sp sg [] (ks.map some) es
theorem all_some {α : Type} : ∀ {qs : List (Option α)}, (∀ q ∈ qs, ∃ l, q = some l) → ∃ ks : List α, qs = ks.map some
  | [], _ => ⟨[], rfl⟩
  | q :: qs, h => by
    obtain ⟨l, rfl⟩ := h q List.mem_cons_self
    obtain ⟨ks, rfl⟩ := all_some fun x hx => h x (List.mem_cons_of_mem _ hx)
    exact ⟨l :: ks, rfl⟩
theorem eq_of_ints {es : List D} {n : Nat} {P : Int → Prop} (hl : es.length = n) (h : ∀ (i : Nat) (e : D), es[i]? = some e → ∃ v : Int, e = PyData.int v ∧ P v) : ∃ vs : List Int, es = vs.map PyData.int ∧ vs.length = n ∧ ∀ v ∈ vs, P v := by
  induction es generalizing n with
  | nil => exact ⟨[], rfl, hl, fun _ h => nomatch h⟩
  | cons e es ih =>
    obtain ⟨v, rfl, hv⟩ := h 0 e rfl
    obtain ⟨vs, rfl, h2, h3⟩ := ih rfl fun i x hx => h (i + 1) x (by simpa using hx)
    exact ⟨v :: vs, rfl, by simpa using hl, fun x hx => by rcases List.mem_cons.mp hx with rfl | hx; exact hv; exact h3 x hx⟩
theorem good_chs {sg : List Nat} (h : ∀ c ∈ sg, c < 0x110000) : Good 1 (.list (sg.map ch)) := good_list fun d hd => by
  obtain ⟨c, hc, rfl⟩ := List.mem_map.mp hd
  exact good_ch (h c hc)
theorem eo_mid {g h : Sx → Option Out} {S : Sx} {Z : Out → Prop} (P : Sx → Prop) (h1 : Eo (g S) fun o => ∃ S1, o = .nx S1 ∧ P S1) (h2 : ∀ S1, P S1 → Eo (h S1) Z) : Eo (qSeq g h S) Z := by
  obtain ⟨_, e, S1, rfl, p⟩ := h1
  exact eo_seq ⟨_, e, h2 S1 p⟩
theorem map_erase {α β : Type} (f : α → β) : ∀ (l : List α) (i : Nat), (l.map f).eraseIdx i = (l.eraseIdx i).map f
  | [], i => rfl
  | a :: l, 0 => rfl
  | a :: l, i + 1 => by
    show f a :: (l.map f).eraseIdx i = f a :: (l.eraseIdx i).map f
    rw [map_erase f l i]
theorem x_circle {b n first : Nat} {p : Int} {cs : List D} (n0 : 2 ≤ n) (n1 : n ≤ 1000) (p0 : 0 < p) (p1 : p ≤ 1000) (hR : Reel (b + 4 * n) cs) :
    ∃ d cs', m__law_circle cs [.int (n : Int), .int p, .int (first : Int)] = some (d, cs') ∧ ∃ (sp : List Int) (sg : List Nat) (ks : List Ln) (es : List (Int × Int)), d = .tuple [.list (ks.map ln), .list (es.map en)] ∧ Circ p first n sp sg ks es ∧ Reel b cs' := by
  unfold m__law_circle; refine mIO_of ?_; walk_at "i"; unfold g__law_circle
  walk_at "e"
  refine ev_lcIO (fun i os => ∃ cs, os = [some (.lst cs)] ∧ Reel (b + 4 * n - i) cs) (fun _ e => ∃ v, e = .int v ∧ 0 ≤ v ∧ v < p) ?_
  refine ev_rng1 ?_
  walk_at "e"
  refine ⟨by omega, by omega, ⟨_, rfl, hR⟩, ?_, ?_⟩
  · rintro i d os hd ⟨cs, rfl, hR⟩
    obtain ⟨hi, rfl⟩ := rng_at hd
    walk_at "e"
    refine ev_draw (b := b + 4 * n - (i + 1)) ⟨_, rfl, ?_⟩
    walk_at "e"
    refine ⟨_, _, rfl, rfl, p0, by omega, hR.mono (by omega), fun v cs v0 v1 hR => ⟨rfl, ⟨v, rfl, v0, v1⟩, cs, rfl, hR⟩⟩
  rintro xs os hxl hx ⟨cs, rfl, hR⟩
  rw [rng_len, Int.toNat_natCast] at hxl hR
  obtain ⟨sp, rfl, hsl, hsp⟩ := eq_of_ints hxl hx
  walk_at "e"
  refine ev_rng1 ?_
  walk_at "e"
  refine ⟨by omega, by omega, ?_⟩
  refine eo_loop (fun i S => ∃ x6 x7 x14 cs, ∃ sg : List Nat, S = ⟨[some (.own 0), some (.dat (.int (n : Int))), some (.dat (.int p)), some (.dat (.int (first : Int))), some (.dat (.list (sp.map .int))), some (.own 1), x6, x7, none, none, none, none, none, none, x14], [some (.lst cs), some (.lst (sg.map ch))]⟩ ∧
    Signs sg ∧ sg.length = i ∧ (i = n → lastN sg ≠ headN sg) ∧ Reel (b + 3 * n - i) cs) ⟨_, _, _, _, [], rfl, ⟨fun _ h => (nomatch h), fun i a b h => by simp at h⟩, rfl, fun h => by omega, hR.mono (by omega)⟩ ?_ ?_
  · rintro i d S hd ⟨x6, x7, x14, cs, sg, rfl, hs, hsl2, hlast, hR⟩
    obtain ⟨hi, rfl⟩ := rng_at hd
    rw [Int.toNat_natCast] at hi
    have hok : ∀ c ∈ sg, c < 0x110000 := fun c hc => by have := (hs.all c hc).2; omega
    have hok4 : ∀ c ∈ ([97, 98, 99, 100] : List Nat), c < 0x110000 := by decide
    walk_at "e"
    refine ev_lc (sgF fun c => decide (sg = []) || decide (c ≠ lastN sg)) id ?_
    walk_at "e"
    refine ⟨_, rfl, ?_⟩
    rw [abcd]
    refine ⟨fun d hd => ?_, ?_⟩
    · obtain ⟨c, hc, rfl⟩ := List.mem_map.mp hd
      rw [sgF_ch]
      walk_at "e"
      refine ⟨rfl, rfl, ?_⟩
      walk_at "e"
      refine ed_eq_good (good_chs hok) (good_list_le (n := 1) (m := 0) (ds := []) (fun _ h => nomatch h) (by decide)) (fun e => ?_) (fun e => ?_)
      · have e : sg = [] := by simpa using e
        walk_at "e"
        refine split_t' rfl ⟨rfl, by simp [e], fun _ => ?_⟩
        walk_at "e"
        exact ⟨rfl, rfl⟩
      · have e : sg ≠ [] := fun z => e (by rw [z]; rfl)
        walk_at "e"
        refine split_f' rfl ?_
        walk_at "e"
        refine ed_atLast (getLast_ch e) ?_
        refine ch_ne (hok4 c hc) (hok _ (lastN_mem e)) ?_
        walk_at "e"
        refine ⟨rfl, by simp [e], fun _ => ?_⟩
        walk_at "e"
        exact ⟨rfl, rfl⟩
    · rw [filter_sgF, List.map_id]
      walk_at "e1"
      refine eo_mid (fun S1 => ∃ F : List Nat, S1 = ⟨[some (.own 0), some (.dat (.int (n : Int))), some (.dat (.int p)), some (.dat (.int (first : Int))), some (.dat (.list (sp.map .int))), some (.own 1), some (.dat (.int (0 + (i : Int)))), some (.dat (.list (F.map ch))), none, none, none, none, none, none, x14], [some (.lst cs), some (.lst (sg.map ch))]⟩ ∧
        F ≠ [] ∧ F.length ≤ 4 ∧ ∀ c ∈ F, (97 ≤ c ∧ c ≤ 100) ∧ (sg ≠ [] → c ≠ lastN sg) ∧ (i + 1 = n → c ≠ headN sg)) ?_ ?_
      · have hF : ∀ c ∈ ([97, 98, 99, 100] : List Nat).filter (fun c => decide (sg = []) || decide (c ≠ lastN sg)), (97 ≤ c ∧ c ≤ 100) ∧ (sg ≠ [] → c ≠ lastN sg) := fun c hc => by
          obtain ⟨h1, h2⟩ := List.mem_filter.mp hc
          refine ⟨by simp at h1; omega, fun hn => ?_⟩
          simpa [hn] using h2
        walk_at "e"
        refine ⟨fun ht => ?_, fun ht => ?_⟩
        · have ht : i + 1 = n := by have := of_decide_eq_true ht; omega
          have hn : sg ≠ [] := fun z => by rw [z] at hsl2; simp at hsl2; omega
          walk_at "e"
          refine ev_lc (sgF fun c => decide (c ≠ headN sg)) id ?_
          walk_at "e"
          refine ⟨fun d hd => ?_, ?_⟩
          · obtain ⟨c, hc, rfl⟩ := List.mem_map.mp hd
            have hc4 := (hF c hc).1
            rw [sgF_ch]
            walk_at "e"
            refine ⟨rfl, rfl, ?_⟩
            walk_at "e"
            refine ed_at (by decide) (head_ch hn) ?_
            refine ch_ne (by omega) (hok _ (headN_mem hn)) ?_
            walk_at "e"
            refine ⟨rfl, by simp, fun _ => ?_⟩
            walk_at "e"
            exact ⟨rfl, rfl⟩
          · rw [filter_sgF, List.map_id]
            refine ⟨_, rfl, _, rfl, ?_, Nat.le_trans (List.length_filter_le _ _) (List.length_filter_le _ _), fun c hc => ?_⟩
            · rw [List.filter_filter]
              have := signs_left (headN sg) (lastN sg)
              simpa [hn] using this
            · obtain ⟨h1, h2⟩ := List.mem_filter.mp hc
              exact ⟨(hF c h1).1, (hF c h1).2, fun _ => by simpa using h2⟩
        · have ht : i + 1 ≠ n := by have := of_decide_eq_false ht; omega
          walk_at "e"
          refine ⟨?_, List.length_filter_le _ _, fun c hc => ⟨(hF c hc).1, (hF c hc).2, fun z => absurd z ht⟩⟩
          have := signs_left (lastN sg) (lastN sg)
          intro z
          refine this (List.filter_eq_nil_iff.mpr fun c hc hx => (List.filter_eq_nil_iff.mp z) c hc ?_)
          simp at hx
          simp [hx]
      · rintro S1 ⟨F, rfl, hF0, hF4, hF⟩
        walk_at "e"
        refine ev_app ⟨_, _, rfl, rfl, ?_⟩
        walk_at "e"
        refine ev_draw (b := b + 3 * n - (i + 1)) ⟨_, rfl, ?_⟩
        walk_at "e"
        have hFl : 0 < F.length := List.length_pos_iff.mpr hF0
        refine ⟨_, _, rfl, rfl, by simp; omega, by simp; omega, hR.mono (by omega), fun v cs v0 v1 hR => ?_⟩
        refine ed_pick (P := fun d => ∃ c, c ∈ F ∧ d = ch c) v0 v1 (fun d hd => by obtain ⟨c, hc, rfl⟩ := List.mem_map.mp hd; exact ⟨c, hc, rfl⟩) ?_
        rintro _ ⟨c, hc, rfl⟩
        obtain ⟨g1, g2, g3⟩ := hF c hc
        walk_at "e"
        refine ⟨by simp; omega, ?_⟩
        rw [show sg.map ch ++ [ch c] = (sg ++ [c]).map ch by simp]
        refine ⟨_, rfl, _, _, _, _, sg ++ [c], rfl, hs.add g1 g2, by simp [hsl2], fun e => ?_, hR⟩
        · have hn : sg ≠ [] := fun z => by rw [z] at hsl2; simp at hsl2; omega
          have e1 : lastN (sg ++ [c]) = c := by unfold lastN; simp
          have e2 : headN (sg ++ [c]) = headN sg := by
            cases sg with
            | nil => exact absurd rfl hn
            | cons a sg => rfl
          rw [e1, e2]
          exact g3 e
  · rintro S ⟨x6, x7, x14, cs, sg, rfl, hs, hsl2, hlast, hR⟩
    rw [rng_len, Int.toNat_natCast] at hsl2 hlast hR
    walk_at "e"
    refine ⟨by omega, by omega, ?_⟩
    walk_at "e"
    refine ed_mulL (by omega) (by omega) (by simp; omega) ?_
    rw [rep_one, Int.toNat_natCast]
    walk_at "e"
    refine ev_rng1 ?_
    walk_at "e"
    refine ⟨by omega, by omega, ?_⟩
    rw [Int.toNat_natCast]
    have e1 : rng 0 n = (List.range n).map fun m : Nat => PyData.int (m : Int) := by
      unfold rng
      apply List.map_congr_left
      intro m _
      rw [Int.zero_add]
    rw [e1, show List.replicate n PyData.none = (List.replicate n none).map lnO by rw [List.map_replicate]; rfl]
    refine eo_loop (fun i S => ∃ y6 y11 y12 y13 cs L qs es, S = ⟨[some (.own 0), some (.dat (.int (n : Int))), some (.dat (.int p)), some (.dat (.int (first : Int))), some (.dat (.list (sp.map .int))), some (.own 1), y6, x7, some (.own 2), some (.own 3), some (.own 4), y11, y12, y13, x14],
        [some (.lst cs), some (.lst (sg.map ch)), some (.lst (L.map fun m : Nat => .int (m : Int))), some (.lst (qs.map lnO)), some (.lst (es.map en))]⟩ ∧ Half p first n i sp sg L qs es ∧ Reel (b + 2 * n - 2 * i) cs)
      ⟨_, _, _, _, cs, List.range n, List.replicate n none, [], rfl, ?_, hR.mono (by omega)⟩ ?_ ?_
    · refine ⟨by simp, List.nodup_range, fun m hm => List.mem_range.mp hm, by simp, fun m hm => ?_, fun m h1 h2 => absurd (List.mem_range.mpr h1) h2, rfl, fun i hi => by omega, by simp, fun e he => nomatch he⟩
      rw [List.getElem?_replicate, if_pos (List.mem_range.mp hm)]
    · rintro i z S hz ⟨y6, y11, y12, y13, cs, L, qs, es, rfl, hH, hR⟩
      rw [← e1] at hz
      obtain ⟨hi, rfl⟩ := rng_at hz
      walk_at "e"
      refine ev_popAt ⟨_, _, rfl, rfl, ?_⟩
      refine ev_draw (b := b + 2 * n - 2 * i - 1) ⟨_, rfl, ?_⟩
      walk_at "e"
      have hL := hH.len
      refine ⟨_, _, rfl, rfl, by simp; omega, by simp; omega, hR.mono (by omega), fun v cs v0 v1 hR => ?_⟩
      rw [List.length_map] at v1
      have hv : L[v.toNat]? = some L[v.toNat] := List.getElem?_eq_getElem (by omega)
      have hmn := hH.lt _ (List.mem_of_getElem? hv)
      generalize L[v.toNat] = m at hv hmn
      refine ⟨_, v, rfl, rfl, v0, .int (m : Int), by rw [List.getElem?_map, hv]; rfl, ?_⟩
      walk_at "e"
      refine ev_draw (b := b + 2 * n - 2 * i - 2) ⟨_, rfl, ?_⟩
      walk_at "e"
      refine ⟨_, _, rfl, rfl, by decide, by decide, hR.mono (by omega), fun s cs s0 s1 hR => ?_⟩
      walk_at "e"
      have hspi : sp[i]? = some (sp.getD i 0) := by
        rw [List.getD_eq_getElem?_getD, List.getElem?_eq_getElem (show i < sp.length by omega)]; rfl
      have hmod : (i + 1) % n < n := Nat.mod_lt _ (by omega)
      have hspj : sp[(i + 1) % n]? = some (sp.getD ((i + 1) % n) 0) := by
        rw [List.getD_eq_getElem?_getD, List.getElem?_eq_getElem (show (i + 1) % n < sp.length by omega)]; rfl
      have hsgi : sg[i]? = some (sg.getD i 0) := by
        rw [List.getD_eq_getElem?_getD, List.getElem?_eq_getElem (show i < sg.length by omega)]; rfl
      refine ed_ixL (by omega) (show _ = some (PyData.int (sp.getD i 0)) by rw [List.getElem?_map, show ((0 : Int) + (i : Int)).toNat = i by omega, hspi]; rfl) ?_
      walk_at "e"
      refine ed_modI (by omega) ?_
      have hmi : ((0 : Int) + (i : Int) + 1) % (n : Int) = (((i + 1) % n : Nat) : Int) := by rw [Int.zero_add]; simp
      rw [hmi]
      refine ed_ixL (by omega) (show _ = some (PyData.int (sp.getD ((i + 1) % n) 0)) by rw [List.getElem?_map, Int.toNat_natCast, hspj]; rfl) ?_
      walk_at "e"
      have hs2 : s = 0 ∨ s = 1 := by omega
      have e5 : ∀ Q : D → Prop, Q (.int (stepLn n sp sg i s).1) → Ed (dIx (.list [.int (sp.getD i 0), .int (sp.getD ((i + 1) % n) 0)]) (.int s)) Q := fun Q q => by
        rcases hs2 with rfl | rfl
        · exact ed_ixL (by decide) rfl q
        · exact ed_ixL (by decide) rfl q
      have e6 : ∀ Q : D → Prop, Q (.int (stepLn n sp sg i s).2.1) → Ed (dIx (.list [.int (sp.getD i 0), .int (sp.getD ((i + 1) % n) 0)]) (.int (1 - s))) Q := fun Q q => by
        rcases hs2 with rfl | rfl
        · exact ed_ixL (by decide) rfl q
        · exact ed_ixL (by decide) rfl q
      refine e5 _ ?_
      walk_at "e"
      refine e6 _ ?_
      walk_at "e"
      refine ed_at (d := ch (sg.getD i 0)) (by omega) (by rw [List.getElem?_map, show ((0 : Int) + (i : Int)).toNat = i by omega, hsgi]; rfl) ?_
      walk_at "e"
      refine ⟨_, _, rfl, rfl, ?_⟩
      walk_at "e"
      refine ⟨rfl, m, rfl, by rw [List.length_map, hH.qlen]; exact hmn, ?_⟩
      walk_at "e"
      refine ev_app ⟨_, _, rfl, rfl, ?_⟩
      walk_at "e"
      refine ⟨by rw [List.length_map, hH.elen]; omega, ?_⟩
      have e7 : (stepLn n sp sg i s).2.2 = sg.getD i 0 := by unfold stepLn; split <;> rfl
      refine ⟨_, rfl, ?_⟩
      have e8 : (L.map fun m : Nat => PyData.int (m : Int)).eraseIdx v.toNat = (L.eraseIdx v.toNat).map fun m : Nat => PyData.int (m : Int) := map_erase _ _ _
      have e9 : (qs.map lnO).set m (.tuple [.int (stepLn n sp sg i s).1, .int (stepLn n sp sg i s).2.1, ch (sg.getD i 0)]) = (qs.set m (some (stepLn n sp sg i s))).map lnO := by
        rw [List.map_set, ← e7]; rfl
      have e10 : es.map en ++ [.tuple [.int ((first : Int) + (m : Int)), .int s]] = (es ++ [(((first + m : Nat) : Int), s)]).map en := by
        rw [List.map_append, show ((first + m : Nat) : Int) = (first : Int) + (m : Int) by simp]; rfl
      rw [e8, e9, e10]
      exact ⟨_, _, _, _, cs, L.eraseIdx v.toNat, qs.set m (some (stepLn n sp sg i s)), es ++ [(((first + m : Nat) : Int), s)], rfl, hH.step hv hs2 (stepLn_ok hsp hsl hs hsl2 hi), hR.mono (by omega)⟩
    · rintro S ⟨y6, y11, y12, y13, cs, L, qs, es, rfl, hH, hR⟩
      rw [List.length_map, List.length_range] at hH hR
      walk_at "e"
      have hL : L = [] := List.length_eq_zero_iff.mp (by have := hH.len; omega)
      subst hL
      obtain ⟨ks, rfl⟩ := all_some (qs := qs) fun q hq => by
        obtain ⟨m, hm⟩ := List.mem_iff_getElem?.mp hq
        have hl := (List.getElem?_eq_some_iff.mp hm).1
        obtain ⟨l, h1, _⟩ := hH.full m (by rw [← hH.qlen]; exact hl) (fun z => nomatch z)
        rw [hm] at h1
        cases h1
        exact ⟨l, rfl⟩
      refine ⟨_, rfl, sp, sg, ks, es, ?_, ⟨hsp, hsl, hs, hsl2, hlast rfl, hH⟩, hR.mono (by omega)⟩
      rw [List.map_map]
      rfl
/-! ### a planted round -/
theorem chain_idx (ls : List Ln) : ∀ es : List (Int × Int), (∀ (i : Nat) (e f : Int × Int), es[i]? = some e → es[i + 1]? = some f → goesB ls e f = true) → chain ls es = true
  | [], _ => rfl
  | [_], _ => rfl
  | e :: f :: r, h => by
    rw [chain, Bool.and_eq_true]
    exact ⟨h 0 e f rfl rfl, chain_idx ls (f :: r) fun i x y hx hy => h (i + 1) x y (by simpa using hx) (by simpa using hy)⟩
theorem Circ.at {p : Int} {n : Nat} {sp : List Int} {sg : List Nat} {ks more : List Ln} {es : List (Int × Int)} (h : Circ p 0 n sp sg ks es) {i : Nat} (hi : i < n) :
    ∃ e, es[i]? = some e ∧ EndOk (ks ++ more).length e ∧ plc (ks ++ more) e = sp.getD i 0 ∧ plc (ks ++ more) (far e) = sp.getD ((i + 1) % n) 0 ∧ cmpy (ks ++ more) e = sg.getD i 0 := by
  obtain ⟨m, s, h1, h2, _, hs, h5⟩ := h.half.at' i hi
  have hk : ks.length = n := by have := h.half.qlen; rwa [List.length_map] at this
  rw [Nat.zero_add] at h1
  have h6 : (ks ++ more)[m]? = some (stepLn n sp sg i s) := by
    rw [List.getElem?_append_left (by omega)]
    rw [List.getElem?_map] at h5
    obtain ⟨l, e1, e2⟩ := Option.map_eq_some_iff.mp h5
    cases e2
    exact e1
  refine ⟨_, h1, ⟨by simp, by simp; omega, by simp only; omega, by simp only; omega⟩, ?_, ?_, ?_⟩
  · unfold plc
    simp only [Int.toNat_natCast, h6]
    rcases hs with rfl | rfl <;> simp [sideOf, stepLn]
  · unfold plc far
    simp only [Int.toNat_natCast, h6]
    rcases hs with rfl | rfl <;> simp [sideOf, stepLn]
  · unfold cmpy
    simp only [Int.toNat_natCast, h6]
    rcases hs with rfl | rfl <;> simp [stepLn]
theorem goes_of {ls : List Ln} {e f : Int × Int} (h1 : plc ls (far e) = plc ls f) (h2 : cmpy ls e ≠ cmpy ls f) : goesB ls e f = true := by
  unfold goesB
  simp [h1, h2]
theorem circ_round {p : Int} {n : Nat} {sp : List Int} {sg : List Nat} {ks more : List Ln} {es : List (Int × Int)} (h : Circ p 0 n sp sg ks es) (n0 : 2 ≤ n) : roundB (ks ++ more) es = true := by
  have hel := h.half.elen
  have hn : es ≠ [] := fun z => by rw [z] at hel; simp at hel; omega
  have sgD : ∀ i, i < n → sg[i]? = some (sg.getD i 0) := fun i hi => by
    have := h.sgl
    rw [List.getD_eq_getElem?_getD, List.getElem?_eq_getElem (show i < sg.length by omega)]; rfl
  rw [roundB_iff, rideB_iff]
  refine ⟨⟨hn, fun e he => ?_, h.half.end', chain_idx _ _ fun i e f he hf => ?_⟩, ?_⟩
  · obtain ⟨i, hi⟩ := List.mem_iff_getElem?.mp he
    have hl := (List.getElem?_eq_some_iff.mp hi).1
    obtain ⟨x, h1, h2, _⟩ := h.at (more := more) (show i < n by omega)
    rw [hi] at h1
    cases h1
    exact h2
  · have hl := (List.getElem?_eq_some_iff.mp hf).1
    obtain ⟨x, h1, h2, h3, h4, h5⟩ := h.at (more := more) (show i < n by omega)
    obtain ⟨y, k1, k2, k3, k4, k5⟩ := h.at (more := more) (show i + 1 < n by omega)
    rw [he] at h1; cases h1
    rw [hf] at k1; cases k1
    refine goes_of (by rw [h4, k3, Nat.mod_eq_of_lt (by omega)]) ?_
    rw [h5, k5]
    exact h.sgOk.adj i _ _ (sgD i (by omega)) (sgD (i + 1) (by omega))
  · obtain ⟨x, h1, h2, h3, h4, h5⟩ := h.at (more := more) (show n - 1 < n by omega)
    obtain ⟨y, k1, k2, k3, k4, k5⟩ := h.at (more := more) (show 0 < n by omega)
    have e1 : lastE es = x := by unfold lastE; rw [List.getLast?_eq_getElem?, hel, h1]; rfl
    have e2 : headE es = y := by
      have := (head_mem hn).1
      rw [k1] at this
      cases this; rfl
    rw [e1, e2]
    refine goes_of (by rw [h4, k3, show n - 1 + 1 = n by omega, Nat.mod_self]) ?_
    rw [h5, k5]
    have e3 : lastN sg = sg.getD (n - 1) 0 := by unfold lastN; rw [List.getLast?_eq_getElem?, h.sgl, sgD (n - 1) (by omega)]; rfl
    have e4 : headN sg = sg.getD 0 0 := by
      have hs := h.sgl
      cases sg with
      | nil => simp at hs; omega
      | cons a sg => rfl
    rw [← e3, ← e4]
    exact h.ends
theorem circ_ok {p : Int} {n : Nat} {sp : List Int} {sg : List Nat} {ks : List Ln} {es : List (Int × Int)} (h : Circ p 0 n sp sg ks es) : (∀ l ∈ ks, LnOk p l) ∧ ks.length = n := by
  have hk : ks.length = n := by have := h.half.qlen; rwa [List.length_map] at this
  refine ⟨fun l hl => ?_, hk⟩
  obtain ⟨m, hm⟩ := List.mem_iff_getElem?.mp hl
  have hlt := (List.getElem?_eq_some_iff.mp hm).1
  obtain ⟨x, h1, h2⟩ := h.half.full m (by omega) (fun z => nomatch z)
  rw [List.getElem?_map, hm] at h1
  cases h1
  exact h2
theorem x_planted {b most : Nat} {cs : List D} (m0 : 2 ≤ most) (m1 : most ≤ 900) (hR : Reel (b + 4 * most + 30) cs) :
    ∃ d cs', m__law_planted cs [.int (most : Int)] = some (d, cs') ∧ ∃ (p : Int) (ls : List Ln) (es : List (Int × Int)), d = .tuple [wb p ls, .list (es.map en)] ∧ WbOk p ls ∧ 0 < p ∧ p ≤ 20 ∧ roundB ls es = true ∧ 2 ≤ es.length ∧ es.length ≤ most ∧ ls.length ≤ most + 6 ∧ Reel b cs' := by
  unfold m__law_planted; refine mIO_of ?_; walk_at "i"; unfold g__law_planted
  walk_at "e"
  refine ev_draw (b := b + 4 * most + 28) ⟨_, rfl, ?_⟩
  walk_at "e"
  refine ev_draw (b := b + 4 * most + 29) ⟨_, rfl, ?_⟩
  walk_at "e"
  refine ⟨_, _, rfl, rfl, by decide, by decide, hR, fun v1 cs a1 b1 hR => ?_⟩
  refine ed_pick (P := fun d => ∃ k : Int, d = .int k ∧ 0 < k ∧ k ≤ 20) a1 b1 (fun d hd => ?_) ?_
  · simp only [List.mem_cons, List.not_mem_nil, or_false] at hd
    rcases hd with rfl | rfl | rfl <;> exact ⟨_, rfl, by decide, by decide⟩
  rintro _ ⟨k, rfl, k0, k1⟩
  walk_at "e"
  refine ⟨_, _, rfl, rfl, k0, by omega, hR, fun v2 cs a2 b2 hR => ?_⟩
  walk_at "e"
  refine ev_IO ⟨_, rfl, ?_⟩
  walk_at "e"
  refine ev_draw (b := b + 4 * most + 27) ⟨_, rfl, ?_⟩
  walk_at "e"
  refine ⟨_, _, rfl, rfl, by omega, by omega, hR, fun v3 cs a3 b3 hR => ?_⟩
  walk_at "e"
  obtain ⟨n, hn⟩ : ∃ n : Nat, 2 + v3 = (n : Int) := ⟨(2 + v3).toNat, by omega⟩
  rw [hn]
  have hR : Reel ((b + 22) + 4 * n) cs := hR.mono (by omega)
  obtain ⟨d, cs2, e1, sp, sg, ks, es, rfl, hc, hR⟩ := x_circle (first := 0) (p := 1 + v2) (show 2 ≤ n by omega) (by omega) (by omega) (by omega) hR
  refine ⟨_, _, e1, ?_⟩
  walk_at "e"
  refine ev_lcIO (fun i os => ∃ cs, os = [some (.lst cs)] ∧ Reel (b + 21 - 3 * i) cs) (fun _ e => ∃ l, e = ln l ∧ LnOk (1 + v2) l) ?_
  refine ev_rng1 ?_
  walk_at "e"
  refine ev_draw (b := b + 21) ⟨_, rfl, ?_⟩
  walk_at "e"
  refine ⟨_, _, rfl, rfl, by decide, by decide, hR, fun v4 cs a4 b4 hR => ?_⟩
  walk_at "e"
  refine ⟨by omega, by omega, ⟨_, rfl, hR⟩, ?_, ?_⟩
  · rintro i d os hd ⟨cs, rfl, hR⟩
    obtain ⟨hi, rfl⟩ := rng_at hd
    walk_at "e"
    refine ev_draw (b := b + 20 - 3 * i) ⟨_, rfl, ?_⟩
    walk_at "e"
    refine ⟨_, _, rfl, rfl, by omega, by omega, hR.mono (by omega), fun x1 cs c1 d1 hR => ?_⟩
    walk_at "e"
    refine ev_draw (b := b + 19 - 3 * i) ⟨_, rfl, ?_⟩
    walk_at "e"
    refine ⟨_, _, rfl, rfl, by omega, by omega, hR.mono (by omega), fun x2 cs c2 d2 hR => ?_⟩
    walk_at "e"
    refine ev_draw (b := b + 18 - 3 * i) ⟨_, rfl, ?_⟩
    walk_at "e"
    refine ⟨_, _, rfl, rfl, by decide, by decide, hR.mono (by omega), fun x3 cs c3 d3 hR => ?_⟩
    refine ed_pickS (P := Let) c3 d3 (by intro c hc; have hc : c ∈ [97, 98, 99, 122] := hc; simp at hc; rcases hc with rfl | rfl | rfl | rfl <;> exact ⟨by decide, by decide⟩) fun c kc => ?_
    walk_at "e"
    exact ⟨rfl, ⟨(x1, x2, c), rfl, ⟨c1, d1, c2, d2, kc⟩⟩, cs, rfl, hR.mono (by omega)⟩
  · rintro xs os hxl hx ⟨cs, rfl, hR⟩
    rw [rng_len] at hxl hR
    obtain ⟨more, rfl, hml, hmo⟩ : ∃ more : List Ln, xs = more.map ln ∧ more.length ≤ 6 ∧ ∀ l ∈ more, LnOk (1 + v2) l := by
      have hl : xs.length ≤ 6 := by omega
      clear hxl
      induction xs with
      | nil => exact ⟨[], rfl, by simp, fun _ h => nomatch h⟩
      | cons x xs ih =>
        obtain ⟨l, rfl, h1⟩ := hx 0 x rfl
        obtain ⟨more, rfl, h2, h3⟩ := ih (fun i e he => hx (i + 1) e (by simpa using he)) (by simp at hl; omega)
        exact ⟨l :: more, rfl, by simpa using hl, fun y hy => by rcases List.mem_cons.mp hy with rfl | hy; exact h1; exact h3 y hy⟩
    obtain ⟨hko, hkl⟩ := circ_ok hc
    walk_at "e"
    refine ed_addL (by simp; omega) ?_
    walk_at "e"
    have hel := hc.half.elen
    refine ⟨_, rfl, 1 + v2, ks ++ more, es, ?_, ⟨by omega, ?_, by simp; omega⟩, by omega, by omega, circ_round hc (by omega), by omega, by omega, by simp; omega, hR.mono (by omega)⟩
    · rw [← List.map_append]; rfl
    · intro l hl
      rcases List.mem_append.mp hl with hl | hl
      · exact hko l hl
      · exact hmo l hl
end Sp
end Lw

set_option maxHeartbeats 4000000
namespace Lw
open PySem Fu
local macro_rules | `(tactic| walk_at "e1") => `(tactic| first
  | with_reducible refine eo_seq ?_ | (with_reducible refine then_nx' ?_; refine ⟨?_, ?_, ?_⟩; rotate_left; · (try dsimp only [List.set, List.length_cons, List.length_nil, List.cons_append, List.nil_append, Nat.zero_add, Nat.reduceAdd]); exact rfl) | with_reducible refine then_rt ?_ | with_reducible refine eo_if ?_ | with_reducible refine eo_ret ?_ | with_reducible refine eo_set ?_ | with_reducible refine eo_asg ?_ | with_reducible refine eo_drop ?_ | with_reducible refine eo_nx ?_ | with_reducible refine eo_par ?_ | with_reducible refine eo_own ?_ | with_reducible refine eo_retN ?_ | with_reducible refine eo_for ?_ | with_reducible refine eo_retO ?_
  | with_reducible refine ev_c ?_ | (with_reducible refine ev_var ?_; refine ⟨_, rfl, ?_⟩) | with_reducible refine ev_bin ?_ | with_reducible refine ev_un ?_ | with_reducible refine ev_nil ?_ | with_reducible refine ev_cons ?_
  | with_reducible refine ev_tup ?_ | with_reducible refine ev_lst ?_ | with_reducible refine ev_call ?_ | with_reducible refine ev_callF ?_ | with_reducible refine ev_isi ?_ | with_reducible refine ev_isi2 ?_ | with_reducible refine ev_andV ?_ | with_reducible refine ev_orV ?_ | with_reducible refine ev_notV ?_
  | with_reducible refine ev_B ?_ | with_reducible refine ev_and ?_ | with_reducible refine ev_or ?_ | with_reducible refine ev_not ?_ | with_reducible refine ev_yes ?_ | with_reducible refine ev_if ?_ | with_reducible refine ev_no ?_ | with_reducible refine ev_so ?_ | with_reducible refine ev_sl ?_ | with_reducible refine ev_items ?_
  | (with_reducible refine ev_ixO ?_; refine ⟨_, _, rfl, rfl, ?_⟩) | (with_reducible refine ev_varO ?_; refine ⟨_, _, rfl, rfl, ?_⟩) | (with_reducible refine ev_lenO ?_; refine ⟨_, _, rfl, rfl, ?_⟩) | (with_reducible refine ev_scrSl ?_; refine ⟨_, rfl, ?_⟩) | (with_reducible refine ev_scrLen ?_; refine ⟨_, rfl, ?_⟩) | (with_reducible refine ev_callScr ?_; refine ⟨_, rfl, ?_⟩) | (with_reducible refine ev_OL ?_; refine ⟨_, _, rfl, rfl, ?_⟩) | with_reducible refine ev_OR ?_ | with_reducible refine ev_rep ?_ | with_reducible refine ev_listRng1 ?_ | with_reducible refine eo_setO ?_
  | with_reducible refine es_name ?_ | with_reducible refine es_tup2 ?_ | with_reducible refine es_tup3 ?_
  | with_reducible refine ed_addI ?_ | with_reducible refine ed_subI ?_ | with_reducible refine ed_cmp ?_ | with_reducible refine ed_eqI ?_ | with_reducible refine ed_neI ?_ | with_reducible refine ed_slT ?_ | with_reducible refine ed_slL ?_ | with_reducible refine ed_lenT ?_ | with_reducible refine ed_lenL ?_ | with_reducible refine ed_lenS ?_ | with_reducible refine ed_inS ?_ | with_reducible refine ed_itT ?_ | with_reducible refine ed_itL ?_ | with_reducible refine ed_tupL ?_ | with_reducible refine ed_tupT ?_ | with_reducible refine ed_listL ?_ | with_reducible refine ed_listT ?_ | with_reducible refine ed_neg ?_ | with_reducible refine ed_max ?_ | with_reducible refine ed_min ?_ | with_reducible refine ed_intB ?_
  | with_reducible refine ev_rng1 ?_ | with_reducible refine ev_rng2 ?_)
local macro_rules | `(tactic| walk_at "sd") => `(tactic| first | rfl | assumption | (simp only [decide_eq_true_eq, decide_eq_false_iff_not, Bool.not_eq_true', Bool.not_eq_false', Bool.and_eq_true, Bool.or_eq_true, List.length_map, List.length_cons, List.length_nil, List.length_append, List.length_range] at *; omega))
local macro_rules | `(tactic| walk_at "e2") => `(tactic| first
  | walk_at "e1" | with_reducible refine ⟨_, rfl, ?_⟩ | with_reducible refine ⟨_, _, rfl, ?_⟩
  | with_reducible refine And.intro (Eq.refl (List.length _)) ?_ | with_reducible refine And.intro (Nat.le_of_ble_eq_true (n := List.length _) rfl) ?_
  | with_reducible refine And.intro (Eq.refl (_ : Sx)) (?_ : Ed _ _)
  | ((with_reducible refine And.intro ?_ (And.intro ?_ (?_ : Ev _ _))); (· rfl); (· rfl))
  | ((with_reducible refine ed_ixT ?_ ?_ ?_); (· decide); (· rfl)) | ((with_reducible refine ed_ixL ?_ ?_ ?_); (· decide); (· rfl)) | ((with_reducible refine ed_at ?_ ?_ ?_); (· decide); (· rfl))
  | ((with_reducible refine ed_modI ?_ ?_); (· first | decide | omega))
  | with_reducible exact gives_nx | ((with_reducible refine gives_rt ?_); (· rfl)) | ((with_reducible refine And.intro ?_ ?_); (· exact rfl); (· with_reducible exact Eq.refl (_ : Sx))))
local macro_rules | `(tactic| walk_at "e") => `(tactic| repeat walk_at "e2")
/-- begin a def's spec -/
local macro_rules | `(tactic| walk_at "i") => `(tactic| simp only [initS, List.map_cons, List.map_nil, List.length_cons, List.length_nil, Nat.reduceAdd, Nat.reduceSub, List.replicate, List.cons_append, List.nil_append])
/-- a known truth decides -/
local macro_rules | `(tactic| walk_at "t") => `(tactic| first | ((with_reducible refine split_t ?_ ?_); (· walk_at "sd")) | ((with_reducible refine split_t' ?_ ?_); (· walk_at "sd")))
local macro_rules | `(tactic| walk_at "f") => `(tactic| first | ((with_reducible refine split_f ?_ ?_); (· walk_at "sd")) | ((with_reducible refine split_f' ?_ ?_); (· walk_at "sd")))
/-- all that is seen in a look -/
local macro_rules | `(tactic| walk_at "v") => `(tactic| (rw [sealAll_mk (by (simp only [List.set_cons_zero, List.set_cons_succ, List.map_cons, List.map_nil, sealS_none, sealS_dat, sealS_scr, sealS_own, List.getElem?_cons_zero, List.getElem?_cons_succ, sealC_lst]; rfl)) (by (simp only [List.set_cons_zero, List.set_cons_succ, List.map_cons, List.map_nil]; rfl))]))
/-! ### texts of data -/
theorem dNe_str (x y : Str) : dNe (.str x) (.str y) = some (.bool (!decide (x = y))) := by
  unfold dNe
  split
  · congr 3
  · rfl
theorem dNe_str_self (x : Str) : dNe (.str x) (.str x) = some (.bool false) := by rw [dNe_str]; simp
/-- what can be shown: its depth, its weight -/
structure Shw (n m : Nat) (d : D) : Prop where
  lay : d.canLay0 = true
  dep : d.depth ≤ n
  wt : d.weight ≤ m
  short : d.intsShort 13 = true
  sh : d.showable = true
theorem Shw.mono {n m n' m' : Nat} {d : D} (h : Shw n m d) (l : n ≤ n') (k : m ≤ m') : Shw n' m' d := ⟨h.lay, Nat.le_trans h.dep l, Nat.le_trans h.wt k, h.short, h.sh⟩
theorem shw_int {i : Int} (h : i.natAbs < 10 ^ 12) : Shw 0 40 (.int i) := by
  have hb : i.natAbs.log2 ≤ 39 := by
    by_cases z : i.natAbs = 0
    · rw [z]; decide
    · refine Nat.le_of_lt_succ ((Nat.log2_lt z).mpr ?_)
      exact Nat.lt_trans h (by decide)
  refine ⟨by simp [PyData.canLay0], by simp [PyData.depth], ?_, ?_, ?_⟩
  · simp only [PyData.weight]
    split <;> omega
  · simp only [PyData.intsShort, decide_eq_true_eq]
    exact PyData.shown_int_le h
  · simp only [PyData.showable, decide_eq_true_eq]; omega
theorem shw_all {n m : Nat} : ∀ {ds : List D}, (∀ d ∈ ds, Shw n m d) → PyData.canLayAll0 ds = true ∧ PyData.depthAll ds ≤ n ∧ PyData.weightAll ds ≤ ds.length * (m + 1) ∧ PyData.intsShortAll 13 ds = true ∧ PyData.showableAll ds = true
  | [], _ => ⟨rfl, Nat.zero_le _, Nat.zero_le _, rfl, rfl⟩
  | d :: ds, h => by
    obtain ⟨a, b, c, e, f⟩ := shw_all fun x hx => h x (List.mem_cons_of_mem _ hx)
    have k := h d List.mem_cons_self
    refine ⟨by simp [PyData.canLayAll0, a, k.lay], by simp only [PyData.depthAll]; exact Nat.max_le.mpr ⟨k.dep, b⟩, ?_, by simp [PyData.intsShortAll, e, k.short], by simp [PyData.showableAll, f, k.sh]⟩
    simp only [PyData.weightAll, List.length_cons]
    rw [Nat.add_mul]
    have := k.wt
    omega
theorem shw_list {n m : Nat} {ds : List D} (h : ∀ d ∈ ds, Shw n m d) : Shw (n + 1) (ds.length * (m + 1)) (.list ds) := by
  obtain ⟨a, b, c, e, f⟩ := shw_all h
  exact ⟨by simpa [PyData.canLay0] using a, by simp only [PyData.depth]; omega, by simpa only [PyData.weight] using c, by simpa only [PyData.intsShort] using e, by simpa only [PyData.showable] using f⟩
theorem shw_tup {n m : Nat} {ds : List D} (h : ∀ d ∈ ds, Shw n m d) : Shw (n + 1) (ds.length * (m + 1)) (.tuple ds) := by
  obtain ⟨a, b, c, e, f⟩ := shw_all h
  exact ⟨by simpa [PyData.canLay0] using a, by simp only [PyData.depth]; omega, by simpa only [PyData.weight] using c, by simpa only [PyData.intsShort] using e, by simpa only [PyData.showable] using f⟩
theorem shw_sq {n m : Nat} {d : D} {ds : List D} (s : Sq d ds) (h : ∀ d ∈ ds, Shw n m d) : Shw (n + 1) (ds.length * (m + 1)) d := by
  rcases s with rfl | rfl
  · exact shw_list h
  · exact shw_tup h
theorem Shw.ok {n m : Nat} {d : D} (h : Shw n m d) (hn : n ≤ 60) (hm : m ≤ 1048576) : showOk d = true := by
  unfold showOk
  have l : d.shown.length ≤ sizeLine := PyData.shown_fits (B := 13) (by decide) (by decide) (PyData.leavesShort_of_canLay0 13 d h.lay h.short) (by have := h.wt; omega)
  rw [sizeLine_eq] at l
  simp only [Bool.and_eq_true, decide_eq_true_eq, Bool.not_eq_true']
  exact ⟨⟨⟨⟨h.sh, PyData.hasDict_of_canLay d h.lay⟩, h.lay⟩, Nat.le_trans h.dep hn⟩, l⟩
theorem ed_repr {n m : Nat} {d : D} {ds : List D} {Q : D → Prop} (s : Sq d ds) (h : Shw n m d) (q : Q (.str d.shown)) (hn : n ≤ 60 := by decide) (hm : m ≤ 1048576 := by omega) : Ed (dRepr [d]) Q := by
  have ok := h.ok hn hm
  rcases s with rfl | rfl
  · exact ⟨_, by simp only [dRepr, ok, if_true], q⟩
  · exact ⟨_, by simp only [dRepr, ok, if_true], q⟩
theorem Shw.fine {n m : Nat} {d : D} (h : Shw n m d) : Fine n d := ⟨h.lay, h.dep⟩
/-! ### all tuples turned to lists -/
theorem depth_mem : ∀ {xs : List D} {x : D}, x ∈ xs → x.depth ≤ PyData.depthAll xs
  | y :: ys, x, h => by
    simp only [PyData.depthAll]
    rcases List.mem_cons.mp h with rfl | h
    · exact Nat.le_max_left _ _
    · exact Nat.le_trans (depth_mem h) (Nat.le_max_right _ _)
theorem depth_sq {d : D} {xs : List D} (s : Sq d xs) : d.depth = PyData.depthAll xs + 1 := by rcases s with rfl | rfl <;> simp only [PyData.depth]
/-! ### how webs and rides are shown -/
theorem shw_en {d : D} {e : Int × Int} (s : IsEn d e) (h1 : e.1.natAbs < 10 ^ 12) (h2 : e.2.natAbs < 10 ^ 12) : Shw 1 82 d := by
  refine shw_sq (n := 0) (m := 40) s fun x hx => ?_
  simp only [List.mem_cons, List.not_mem_nil, or_false] at hx
  rcases hx with rfl | rfl
  · exact shw_int h1
  · exact shw_int h2
theorem shw_ride {d : D} {es : List (Int × Int)} (h : IsRide d es) (k : ∀ e ∈ es, e.1.natAbs < 10 ^ 12 ∧ e.2.natAbs < 10 ^ 12) : Shw 2 (es.length * 83) d := by
  obtain ⟨ps, s, rfl, hq⟩ := h
  have := shw_sq s (n := 1) (m := 82) fun x hx => by
    obtain ⟨q, hm, rfl⟩ := List.mem_map.mp hx
    have := k _ (List.mem_map_of_mem (f := (·.2)) hm)
    exact shw_en (hq q hm) this.1 this.2
  simpa using this
end Lw

set_option maxHeartbeats 4000000
namespace Lw
open PySem Fu
local macro_rules | `(tactic| walk_at "e1") => `(tactic| first
  | with_reducible refine eo_seq ?_ | (with_reducible refine then_nx' ?_; refine ⟨?_, ?_, ?_⟩; rotate_left; · (try dsimp only [List.set, List.length_cons, List.length_nil, List.cons_append, List.nil_append, Nat.zero_add, Nat.reduceAdd]); exact rfl) | with_reducible refine then_rt ?_ | with_reducible refine eo_if ?_ | with_reducible refine eo_ret ?_ | with_reducible refine eo_set ?_ | with_reducible refine eo_asg ?_ | with_reducible refine eo_drop ?_ | with_reducible refine eo_nx ?_ | with_reducible refine eo_par ?_ | with_reducible refine eo_own ?_ | with_reducible refine eo_retN ?_ | with_reducible refine eo_for ?_ | with_reducible refine eo_retO ?_
  | with_reducible refine ev_c ?_ | (with_reducible refine ev_var ?_; refine ⟨_, rfl, ?_⟩) | with_reducible refine ev_bin ?_ | with_reducible refine ev_un ?_ | with_reducible refine ev_nil ?_ | with_reducible refine ev_cons ?_
  | with_reducible refine ev_tup ?_ | with_reducible refine ev_lst ?_ | with_reducible refine ev_call ?_ | with_reducible refine ev_callF ?_ | with_reducible refine ev_isi ?_ | with_reducible refine ev_isi2 ?_ | with_reducible refine ev_andV ?_ | with_reducible refine ev_orV ?_ | with_reducible refine ev_notV ?_
  | with_reducible refine ev_B ?_ | with_reducible refine ev_and ?_ | with_reducible refine ev_or ?_ | with_reducible refine ev_not ?_ | with_reducible refine ev_yes ?_ | with_reducible refine ev_if ?_ | with_reducible refine ev_no ?_ | with_reducible refine ev_so ?_ | with_reducible refine ev_sl ?_ | with_reducible refine ev_items ?_
  | (with_reducible refine ev_ixO ?_; refine ⟨_, _, rfl, rfl, ?_⟩) | (with_reducible refine ev_varO ?_; refine ⟨_, _, rfl, rfl, ?_⟩) | (with_reducible refine ev_lenO ?_; refine ⟨_, _, rfl, rfl, ?_⟩) | (with_reducible refine ev_scrSl ?_; refine ⟨_, rfl, ?_⟩) | (with_reducible refine ev_scrLen ?_; refine ⟨_, rfl, ?_⟩) | (with_reducible refine ev_callScr ?_; refine ⟨_, rfl, ?_⟩) | (with_reducible refine ev_OL ?_; refine ⟨_, _, rfl, rfl, ?_⟩) | with_reducible refine ev_OR ?_ | with_reducible refine ev_rep ?_ | with_reducible refine ev_listRng1 ?_ | with_reducible refine eo_setO ?_
  | with_reducible refine es_name ?_ | with_reducible refine es_tup2 ?_ | with_reducible refine es_tup3 ?_
  | with_reducible refine ed_addI ?_ | with_reducible refine ed_subI ?_ | with_reducible refine ed_cmp ?_ | with_reducible refine ed_eqI ?_ | with_reducible refine ed_neI ?_ | with_reducible refine ed_slT ?_ | with_reducible refine ed_slL ?_ | with_reducible refine ed_lenT ?_ | with_reducible refine ed_lenL ?_ | with_reducible refine ed_lenS ?_ | with_reducible refine ed_inS ?_ | with_reducible refine ed_itT ?_ | with_reducible refine ed_itL ?_ | with_reducible refine ed_tupL ?_ | with_reducible refine ed_tupT ?_ | with_reducible refine ed_listL ?_ | with_reducible refine ed_listT ?_ | with_reducible refine ed_neg ?_ | with_reducible refine ed_max ?_ | with_reducible refine ed_min ?_ | with_reducible refine ed_intB ?_
  | with_reducible refine ev_rng1 ?_ | with_reducible refine ev_rng2 ?_)
local macro_rules | `(tactic| walk_at "sd") => `(tactic| first | rfl | assumption | (simp only [decide_eq_true_eq, decide_eq_false_iff_not, Bool.not_eq_true', Bool.not_eq_false', Bool.and_eq_true, Bool.or_eq_true, List.length_map, List.length_cons, List.length_nil, List.length_append, List.length_range] at *; omega))
local macro_rules | `(tactic| walk_at "e2") => `(tactic| first
  | walk_at "e1" | with_reducible refine ⟨_, rfl, ?_⟩ | with_reducible refine ⟨_, _, rfl, ?_⟩
  | with_reducible refine And.intro (Eq.refl (List.length _)) ?_ | with_reducible refine And.intro (Nat.le_of_ble_eq_true (n := List.length _) rfl) ?_
  | with_reducible refine And.intro (Eq.refl (_ : Sx)) (?_ : Ed _ _)
  | ((with_reducible refine And.intro ?_ (And.intro ?_ (?_ : Ev _ _))); (· rfl); (· rfl))
  | ((with_reducible refine ed_ixT ?_ ?_ ?_); (· decide); (· rfl)) | ((with_reducible refine ed_ixL ?_ ?_ ?_); (· decide); (· rfl)) | ((with_reducible refine ed_at ?_ ?_ ?_); (· decide); (· rfl))
  | ((with_reducible refine ed_modI ?_ ?_); (· first | decide | omega))
  | with_reducible exact gives_nx | ((with_reducible refine gives_rt ?_); (· rfl)) | ((with_reducible refine And.intro ?_ ?_); (· exact rfl); (· with_reducible exact Eq.refl (_ : Sx))))
local macro_rules | `(tactic| walk_at "e") => `(tactic| repeat walk_at "e2")
/-- begin a def's spec -/
local macro_rules | `(tactic| walk_at "i") => `(tactic| simp only [initS, List.map_cons, List.map_nil, List.length_cons, List.length_nil, Nat.reduceAdd, Nat.reduceSub, List.replicate, List.cons_append, List.nil_append])
/-- a known truth decides -/
local macro_rules | `(tactic| walk_at "t") => `(tactic| first | ((with_reducible refine split_t ?_ ?_); (· walk_at "sd")) | ((with_reducible refine split_t' ?_ ?_); (· walk_at "sd")))
local macro_rules | `(tactic| walk_at "f") => `(tactic| first | ((with_reducible refine split_f ?_ ?_); (· walk_at "sd")) | ((with_reducible refine split_f' ?_ ?_); (· walk_at "sd")))
/-- all that is seen in a look -/
local macro_rules | `(tactic| walk_at "v") => `(tactic| (rw [sealAll_mk (by (simp only [List.set_cons_zero, List.set_cons_succ, List.map_cons, List.map_nil, sealS_none, sealS_dat, sealS_scr, sealS_own, List.getElem?_cons_zero, List.getElem?_cons_succ, sealC_lst]; rfl)) (by (simp only [List.set_cons_zero, List.set_cons_succ, List.map_cons, List.map_nil]; rfl))]))
theorem ev_chain {S : Sx} {f f' : D → D → Option D} {ga gb gc : M D} {Q : D → Sx → Prop} (h : Ev (ga S) fun x S1 => Ev (gb S1) fun y S2 => Ed (f x y) fun b => ∃ c, b = .bool c ∧ (c = true → Ev (gc S2) fun z S3 => Ed (f' y z) fun r => Q r S3) ∧ (c = false → Q (.bool false) S2)) : Ev (gChain f f' ga gb gc S) Q := by
  obtain ⟨x, S1, e1, y, S2, e2, b, e3, c, rfl, h1, h2⟩ := h
  cases c with
  | true =>
    obtain ⟨z, S3, e4, r, e5, q⟩ := h1 rfl
    exact ⟨r, S3, by simp only [gChain, e1, e2, e3, e4, e5, Option.bind_some], q⟩
  | false => exact ⟨_, S2, by simp only [gChain, e1, e2, e3, Option.bind_some], h2 rfl⟩
/-! ### the law's own looks -/
theorem x__law_at {w : D} {p : Int} {ls : List Ln} {d : D} {e : Int × Int} (hw : Web w p ls) (s : IsEn d e) (h : EndOk ls.length e) : m__law_at [w, d] = some (.int (plc ls e)) := by
  obtain ⟨L, sw, hL⟩ := hw
  obtain ⟨l, hl, _⟩ := end_line rfl h
  obtain ⟨xs, x, sx, hxl, hx, hln⟩ := line_at hL hl
  unfold m__law_at; refine mF_of ?_; walk_at "i"; unfold g__law_at
  walk_at "e"
  refine ed_ixQ sw (by decide) rfl ?_
  walk_at "e"
  refine ed_ixQ s (by decide) rfl ?_
  walk_at "e"
  refine ed_ixQ sx h.1 hx ?_
  walk_at "e"
  refine ed_ixQ s (by decide) rfl ?_
  walk_at "e"
  have h2 : e.2 = 0 ∨ e.2 = 1 := by have := h.2.2.1; have := h.2.2.2; omega
  unfold plc; rw [hl]
  rcases h2 with h2 | h2 <;> rw [h2] <;> exact ed_ixQ hln (by decide) rfl rfl
theorem x__law_other {d : D} {e : Int × Int} (s : IsEn d e) : m__law_other [d] = some (en (far e)) := by
  unfold m__law_other; refine mF_of ?_; walk_at "i"; unfold g__law_other
  walk_at "e"
  refine ed_ixQ s (by decide) rfl ?_
  walk_at "e"
  refine ed_ixQ s (by decide) rfl ?_
  walk_at "e"
theorem x__law_goes {w : D} {p : Int} {ls : List Ln} {a b : D} {e f : Int × Int} (hw : Web w p ls) (h : WbOk p ls) (sa : IsEn a e) (sb : IsEn b f) (he : EndOk ls.length e) (hf : EndOk ls.length f) : m__law_goes [w, a, b] = some (.bool (goesB ls e f)) := by
  obtain ⟨L, sw, hL⟩ := id hw
  obtain ⟨l, hl, _⟩ := end_line rfl he
  obtain ⟨xs, x, sx, hxl, hx, hln⟩ := line_at hL hl
  obtain ⟨l2, hl2, _⟩ := end_line rfl hf
  obtain ⟨xs2, x2, sx2, hxl2, hx2, hln2⟩ := line_at hL hl2
  unfold m__law_goes; refine mF_of ?_; walk_at "i"; unfold g__law_goes goesB
  walk_at "e"
  refine Ed.of (x__law_other sa) ?_
  walk_at "e"
  refine Ed.of (x__law_at hw (isEn_en _) he.far) ?_
  walk_at "e"
  refine Ed.of (x__law_at hw sb hf) ?_
  walk_at "e"
  refine ⟨fun ht => ?_, fun ht => ?_⟩
  · walk_at "e"
    simp only [Bool.not_eq_true', decide_eq_false_iff_not] at ht
    simp [ht]
  · walk_at "e"
    refine ed_ixQ sw (by decide) rfl ?_
    walk_at "e"
    refine ed_ixQ sa (by decide) rfl ?_
    walk_at "e"
    refine ed_ixQ sx he.1 hx ?_
    walk_at "e"
    refine ed_ixQ hln (by decide) rfl ?_
    walk_at "e"
    refine ed_ixQ sw (by decide) rfl ?_
    walk_at "e"
    refine ed_ixQ sb (by decide) rfl ?_
    walk_at "e"
    refine ed_ixQ sx2 hf.1 hx2 ?_
    walk_at "e"
    refine ed_ixQ hln2 (by decide) rfl ?_
    have e1 : cmpy ls e = l.2.2 := by unfold cmpy; rw [hl]
    have e2 : cmpy ls f = l2.2.2 := by unfold cmpy; rw [hl2]
    refine Ed.of (dNe_ch (by rw [← e1]; exact cmpy_ok h he) (by rw [← e2]; exact cmpy_ok h hf)) ?_
    simp only [Bool.not_eq_false', decide_eq_true_eq] at ht
    rw [gives_rtI, e1, e2]
    simp [ht]
/-- a list that is empty or not -/
theorem ed_ne_nil {n : Nat} {xs : List D} {Q : D → Prop} (h : ∀ x ∈ xs, Fine n x) (q : Q (.bool !decide (xs = []))) (hn : n ≤ 60 := by decide) : Ed (dNe (.list xs) (.list [])) Q := by
  refine ⟨_, ?_, q⟩
  unfold dNe
  rw [if_pos ⟨(fine_list h).shaped (by omega), (fine_list (n := 0) (ds := []) (fun _ h => nomatch h)).shaped⟩]
  cases xs <;> simp [PyData.eqv, PyData.eqvAll]
theorem ed_eq_nil {n : Nat} {xs : List D} {Q : D → Prop} (h : ∀ x ∈ xs, Fine n x) (q : Q (.bool (decide (xs = [])))) (hn : n ≤ 60 := by decide) : Ed (dEq (.list xs) (.list [])) Q := by
  refine ⟨_, ?_, q⟩
  unfold dEq
  rw [if_pos ⟨(fine_list h).shaped (by omega), (fine_list (n := 0) (ds := []) (fun _ h => nomatch h)).shaped⟩]
  cases xs <;> simp [PyData.eqv, PyData.eqvAll]
theorem fine_mem {n : Nat} {d : D} {xs : List D} (s : Sq d xs) (h : Fine n d) : ∀ x ∈ xs, Fine n x := by
  intro x hx
  have hc : PyData.canLayAll0 xs = true := by
    have := h.1
    rcases s with rfl | rfl <;> simpa [PyData.canLay0] using this
  refine ⟨?_, by have := depth_mem hx; have := depth_sq s; have := h.2; omega⟩
  clear s h
  induction xs with
  | nil => cases hx
  | cons y ys ih =>
    have c : y.canLay0 = true ∧ PyData.canLayAll0 ys = true := by simpa [PyData.canLayAll0] using hc
    rcases List.mem_cons.mp hx with rfl | hx
    · exact c.1
    · exact ih hx c.2
theorem x__law_is_end {w : D} {p : Int} {ls : List Ln} (hw : Web w p ls) (d : D) (hf : Fine 50 d) : m__law_is_end_k15 [w, d] = some (.bool (endD ls.length d)) := by
  obtain ⟨L, sw, hL⟩ := hw
  obtain ⟨ys, sy, hl⟩ := lns_len hL
  unfold m__law_is_end_k15; refine mF_of ?_; walk_at "i"; unfold g__law_is_end_k15
  walk_at "e"
  rw [isi_seq]
  refine ⟨fun h1 => ?_, fun h1 => ?_⟩
  rotate_left
  · walk_at "t"
    walk_at "e"
    have h1 : seqOf d = none := by simpa using h1
    unfold endD; rw [h1]
    simp
  obtain ⟨xs, hx⟩ := Option.isSome_iff_exists.mp (show (seqOf d).isSome = true by simpa using h1)
  have s := sq_of hx
  walk_at "e"
  refine ed_lenQ s ?_
  walk_at "e"
  refine ⟨fun hn => ?_, fun hn => ?_⟩
  · walk_at "e"
    unfold endD; rw [hx]
    simp only [Bool.not_eq_true', decide_eq_false_iff_not] at hn
    rw [gives_rtI]
    split
    · rename_i e; cases e; simp at hn
    · rfl
  simp only [Bool.not_eq_false', decide_eq_true_eq] at hn
  obtain ⟨a, b, rfl⟩ : ∃ a b, xs = [a, b] := by
    match xs, hn with
    | [a, b], _ => exact ⟨a, b, rfl⟩
  walk_at "e"
  refine ev_lcX (xs := [a, b]) (enc := fun z => z) (b := fun z => isT "bool" z || !isT "int" z) (g := fun z => z) ?_
  walk_at "e"
  refine ed_itQ s ⟨rfl, fun z hz => ?_, ?_⟩
  · walk_at "e"
    refine ⟨fun hb => ?_, fun hb => ?_⟩
    · walk_at "e"
      rw [hb]
      refine ⟨rfl, rfl, fun _ => ?_⟩
      walk_at "e"
    · rw [hb]
      refine ⟨rfl, rfl, fun _ => ?_⟩
      walk_at "e"
  rw [List.map_id']
  walk_at "e"
  refine ed_ne_nil (n := 50) (fun x hx => fine_mem s hf x (List.mem_filter.mp hx).1) ?_
  walk_at "e"
  have key : (∃ i j, a = .int i ∧ b = .int j) ∨ (([a, b].filter fun z => isT "bool" z || !isT "int" z) ≠ [] ∧ endD ls.length d = false) := by
    unfold endD; rw [hx]
    cases a <;> cases b <;> first | exact .inl ⟨_, _, rfl, rfl⟩ | exact .inr ⟨by simp [isT, dTy], rfl⟩
  rcases key with ⟨i, j, rfl, rfl⟩ | ⟨h2, h3⟩
  rotate_left
  · refine split_t (by simp only [Bool.not_eq_true', decide_eq_false_iff_not]; exact h2) ?_
    walk_at "e"
    rw [gives_rtI, h3]
  refine split_f (by simp [isT, dTy]) ?_
  have e1 : endD ls.length d = decide (EndOk ls.length (i, j)) := endD_of s
  rw [e1]
  walk_at "e"
  refine ev_chain ?_
  walk_at "e"
  refine ed_ixQ s (by decide) rfl ?_
  refine Ed.of rfl ?_
  refine ⟨_, rfl, fun h2 => ?_, fun h2 => ?_⟩
  · walk_at "e"
    refine ed_ixQ sw (by decide) rfl ?_
    walk_at "e"
    refine ed_lenQ sy ?_
    refine Ed.of rfl ?_
    refine ⟨_, rfl, fun h3 => ?_, fun h3 => ?_⟩
    · refine ev_chain ?_
      walk_at "e"
      refine ed_ixQ s (by decide) rfl ?_
      refine Ed.of rfl ?_
      refine ⟨_, rfl, fun h4 => ?_, fun h4 => ?_⟩
      · walk_at "e"
        rw [gives_rtI]
        simp only [decide_eq_true_eq] at h2 h3 h4
        congr 1
        apply decide_eq_decide.mpr
        unfold EndOk
        simp only
        omega
      · walk_at "e"
        rw [gives_rtI]
        simp only [decide_eq_true_eq, decide_eq_false_iff_not] at h2 h3 h4
        rw [decide_eq_false]
        unfold EndOk
        simp only
        omega
    · walk_at "e"
      rw [gives_rtI]
      simp only [decide_eq_true_eq, decide_eq_false_iff_not] at h2 h3
      rw [decide_eq_false]
      unfold EndOk
      simp only
      omega
  · walk_at "e"
    refine ⟨fun h => (nomatch h), fun _ => ?_⟩
    rw [gives_rtI]
    simp only [decide_eq_false_iff_not] at h2
    rw [decide_eq_false]
    unfold EndOk
    simp only
    omega
end Lw

set_option maxHeartbeats 4000000
namespace Lw
open PySem Fu
local macro_rules | `(tactic| walk_at "e1") => `(tactic| first
  | with_reducible refine eo_seq ?_ | (with_reducible refine then_nx' ?_; refine ⟨?_, ?_, ?_⟩; rotate_left; · (try dsimp only [List.set, List.length_cons, List.length_nil, List.cons_append, List.nil_append, Nat.zero_add, Nat.reduceAdd]); exact rfl) | with_reducible refine then_rt ?_ | with_reducible refine eo_if ?_ | with_reducible refine eo_ret ?_ | with_reducible refine eo_set ?_ | with_reducible refine eo_asg ?_ | with_reducible refine eo_drop ?_ | with_reducible refine eo_nx ?_ | with_reducible refine eo_par ?_ | with_reducible refine eo_own ?_ | with_reducible refine eo_retN ?_ | with_reducible refine eo_for ?_ | with_reducible refine eo_retO ?_
  | with_reducible refine ev_c ?_ | (with_reducible refine ev_var ?_; refine ⟨_, rfl, ?_⟩) | with_reducible refine ev_bin ?_ | with_reducible refine ev_un ?_ | with_reducible refine ev_nil ?_ | with_reducible refine ev_cons ?_
  | with_reducible refine ev_tup ?_ | with_reducible refine ev_lst ?_ | with_reducible refine ev_call ?_ | with_reducible refine ev_callF ?_ | with_reducible refine ev_isi ?_ | with_reducible refine ev_isi2 ?_ | with_reducible refine ev_andV ?_ | with_reducible refine ev_orV ?_ | with_reducible refine ev_notV ?_
  | with_reducible refine ev_B ?_ | with_reducible refine ev_and ?_ | with_reducible refine ev_or ?_ | with_reducible refine ev_not ?_ | with_reducible refine ev_yes ?_ | with_reducible refine ev_if ?_ | with_reducible refine ev_no ?_ | with_reducible refine ev_so ?_ | with_reducible refine ev_sl ?_ | with_reducible refine ev_items ?_
  | (with_reducible refine ev_ixO ?_; refine ⟨_, _, rfl, rfl, ?_⟩) | (with_reducible refine ev_varO ?_; refine ⟨_, _, rfl, rfl, ?_⟩) | (with_reducible refine ev_lenO ?_; refine ⟨_, _, rfl, rfl, ?_⟩) | (with_reducible refine ev_scrSl ?_; refine ⟨_, rfl, ?_⟩) | (with_reducible refine ev_scrLen ?_; refine ⟨_, rfl, ?_⟩) | (with_reducible refine ev_callScr ?_; refine ⟨_, rfl, ?_⟩) | (with_reducible refine ev_OL ?_; refine ⟨_, _, rfl, rfl, ?_⟩) | with_reducible refine ev_OR ?_ | with_reducible refine ev_rep ?_ | with_reducible refine ev_listRng1 ?_ | with_reducible refine eo_setO ?_
  | with_reducible refine es_name ?_ | with_reducible refine es_tup2 ?_ | with_reducible refine es_tup3 ?_
  | with_reducible refine ed_addI ?_ | with_reducible refine ed_subI ?_ | with_reducible refine ed_cmp ?_ | with_reducible refine ed_eqI ?_ | with_reducible refine ed_neI ?_ | with_reducible refine ed_slT ?_ | with_reducible refine ed_slL ?_ | with_reducible refine ed_lenT ?_ | with_reducible refine ed_lenL ?_ | with_reducible refine ed_lenS ?_ | with_reducible refine ed_inS ?_ | with_reducible refine ed_itT ?_ | with_reducible refine ed_itL ?_ | with_reducible refine ed_tupL ?_ | with_reducible refine ed_tupT ?_ | with_reducible refine ed_listL ?_ | with_reducible refine ed_listT ?_ | with_reducible refine ed_neg ?_ | with_reducible refine ed_max ?_ | with_reducible refine ed_min ?_ | with_reducible refine ed_intB ?_
  | with_reducible refine ev_rng1 ?_ | with_reducible refine ev_rng2 ?_)
local macro_rules | `(tactic| walk_at "sd") => `(tactic| first | rfl | assumption | (simp only [decide_eq_true_eq, decide_eq_false_iff_not, Bool.not_eq_true', Bool.not_eq_false', Bool.and_eq_true, Bool.or_eq_true, List.length_map, List.length_cons, List.length_nil, List.length_append, List.length_range] at *; omega))
local macro_rules | `(tactic| walk_at "e2") => `(tactic| first
  | walk_at "e1" | with_reducible refine ⟨_, rfl, ?_⟩ | with_reducible refine ⟨_, _, rfl, ?_⟩
  | with_reducible refine And.intro (Eq.refl (List.length _)) ?_ | with_reducible refine And.intro (Nat.le_of_ble_eq_true (n := List.length _) rfl) ?_
  | with_reducible refine And.intro (Eq.refl (_ : Sx)) (?_ : Ed _ _)
  | ((with_reducible refine And.intro ?_ (And.intro ?_ (?_ : Ev _ _))); (· rfl); (· rfl))
  | ((with_reducible refine ed_ixT ?_ ?_ ?_); (· decide); (· rfl)) | ((with_reducible refine ed_ixL ?_ ?_ ?_); (· decide); (· rfl)) | ((with_reducible refine ed_at ?_ ?_ ?_); (· decide); (· rfl))
  | ((with_reducible refine ed_modI ?_ ?_); (· first | decide | omega))
  | with_reducible exact gives_nx | ((with_reducible refine gives_rt ?_); (· rfl)) | ((with_reducible refine And.intro ?_ ?_); (· exact rfl); (· with_reducible exact Eq.refl (_ : Sx))))
local macro_rules | `(tactic| walk_at "e") => `(tactic| repeat walk_at "e2")
/-- begin a def's spec -/
local macro_rules | `(tactic| walk_at "i") => `(tactic| simp only [initS, List.map_cons, List.map_nil, List.length_cons, List.length_nil, Nat.reduceAdd, Nat.reduceSub, List.replicate, List.cons_append, List.nil_append])
/-- a known truth decides -/
local macro_rules | `(tactic| walk_at "t") => `(tactic| first | ((with_reducible refine split_t ?_ ?_); (· walk_at "sd")) | ((with_reducible refine split_t' ?_ ?_); (· walk_at "sd")))
local macro_rules | `(tactic| walk_at "f") => `(tactic| first | ((with_reducible refine split_f ?_ ?_); (· walk_at "sd")) | ((with_reducible refine split_f' ?_ ?_); (· walk_at "sd")))
/-- all that is seen in a look -/
local macro_rules | `(tactic| walk_at "v") => `(tactic| (rw [sealAll_mk (by (simp only [List.set_cons_zero, List.set_cons_succ, List.map_cons, List.map_nil, sealS_none, sealS_dat, sealS_scr, sealS_own, List.getElem?_cons_zero, List.getElem?_cons_succ, sealC_lst]; rfl)) (by (simp only [List.set_cons_zero, List.set_cons_succ, List.map_cons, List.map_nil]; rfl))]))
namespace Sp
theorem ev_drawR {sl : List (Option R)} {os : List (Option Cell)} {i : Nat} {g : M (List D)} {Q : D → Sx → Prop}
    (h : ∃ j, sl[i]? = some (some (.own j)) ∧ Ev (g ⟨sl, os⟩) fun ds S1 => ∃ cs many c, S1.os[j]? = some (some (.lst cs)) ∧ ds = [.int many] ∧ Reel c cs ∧ 1 ≤ c ∧ 0 < many ∧ many ≤ 18446744073709551616 ∧ ∀ v cs', 0 ≤ v → v < many → Reel (c - 1) cs' → Q (.int v) ⟨S1.sl, S1.os.set j (some (.lst cs'))⟩) : Ev (gIO i 1 m__law_draw_k15 g ⟨sl, os⟩) Q := by
  obtain ⟨j, hi, h⟩ := h
  refine ev_IO ⟨j, hi, h.mono ?_⟩
  rintro ds S1 ⟨cs, many, c, hc, rfl, hR, c1, m0, m1, h⟩
  obtain ⟨d, cs', e, v, rfl, v0, v1, hR'⟩ := x_draw (b := c - 1) (hR.mono (by omega)) m0 m1
  exact ⟨cs, hc, rfl, _, cs', e, h v cs' v0 v1 hR'⟩
end Sp
theorem canLay_ints (ns : List Int) : PyData.canLayAll0 (ns.map PyData.int) = true := by
  induction ns with
  | nil => rfl
  | cons n ns ih => simp [PyData.canLayAll0, PyData.canLay0, ih]
theorem ed_countI {ns : List Int} {i : Int} {Q : D → Prop} (h : Q (.int (ns.count i : Nat))) : Ed (dCount (.list (ns.map PyData.int)) (.int i)) Q := by
  refine ⟨_, ?_, h⟩
  simp only [dCount]
  rw [if_pos ⟨canLay_ints ns, (fine_int i).1, by simp [PyData.depth]⟩, List.countP_map, List.count]
  have : (List.countP ((fun y => PyData.eqv y (.int i)) ∘ PyData.int) ns) = List.countP (fun x => x == i) ns := List.countP_congr fun x _ => by simp [PyData.eqv, Function.comp]
  rw [this]
theorem filter_nodup {ns : List Int} : (ns.filter fun i => decide ((1 : Int) < (ns.count i : Nat))) = [] ↔ ns.Nodup := by
  rw [List.filter_eq_nil_iff, List.nodup_iff_count]
  constructor
  · intro h a
    by_cases m : a ∈ ns
    · have := h a m
      simp at this; omega
    · rw [List.count_eq_zero_of_not_mem m]; omega
  · intro h a _
    have := h a
    simp; omega
theorem fine_en {d : D} {e : Int × Int} (s : IsEn d e) : Fine 1 d := by
  rcases s with rfl | rfl
  · exact fine_list (n := 0) fun x hx => by
      simp only [List.mem_cons, List.not_mem_nil, or_false] at hx
      rcases hx with rfl | rfl <;> exact fine_int _
  · exact fine_tup (n := 0) fun x hx => by
      simp only [List.mem_cons, List.not_mem_nil, or_false] at hx
      rcases hx with rfl | rfl <;> exact fine_int _
theorem filter_none {α : Type} {xs : List α} {f : α → Bool} : (xs.filter fun x => !f x) = [] ↔ xs.all f = true := by
  rw [List.filter_eq_nil_iff, List.all_eq_true]
  simp
theorem goes_idx (ls : List Ln) (es : List (Int × Int)) : ((es.zip es.tail).all fun p => goesB ls p.1 p.2) = true ↔ ∀ k, k < es.length - 1 → goesB ls (es.getD k (0, 0)) (es.getD (k + 1) (0, 0)) = true := by
  rw [List.all_eq_true]
  constructor
  · intro h k hk
    have g1 : es[k]? = some es[k] := List.getElem?_eq_getElem (by omega)
    have g2 : es[k + 1]? = some es[k + 1] := List.getElem?_eq_getElem (by omega)
    rw [List.getD_eq_getElem?_getD, List.getD_eq_getElem?_getD, g1, g2]
    refine h (es[k], es[k + 1]) (List.mem_iff_getElem?.mpr ⟨k, ?_⟩)
    rw [List.getElem?_zip_eq_some]
    exact ⟨g1, by rw [List.getElem?_tail, g2]⟩
  · rintro h ⟨a, b⟩ hm
    obtain ⟨k, hk⟩ := List.mem_iff_getElem?.mp hm
    rw [List.getElem?_zip_eq_some, List.getElem?_tail] at hk
    obtain ⟨g1, g2⟩ := hk
    have l2 := (List.getElem?_eq_some_iff.mp g2).1
    have := h k (by omega)
    rw [List.getD_eq_getElem?_getD, List.getD_eq_getElem?_getD, g1, g2] at this
    exact this
theorem x__law_is_ride {w : D} {p : Int} {ls : List Ln} (hw : Web w p ls) (h : WbOk p ls) {d : D} {es : List (Int × Int)} (hd : IsRide d es) (hz : es.length ≤ 4000000) : m__law_is_ride [w, d] = some (.bool (rideB ls es)) := by
  obtain ⟨ps, s, rfl, hp⟩ := hd
  have hz : ps.length ≤ 4000000 := by simpa using hz
  unfold m__law_is_ride; refine mF_of ?_; walk_at "i"; unfold g__law_is_ride
  walk_at "e"
  rw [isi_seq, s.of]
  refine ⟨fun _ => ?_, fun h => (nomatch h)⟩
  walk_at "e"
  refine ed_lenQ s ?_
  walk_at "e"
  refine ⟨fun hn => ?_, fun hn => ?_⟩
  · walk_at "e"
    have : ps = [] := by
      have := of_decide_eq_true hn
      exact List.length_eq_zero_iff.mp (by simpa using this)
    rw [gives_rtI, this]; rfl
  have hnn : ps.map (·.2) ≠ [] := by
    intro z
    have : ps = [] := List.map_eq_nil_iff.mp z
    rw [this] at hn; simp at hn
  walk_at "e"
  refine ev_lcX (xs := ps) (enc := (·.1)) (b := fun q => !decide (EndOk ls.length q.2)) (g := (·.1)) ?_
  walk_at "e"
  refine ed_itQ s ⟨rfl, fun q hq => ?_, ?_⟩
  · walk_at "e"
    refine Ed.of (x__law_is_end hw q.1 ((fine_en (hp q hq)).mono (by decide))) ?_
    rw [endD_of (hp q hq)]
    walk_at "e"
    refine ⟨rfl, rfl, fun _ => ?_⟩
    walk_at "e"
  walk_at "e"
  refine ed_ne_nil (n := 1) (fun x hx => ?_) ?_
  · obtain ⟨q, hq, rfl⟩ := List.mem_map.mp hx
    exact fine_en (hp q (List.mem_filter.mp hq).1)
  walk_at "e"
  have e1 : (ps.filter fun q => !decide (EndOk ls.length q.2)) = [] ↔ (ps.map (·.2)).all (fun e => decide (EndOk ls.length e)) = true := by
    rw [filter_none (f := fun q : D × (Int × Int) => decide (EndOk ls.length q.2)), List.all_map]; rfl
  refine ⟨fun h1 => ?_, fun h1 => ?_⟩
  · walk_at "e"
    rw [gives_rtI]
    unfold rideB
    have : ¬ ((ps.map (·.2)).all (fun e => decide (EndOk ls.length e)) = true) := by
      rw [← e1]
      simpa using h1
    rw [Bool.not_eq_true] at this
    rw [this]; simp
  have hall : (ps.map (·.2)).all (fun e => decide (EndOk ls.length e)) = true := by
    rw [← e1]
    simpa using h1
  unfold rideB
  rw [decide_eq_true hnn, hall, Bool.true_and, Bool.true_and]
  walk_at "e"
  refine ev_mapX (xs := ps) (enc := (·.1)) (g := fun q => .int q.2.1) ?_
  walk_at "e"
  refine ed_itQ s ⟨rfl, fun q hq => ?_, ?_⟩
  · walk_at "e"
    refine ed_ixQ (hp q hq) (by decide) rfl ⟨rfl, rfl⟩
  have e2 : ps.map (fun q => PyData.int q.2.1) = ((ps.map (·.2)).map Prod.fst).map PyData.int := by rw [List.map_map, List.map_map]; rfl
  rw [e2]
  walk_at "e"
  refine ev_lcX (xs := (ps.map (·.2)).map Prod.fst) (enc := PyData.int) (b := fun i => decide ((1 : Int) < (((ps.map (·.2)).map Prod.fst).count i : Nat))) (g := PyData.int) ?_
  walk_at "e"
  refine ⟨rfl, fun i hi => ?_, ?_⟩
  · walk_at "e"
    refine ed_countI ?_
    walk_at "e"
    refine ⟨rfl, rfl, fun _ => ?_⟩
    walk_at "e"
  walk_at "e"
  refine ed_ne_nil (n := 0) (fun x hx => ?_) ?_
  · obtain ⟨q, hq, rfl⟩ := List.mem_map.mp hx
    exact fine_int _
  walk_at "e"
  refine ⟨fun h2 => ?_, fun h2 => ?_⟩
  · walk_at "e"
    have : ¬ ((ps.map (·.2)).map Prod.fst).Nodup := by
      rw [← filter_nodup]
      simpa using h2
    rw [gives_rtI, decide_eq_false this]; rfl
  have hnd : ((ps.map (·.2)).map Prod.fst).Nodup := by
    rw [← filter_nodup]
    simpa using h2
  rw [decide_eq_true hnd, Bool.true_and]
  have goesAll : (ps.zip ps.tail).all (fun z => goesB ls z.1.2 z.2.2) = ((ps.map (·.2)).zip (ps.map (·.2)).tail).all fun p => goesB ls p.1 p.2 := by
    rw [← List.map_tail, List.zip_map, List.all_map]; rfl
  have plen : 1 ≤ ps.length := by
    cases ps with
    | nil => exact absurd rfl hnn
    | cons => simp
  walk_at "e"
  refine ev_lcX (xs := List.range (ps.length - 1)) (enc := fun k : Nat => .int (1 + (k : Int))) (b := fun k => !goesB ls ((ps.map (·.2)).getD k (0, 0)) ((ps.map (·.2)).getD (k + 1) (0, 0))) (g := fun k : Nat => .int (1 + (k : Int))) ?_
  walk_at "e"
  refine ed_lenQ s ?_
  walk_at "e"
  refine ⟨by decide, by decide, by omega, by simp; omega, by simp; omega, ?_, fun k hk => ?_, ?_⟩
  · rw [rng_map]; congr 2; simp
  · have hk : k < ps.length - 1 := List.mem_range.mp hk
    have g1 : ps[k]? = some ps[k] := List.getElem?_eq_getElem (by omega)
    have g2 : ps[k + 1]? = some ps[k + 1] := List.getElem?_eq_getElem (by omega)
    have m1 : ps[k] ∈ ps := List.getElem_mem _
    have m2 : ps[k + 1] ∈ ps := List.getElem_mem _
    have all2 : ∀ q ∈ ps, EndOk ls.length q.2 := fun q hq => by
      have := List.all_eq_true.mp hall q.2 (List.mem_map_of_mem (f := (·.2)) hq)
      simpa using this
    walk_at "e"
    refine ed_ixQ s (x := ps[k].1) (by omega) (by rw [show (1 + (k : Int) - 1).toNat = k by omega, List.getElem?_map, g1]; rfl) ?_
    walk_at "e"
    refine ed_ixQ s (x := ps[k + 1].1) (by omega) (by rw [show (1 + (k : Int)).toNat = k + 1 by omega, List.getElem?_map, g2]; rfl) ?_
    walk_at "e"
    refine Ed.of (x__law_goes hw h (hp _ m1) (hp _ m2) (all2 _ m1) (all2 _ m2)) ?_
    walk_at "e"
    refine ⟨rfl, ?_, fun _ => ?_⟩
    · rw [List.getD_eq_getElem?_getD, List.getD_eq_getElem?_getD, List.getElem?_map, List.getElem?_map, g1, g2]; rfl
    walk_at "e"
  walk_at "e"
  refine ed_eq_nil (n := 0) (fun x hx => ?_) ?_
  · obtain ⟨q, hq, rfl⟩ := List.mem_map.mp hx
    exact fine_int _
  rw [gives_rtI]
  congr 1
  rw [Bool.eq_iff_iff, decide_eq_true_eq, goes_idx, List.map_eq_nil_iff, filter_none (f := fun k => goesB ls ((ps.map (·.2)).getD k (0, 0)) ((ps.map (·.2)).getD (k + 1) (0, 0)))]
  simp only [List.all_eq_true, List.mem_range, List.length_map]
theorem x__law_is_round {w : D} {p : Int} {ls : List Ln} (hw : Web w p ls) (h : WbOk p ls) {d : D} {es : List (Int × Int)} (hd : IsRide d es) (hz : es.length ≤ 4000000) : m__law_is_round [w, d] = some (.bool (roundB ls es)) := by
  unfold m__law_is_round; refine mF_of ?_; walk_at "i"; unfold g__law_is_round
  walk_at "e"
  refine Ed.of (x__law_is_ride hw h hd hz) ?_
  walk_at "e"
  refine ⟨fun hr => ?_, fun hr => by unfold roundB; rw [hr]; rfl⟩
  obtain ⟨ps, s, rfl, hp⟩ := hd
  obtain ⟨hn, hall, _, _⟩ := rideB_ends hr
  have hn : ps ≠ [] := fun z => hn (by rw [z]; rfl)
  obtain ⟨a, ha, la, la2⟩ := last_map hn
  obtain ⟨b, hb, lb, lb2⟩ := head_map hn
  walk_at "e"
  refine ed_lastQ s la ?_
  walk_at "e"
  refine ed_ixQ s (by decide) lb ?_
  walk_at "e"
  refine Ed.of (x__law_goes hw h (hp _ ha) (hp _ hb) (hall _ (List.mem_map_of_mem ha)) (hall _ (List.mem_map_of_mem hb))) ?_
  walk_at "e"
  rw [gives_rtI]
  unfold roundB
  rw [hr, la2, lb2]; rfl
end Lw

set_option maxHeartbeats 4000000
namespace Lw
open PySem Fu
local macro_rules | `(tactic| walk_at "e1") => `(tactic| first
  | with_reducible refine eo_seq ?_ | (with_reducible refine then_nx' ?_; refine ⟨?_, ?_, ?_⟩; rotate_left; · (try dsimp only [List.set, List.length_cons, List.length_nil, List.cons_append, List.nil_append, Nat.zero_add, Nat.reduceAdd]); exact rfl) | with_reducible refine then_rt ?_ | with_reducible refine eo_if ?_ | with_reducible refine eo_ret ?_ | with_reducible refine eo_set ?_ | with_reducible refine eo_asg ?_ | with_reducible refine eo_drop ?_ | with_reducible refine eo_nx ?_ | with_reducible refine eo_par ?_ | with_reducible refine eo_own ?_ | with_reducible refine eo_retN ?_ | with_reducible refine eo_for ?_ | with_reducible refine eo_retO ?_
  | with_reducible refine ev_c ?_ | (with_reducible refine ev_var ?_; refine ⟨_, rfl, ?_⟩) | with_reducible refine ev_bin ?_ | with_reducible refine ev_un ?_ | with_reducible refine ev_nil ?_ | with_reducible refine ev_cons ?_
  | with_reducible refine ev_tup ?_ | with_reducible refine ev_lst ?_ | with_reducible refine ev_call ?_ | with_reducible refine ev_callF ?_ | with_reducible refine ev_isi ?_ | with_reducible refine ev_isi2 ?_ | with_reducible refine ev_andV ?_ | with_reducible refine ev_orV ?_ | with_reducible refine ev_notV ?_
  | with_reducible refine ev_B ?_ | with_reducible refine ev_and ?_ | with_reducible refine ev_or ?_ | with_reducible refine ev_not ?_ | with_reducible refine ev_yes ?_ | with_reducible refine ev_if ?_ | with_reducible refine ev_no ?_ | with_reducible refine ev_so ?_ | with_reducible refine ev_sl ?_ | with_reducible refine ev_items ?_
  | (with_reducible refine ev_ixO ?_; refine ⟨_, _, rfl, rfl, ?_⟩) | (with_reducible refine ev_varO ?_; refine ⟨_, _, rfl, rfl, ?_⟩) | (with_reducible refine ev_lenO ?_; refine ⟨_, _, rfl, rfl, ?_⟩) | (with_reducible refine ev_scrSl ?_; refine ⟨_, rfl, ?_⟩) | (with_reducible refine ev_scrLen ?_; refine ⟨_, rfl, ?_⟩) | (with_reducible refine ev_callScr ?_; refine ⟨_, rfl, ?_⟩) | (with_reducible refine ev_OL ?_; refine ⟨_, _, rfl, rfl, ?_⟩) | with_reducible refine ev_OR ?_ | with_reducible refine ev_rep ?_ | with_reducible refine ev_listRng1 ?_ | with_reducible refine eo_setO ?_
  | with_reducible refine es_name ?_ | with_reducible refine es_tup2 ?_ | with_reducible refine es_tup3 ?_
  | with_reducible refine ed_addI ?_ | with_reducible refine ed_subI ?_ | with_reducible refine ed_cmp ?_ | with_reducible refine ed_eqI ?_ | with_reducible refine ed_neI ?_ | with_reducible refine ed_slT ?_ | with_reducible refine ed_slL ?_ | with_reducible refine ed_lenT ?_ | with_reducible refine ed_lenL ?_ | with_reducible refine ed_lenS ?_ | with_reducible refine ed_inS ?_ | with_reducible refine ed_itT ?_ | with_reducible refine ed_itL ?_ | with_reducible refine ed_tupL ?_ | with_reducible refine ed_tupT ?_ | with_reducible refine ed_listL ?_ | with_reducible refine ed_listT ?_ | with_reducible refine ed_neg ?_ | with_reducible refine ed_max ?_ | with_reducible refine ed_min ?_ | with_reducible refine ed_intB ?_
  | with_reducible refine ev_rng1 ?_ | with_reducible refine ev_rng2 ?_)
local macro_rules | `(tactic| walk_at "sd") => `(tactic| first | rfl | assumption | (simp only [decide_eq_true_eq, decide_eq_false_iff_not, Bool.not_eq_true', Bool.not_eq_false', Bool.and_eq_true, Bool.or_eq_true, List.length_map, List.length_cons, List.length_nil, List.length_append, List.length_range] at *; omega))
local macro_rules | `(tactic| walk_at "e2") => `(tactic| first
  | walk_at "e1" | with_reducible refine ⟨_, rfl, ?_⟩ | with_reducible refine ⟨_, _, rfl, ?_⟩
  | with_reducible refine And.intro (Eq.refl (List.length _)) ?_ | with_reducible refine And.intro (Nat.le_of_ble_eq_true (n := List.length _) rfl) ?_
  | with_reducible refine And.intro (Eq.refl (_ : Sx)) (?_ : Ed _ _)
  | ((with_reducible refine And.intro ?_ (And.intro ?_ (?_ : Ev _ _))); (· rfl); (· rfl))
  | ((with_reducible refine ed_ixT ?_ ?_ ?_); (· decide); (· rfl)) | ((with_reducible refine ed_ixL ?_ ?_ ?_); (· decide); (· rfl)) | ((with_reducible refine ed_at ?_ ?_ ?_); (· decide); (· rfl))
  | ((with_reducible refine ed_modI ?_ ?_); (· first | decide | omega))
  | with_reducible exact gives_nx | ((with_reducible refine gives_rt ?_); (· rfl)) | ((with_reducible refine And.intro ?_ ?_); (· exact rfl); (· with_reducible exact Eq.refl (_ : Sx))))
local macro_rules | `(tactic| walk_at "e") => `(tactic| repeat walk_at "e2")
/-- begin a def's spec -/
local macro_rules | `(tactic| walk_at "i") => `(tactic| simp only [initS, List.map_cons, List.map_nil, List.length_cons, List.length_nil, Nat.reduceAdd, Nat.reduceSub, List.replicate, List.cons_append, List.nil_append])
/-- a known truth decides -/
local macro_rules | `(tactic| walk_at "t") => `(tactic| first | ((with_reducible refine split_t ?_ ?_); (· walk_at "sd")) | ((with_reducible refine split_t' ?_ ?_); (· walk_at "sd")))
local macro_rules | `(tactic| walk_at "f") => `(tactic| first | ((with_reducible refine split_f ?_ ?_); (· walk_at "sd")) | ((with_reducible refine split_f' ?_ ?_); (· walk_at "sd")))
/-- all that is seen in a look -/
local macro_rules | `(tactic| walk_at "v") => `(tactic| (rw [sealAll_mk (by (simp only [List.set_cons_zero, List.set_cons_succ, List.map_cons, List.map_nil, sealS_none, sealS_dat, sealS_scr, sealS_own, List.getElem?_cons_zero, List.getElem?_cons_succ, sealC_lst]; rfl)) (by (simp only [List.set_cons_zero, List.set_cons_succ, List.map_cons, List.map_nil]; rfl))]))
namespace Sp
end Sp
end Lw

set_option maxHeartbeats 4000000
namespace Lw
open PySem Fu
local macro_rules | `(tactic| walk_at "e1") => `(tactic| first
  | with_reducible refine eo_seq ?_ | (with_reducible refine then_nx' ?_; refine ⟨?_, ?_, ?_⟩; rotate_left; · (try dsimp only [List.set, List.length_cons, List.length_nil, List.cons_append, List.nil_append, Nat.zero_add, Nat.reduceAdd]); exact rfl) | with_reducible refine then_rt ?_ | with_reducible refine eo_if ?_ | with_reducible refine eo_ret ?_ | with_reducible refine eo_set ?_ | with_reducible refine eo_asg ?_ | with_reducible refine eo_drop ?_ | with_reducible refine eo_nx ?_ | with_reducible refine eo_par ?_ | with_reducible refine eo_own ?_ | with_reducible refine eo_retN ?_ | with_reducible refine eo_for ?_ | with_reducible refine eo_retO ?_
  | with_reducible refine ev_c ?_ | (with_reducible refine ev_var ?_; refine ⟨_, rfl, ?_⟩) | with_reducible refine ev_bin ?_ | with_reducible refine ev_un ?_ | with_reducible refine ev_nil ?_ | with_reducible refine ev_cons ?_
  | with_reducible refine ev_tup ?_ | with_reducible refine ev_lst ?_ | with_reducible refine ev_call ?_ | with_reducible refine ev_callF ?_ | with_reducible refine ev_isi ?_ | with_reducible refine ev_isi2 ?_ | with_reducible refine ev_andV ?_ | with_reducible refine ev_orV ?_ | with_reducible refine ev_notV ?_
  | with_reducible refine ev_B ?_ | with_reducible refine ev_and ?_ | with_reducible refine ev_or ?_ | with_reducible refine ev_not ?_ | with_reducible refine ev_yes ?_ | with_reducible refine ev_if ?_ | with_reducible refine ev_no ?_ | with_reducible refine ev_so ?_ | with_reducible refine ev_sl ?_ | with_reducible refine ev_items ?_
  | (with_reducible refine ev_ixO ?_; refine ⟨_, _, rfl, rfl, ?_⟩) | (with_reducible refine ev_varO ?_; refine ⟨_, _, rfl, rfl, ?_⟩) | (with_reducible refine ev_lenO ?_; refine ⟨_, _, rfl, rfl, ?_⟩) | (with_reducible refine ev_scrSl ?_; refine ⟨_, rfl, ?_⟩) | (with_reducible refine ev_scrLen ?_; refine ⟨_, rfl, ?_⟩) | (with_reducible refine ev_callScr ?_; refine ⟨_, rfl, ?_⟩) | (with_reducible refine ev_OL ?_; refine ⟨_, _, rfl, rfl, ?_⟩) | with_reducible refine ev_OR ?_ | with_reducible refine ev_rep ?_ | with_reducible refine ev_listRng1 ?_ | with_reducible refine eo_setO ?_
  | with_reducible refine es_name ?_ | with_reducible refine es_tup2 ?_ | with_reducible refine es_tup3 ?_
  | with_reducible refine ed_addI ?_ | with_reducible refine ed_subI ?_ | with_reducible refine ed_cmp ?_ | with_reducible refine ed_eqI ?_ | with_reducible refine ed_neI ?_ | with_reducible refine ed_slT ?_ | with_reducible refine ed_slL ?_ | with_reducible refine ed_lenT ?_ | with_reducible refine ed_lenL ?_ | with_reducible refine ed_lenS ?_ | with_reducible refine ed_inS ?_ | with_reducible refine ed_itT ?_ | with_reducible refine ed_itL ?_ | with_reducible refine ed_tupL ?_ | with_reducible refine ed_tupT ?_ | with_reducible refine ed_listL ?_ | with_reducible refine ed_listT ?_ | with_reducible refine ed_neg ?_ | with_reducible refine ed_max ?_ | with_reducible refine ed_min ?_ | with_reducible refine ed_intB ?_
  | with_reducible refine ev_rng1 ?_ | with_reducible refine ev_rng2 ?_)
local macro_rules | `(tactic| walk_at "sd") => `(tactic| first | rfl | assumption | (simp only [decide_eq_true_eq, decide_eq_false_iff_not, Bool.not_eq_true', Bool.not_eq_false', Bool.and_eq_true, Bool.or_eq_true, List.length_map, List.length_cons, List.length_nil, List.length_append, List.length_range] at *; omega))
local macro_rules | `(tactic| walk_at "e2") => `(tactic| first
  | walk_at "e1" | with_reducible refine ⟨_, rfl, ?_⟩ | with_reducible refine ⟨_, _, rfl, ?_⟩
  | with_reducible refine And.intro (Eq.refl (List.length _)) ?_ | with_reducible refine And.intro (Nat.le_of_ble_eq_true (n := List.length _) rfl) ?_
  | with_reducible refine And.intro (Eq.refl (_ : Sx)) (?_ : Ed _ _)
  | ((with_reducible refine And.intro ?_ (And.intro ?_ (?_ : Ev _ _))); (· rfl); (· rfl))
  | ((with_reducible refine ed_ixT ?_ ?_ ?_); (· decide); (· rfl)) | ((with_reducible refine ed_ixL ?_ ?_ ?_); (· decide); (· rfl)) | ((with_reducible refine ed_at ?_ ?_ ?_); (· decide); (· rfl))
  | ((with_reducible refine ed_modI ?_ ?_); (· first | decide | omega))
  | with_reducible exact gives_nx | ((with_reducible refine gives_rt ?_); (· rfl)) | ((with_reducible refine And.intro ?_ ?_); (· exact rfl); (· with_reducible exact Eq.refl (_ : Sx))))
local macro_rules | `(tactic| walk_at "e") => `(tactic| repeat walk_at "e2")
/-- begin a def's spec -/
local macro_rules | `(tactic| walk_at "i") => `(tactic| simp only [initS, List.map_cons, List.map_nil, List.length_cons, List.length_nil, Nat.reduceAdd, Nat.reduceSub, List.replicate, List.cons_append, List.nil_append])
/-- a known truth decides -/
local macro_rules | `(tactic| walk_at "t") => `(tactic| first | ((with_reducible refine split_t ?_ ?_); (· walk_at "sd")) | ((with_reducible refine split_t' ?_ ?_); (· walk_at "sd")))
local macro_rules | `(tactic| walk_at "f") => `(tactic| first | ((with_reducible refine split_f ?_ ?_); (· walk_at "sd")) | ((with_reducible refine split_f' ?_ ?_); (· walk_at "sd")))
/-- all that is seen in a look -/
local macro_rules | `(tactic| walk_at "v") => `(tactic| (rw [sealAll_mk (by (simp only [List.set_cons_zero, List.set_cons_succ, List.map_cons, List.map_nil, sealS_none, sealS_dat, sealS_scr, sealS_own, List.getElem?_cons_zero, List.getElem?_cons_succ, sealC_lst]; rfl)) (by (simp only [List.set_cons_zero, List.set_cons_succ, List.map_cons, List.map_nil]; rfl))]))
namespace Sp
end Sp
end Lw

set_option maxHeartbeats 4000000
namespace Lw
open PySem Fu
local macro_rules | `(tactic| walk_at "e1") => `(tactic| first
  | with_reducible refine eo_seq ?_ | (with_reducible refine then_nx' ?_; refine ⟨?_, ?_, ?_⟩; rotate_left; · (try dsimp only [List.set, List.length_cons, List.length_nil, List.cons_append, List.nil_append, Nat.zero_add, Nat.reduceAdd]); exact rfl) | with_reducible refine then_rt ?_ | with_reducible refine eo_if ?_ | with_reducible refine eo_ret ?_ | with_reducible refine eo_set ?_ | with_reducible refine eo_asg ?_ | with_reducible refine eo_drop ?_ | with_reducible refine eo_nx ?_ | with_reducible refine eo_par ?_ | with_reducible refine eo_own ?_ | with_reducible refine eo_retN ?_ | with_reducible refine eo_for ?_ | with_reducible refine eo_retO ?_
  | with_reducible refine ev_c ?_ | (with_reducible refine ev_var ?_; refine ⟨_, rfl, ?_⟩) | with_reducible refine ev_bin ?_ | with_reducible refine ev_un ?_ | with_reducible refine ev_nil ?_ | with_reducible refine ev_cons ?_
  | with_reducible refine ev_tup ?_ | with_reducible refine ev_lst ?_ | with_reducible refine ev_call ?_ | with_reducible refine ev_callF ?_ | with_reducible refine ev_isi ?_ | with_reducible refine ev_isi2 ?_ | with_reducible refine ev_andV ?_ | with_reducible refine ev_orV ?_ | with_reducible refine ev_notV ?_
  | with_reducible refine ev_B ?_ | with_reducible refine ev_and ?_ | with_reducible refine ev_or ?_ | with_reducible refine ev_not ?_ | with_reducible refine ev_yes ?_ | with_reducible refine ev_if ?_ | with_reducible refine ev_no ?_ | with_reducible refine ev_so ?_ | with_reducible refine ev_sl ?_ | with_reducible refine ev_items ?_
  | (with_reducible refine ev_ixO ?_; refine ⟨_, _, rfl, rfl, ?_⟩) | (with_reducible refine ev_varO ?_; refine ⟨_, _, rfl, rfl, ?_⟩) | (with_reducible refine ev_lenO ?_; refine ⟨_, _, rfl, rfl, ?_⟩) | (with_reducible refine ev_scrSl ?_; refine ⟨_, rfl, ?_⟩) | (with_reducible refine ev_scrLen ?_; refine ⟨_, rfl, ?_⟩) | (with_reducible refine ev_callScr ?_; refine ⟨_, rfl, ?_⟩) | (with_reducible refine ev_OL ?_; refine ⟨_, _, rfl, rfl, ?_⟩) | with_reducible refine ev_OR ?_ | with_reducible refine ev_rep ?_ | with_reducible refine ev_listRng1 ?_ | with_reducible refine eo_setO ?_
  | with_reducible refine es_name ?_ | with_reducible refine es_tup2 ?_ | with_reducible refine es_tup3 ?_
  | with_reducible refine ed_addI ?_ | with_reducible refine ed_subI ?_ | with_reducible refine ed_cmp ?_ | with_reducible refine ed_eqI ?_ | with_reducible refine ed_neI ?_ | with_reducible refine ed_slT ?_ | with_reducible refine ed_slL ?_ | with_reducible refine ed_lenT ?_ | with_reducible refine ed_lenL ?_ | with_reducible refine ed_lenS ?_ | with_reducible refine ed_inS ?_ | with_reducible refine ed_itT ?_ | with_reducible refine ed_itL ?_ | with_reducible refine ed_tupL ?_ | with_reducible refine ed_tupT ?_ | with_reducible refine ed_listL ?_ | with_reducible refine ed_listT ?_ | with_reducible refine ed_neg ?_ | with_reducible refine ed_max ?_ | with_reducible refine ed_min ?_ | with_reducible refine ed_intB ?_
  | with_reducible refine ev_rng1 ?_ | with_reducible refine ev_rng2 ?_)
local macro_rules | `(tactic| walk_at "sd") => `(tactic| first | rfl | assumption | (simp only [decide_eq_true_eq, decide_eq_false_iff_not, Bool.not_eq_true', Bool.not_eq_false', Bool.and_eq_true, Bool.or_eq_true, List.length_map, List.length_cons, List.length_nil, List.length_append, List.length_range] at *; omega))
local macro_rules | `(tactic| walk_at "e2") => `(tactic| first
  | walk_at "e1" | with_reducible refine ⟨_, rfl, ?_⟩ | with_reducible refine ⟨_, _, rfl, ?_⟩
  | with_reducible refine And.intro (Eq.refl (List.length _)) ?_ | with_reducible refine And.intro (Nat.le_of_ble_eq_true (n := List.length _) rfl) ?_
  | with_reducible refine And.intro (Eq.refl (_ : Sx)) (?_ : Ed _ _)
  | ((with_reducible refine And.intro ?_ (And.intro ?_ (?_ : Ev _ _))); (· rfl); (· rfl))
  | ((with_reducible refine ed_ixT ?_ ?_ ?_); (· decide); (· rfl)) | ((with_reducible refine ed_ixL ?_ ?_ ?_); (· decide); (· rfl)) | ((with_reducible refine ed_at ?_ ?_ ?_); (· decide); (· rfl))
  | ((with_reducible refine ed_modI ?_ ?_); (· first | decide | omega))
  | with_reducible exact gives_nx | ((with_reducible refine gives_rt ?_); (· rfl)) | ((with_reducible refine And.intro ?_ ?_); (· exact rfl); (· with_reducible exact Eq.refl (_ : Sx))))
local macro_rules | `(tactic| walk_at "e") => `(tactic| repeat walk_at "e2")
/-- begin a def's spec -/
local macro_rules | `(tactic| walk_at "i") => `(tactic| simp only [initS, List.map_cons, List.map_nil, List.length_cons, List.length_nil, Nat.reduceAdd, Nat.reduceSub, List.replicate, List.cons_append, List.nil_append])
/-- a known truth decides -/
local macro_rules | `(tactic| walk_at "t") => `(tactic| first | ((with_reducible refine split_t ?_ ?_); (· walk_at "sd")) | ((with_reducible refine split_t' ?_ ?_); (· walk_at "sd")))
local macro_rules | `(tactic| walk_at "f") => `(tactic| first | ((with_reducible refine split_f ?_ ?_); (· walk_at "sd")) | ((with_reducible refine split_f' ?_ ?_); (· walk_at "sd")))
/-- all that is seen in a look -/
local macro_rules | `(tactic| walk_at "v") => `(tactic| (rw [sealAll_mk (by (simp only [List.set_cons_zero, List.set_cons_succ, List.map_cons, List.map_nil, sealS_none, sealS_dat, sealS_scr, sealS_own, List.getElem?_cons_zero, List.getElem?_cons_succ, sealC_lst]; rfl)) (by (simp only [List.set_cons_zero, List.set_cons_succ, List.map_cons, List.map_nil]; rfl))]))
namespace Sp
end Sp
end Lw

set_option maxHeartbeats 4000000
namespace Lw
open PySem Fu
local macro_rules | `(tactic| walk_at "e1") => `(tactic| first
  | with_reducible refine eo_seq ?_ | (with_reducible refine then_nx' ?_; refine ⟨?_, ?_, ?_⟩; rotate_left; · (try dsimp only [List.set, List.length_cons, List.length_nil, List.cons_append, List.nil_append, Nat.zero_add, Nat.reduceAdd]); exact rfl) | with_reducible refine then_rt ?_ | with_reducible refine eo_if ?_ | with_reducible refine eo_ret ?_ | with_reducible refine eo_set ?_ | with_reducible refine eo_asg ?_ | with_reducible refine eo_drop ?_ | with_reducible refine eo_nx ?_ | with_reducible refine eo_par ?_ | with_reducible refine eo_own ?_ | with_reducible refine eo_retN ?_ | with_reducible refine eo_for ?_ | with_reducible refine eo_retO ?_
  | with_reducible refine ev_c ?_ | (with_reducible refine ev_var ?_; refine ⟨_, rfl, ?_⟩) | with_reducible refine ev_bin ?_ | with_reducible refine ev_un ?_ | with_reducible refine ev_nil ?_ | with_reducible refine ev_cons ?_
  | with_reducible refine ev_tup ?_ | with_reducible refine ev_lst ?_ | with_reducible refine ev_call ?_ | with_reducible refine ev_callF ?_ | with_reducible refine ev_isi ?_ | with_reducible refine ev_isi2 ?_ | with_reducible refine ev_andV ?_ | with_reducible refine ev_orV ?_ | with_reducible refine ev_notV ?_
  | with_reducible refine ev_B ?_ | with_reducible refine ev_and ?_ | with_reducible refine ev_or ?_ | with_reducible refine ev_not ?_ | with_reducible refine ev_yes ?_ | with_reducible refine ev_if ?_ | with_reducible refine ev_no ?_ | with_reducible refine ev_so ?_ | with_reducible refine ev_sl ?_ | with_reducible refine ev_items ?_
  | (with_reducible refine ev_ixO ?_; refine ⟨_, _, rfl, rfl, ?_⟩) | (with_reducible refine ev_varO ?_; refine ⟨_, _, rfl, rfl, ?_⟩) | (with_reducible refine ev_lenO ?_; refine ⟨_, _, rfl, rfl, ?_⟩) | (with_reducible refine ev_scrSl ?_; refine ⟨_, rfl, ?_⟩) | (with_reducible refine ev_scrLen ?_; refine ⟨_, rfl, ?_⟩) | (with_reducible refine ev_callScr ?_; refine ⟨_, rfl, ?_⟩) | (with_reducible refine ev_OL ?_; refine ⟨_, _, rfl, rfl, ?_⟩) | with_reducible refine ev_OR ?_ | with_reducible refine ev_rep ?_ | with_reducible refine ev_listRng1 ?_ | with_reducible refine eo_setO ?_
  | with_reducible refine es_name ?_ | with_reducible refine es_tup2 ?_ | with_reducible refine es_tup3 ?_
  | with_reducible refine ed_addI ?_ | with_reducible refine ed_subI ?_ | with_reducible refine ed_cmp ?_ | with_reducible refine ed_eqI ?_ | with_reducible refine ed_neI ?_ | with_reducible refine ed_slT ?_ | with_reducible refine ed_slL ?_ | with_reducible refine ed_lenT ?_ | with_reducible refine ed_lenL ?_ | with_reducible refine ed_lenS ?_ | with_reducible refine ed_inS ?_ | with_reducible refine ed_itT ?_ | with_reducible refine ed_itL ?_ | with_reducible refine ed_tupL ?_ | with_reducible refine ed_tupT ?_ | with_reducible refine ed_listL ?_ | with_reducible refine ed_listT ?_ | with_reducible refine ed_neg ?_ | with_reducible refine ed_max ?_ | with_reducible refine ed_min ?_ | with_reducible refine ed_intB ?_
  | with_reducible refine ev_rng1 ?_ | with_reducible refine ev_rng2 ?_)
local macro_rules | `(tactic| walk_at "sd") => `(tactic| first | rfl | assumption | (simp only [decide_eq_true_eq, decide_eq_false_iff_not, Bool.not_eq_true', Bool.not_eq_false', Bool.and_eq_true, Bool.or_eq_true, List.length_map, List.length_cons, List.length_nil, List.length_append, List.length_range] at *; omega))
local macro_rules | `(tactic| walk_at "e2") => `(tactic| first
  | walk_at "e1" | with_reducible refine ⟨_, rfl, ?_⟩ | with_reducible refine ⟨_, _, rfl, ?_⟩
  | with_reducible refine And.intro (Eq.refl (List.length _)) ?_ | with_reducible refine And.intro (Nat.le_of_ble_eq_true (n := List.length _) rfl) ?_
  | with_reducible refine And.intro (Eq.refl (_ : Sx)) (?_ : Ed _ _)
  | ((with_reducible refine And.intro ?_ (And.intro ?_ (?_ : Ev _ _))); (· rfl); (· rfl))
  | ((with_reducible refine ed_ixT ?_ ?_ ?_); (· decide); (· rfl)) | ((with_reducible refine ed_ixL ?_ ?_ ?_); (· decide); (· rfl)) | ((with_reducible refine ed_at ?_ ?_ ?_); (· decide); (· rfl))
  | ((with_reducible refine ed_modI ?_ ?_); (· first | decide | omega))
  | with_reducible exact gives_nx | ((with_reducible refine gives_rt ?_); (· rfl)) | ((with_reducible refine And.intro ?_ ?_); (· exact rfl); (· with_reducible exact Eq.refl (_ : Sx))))
local macro_rules | `(tactic| walk_at "e") => `(tactic| repeat walk_at "e2")
/-- begin a def's spec -/
local macro_rules | `(tactic| walk_at "i") => `(tactic| simp only [initS, List.map_cons, List.map_nil, List.length_cons, List.length_nil, Nat.reduceAdd, Nat.reduceSub, List.replicate, List.cons_append, List.nil_append])
/-- a known truth decides -/
local macro_rules | `(tactic| walk_at "t") => `(tactic| first | ((with_reducible refine split_t ?_ ?_); (· walk_at "sd")) | ((with_reducible refine split_t' ?_ ?_); (· walk_at "sd")))
local macro_rules | `(tactic| walk_at "f") => `(tactic| first | ((with_reducible refine split_f ?_ ?_); (· walk_at "sd")) | ((with_reducible refine split_f' ?_ ?_); (· walk_at "sd")))
/-- all that is seen in a look -/
local macro_rules | `(tactic| walk_at "v") => `(tactic| (rw [sealAll_mk (by (simp only [List.set_cons_zero, List.set_cons_succ, List.map_cons, List.map_nil, sealS_none, sealS_dat, sealS_scr, sealS_own, List.getElem?_cons_zero, List.getElem?_cons_succ, sealC_lst]; rfl)) (by (simp only [List.set_cons_zero, List.set_cons_succ, List.map_cons, List.map_nil]; rfl))]))
theorem ends_small {ls : List Ln} {p : Int} {es : List (Int × Int)} (hk : WbOk p ls) (h : ∀ e ∈ es, EndOk ls.length e) : ∀ e ∈ es, e.1.natAbs < 10 ^ 12 ∧ e.2.natAbs < 10 ^ 12 := fun e he => by
  obtain ⟨a, b, c, d⟩ := h e he
  have := hk.len
  omega
namespace Sp
end Sp
end Lw

set_option maxHeartbeats 4000000
namespace Lw
open PySem Fu
local macro_rules | `(tactic| walk_at "e1") => `(tactic| first
  | with_reducible refine eo_seq ?_ | (with_reducible refine then_nx' ?_; refine ⟨?_, ?_, ?_⟩; rotate_left; · (try dsimp only [List.set, List.length_cons, List.length_nil, List.cons_append, List.nil_append, Nat.zero_add, Nat.reduceAdd]); exact rfl) | with_reducible refine then_rt ?_ | with_reducible refine eo_if ?_ | with_reducible refine eo_ret ?_ | with_reducible refine eo_set ?_ | with_reducible refine eo_asg ?_ | with_reducible refine eo_drop ?_ | with_reducible refine eo_nx ?_ | with_reducible refine eo_par ?_ | with_reducible refine eo_own ?_ | with_reducible refine eo_retN ?_ | with_reducible refine eo_for ?_ | with_reducible refine eo_retO ?_
  | with_reducible refine ev_c ?_ | (with_reducible refine ev_var ?_; refine ⟨_, rfl, ?_⟩) | with_reducible refine ev_bin ?_ | with_reducible refine ev_un ?_ | with_reducible refine ev_nil ?_ | with_reducible refine ev_cons ?_
  | with_reducible refine ev_tup ?_ | with_reducible refine ev_lst ?_ | with_reducible refine ev_call ?_ | with_reducible refine ev_callF ?_ | with_reducible refine ev_isi ?_ | with_reducible refine ev_isi2 ?_ | with_reducible refine ev_andV ?_ | with_reducible refine ev_orV ?_ | with_reducible refine ev_notV ?_
  | with_reducible refine ev_B ?_ | with_reducible refine ev_and ?_ | with_reducible refine ev_or ?_ | with_reducible refine ev_not ?_ | with_reducible refine ev_yes ?_ | with_reducible refine ev_if ?_ | with_reducible refine ev_no ?_ | with_reducible refine ev_so ?_ | with_reducible refine ev_sl ?_ | with_reducible refine ev_items ?_
  | (with_reducible refine ev_ixO ?_; refine ⟨_, _, rfl, rfl, ?_⟩) | (with_reducible refine ev_varO ?_; refine ⟨_, _, rfl, rfl, ?_⟩) | (with_reducible refine ev_lenO ?_; refine ⟨_, _, rfl, rfl, ?_⟩) | (with_reducible refine ev_scrSl ?_; refine ⟨_, rfl, ?_⟩) | (with_reducible refine ev_scrLen ?_; refine ⟨_, rfl, ?_⟩) | (with_reducible refine ev_callScr ?_; refine ⟨_, rfl, ?_⟩) | (with_reducible refine ev_OL ?_; refine ⟨_, _, rfl, rfl, ?_⟩) | with_reducible refine ev_OR ?_ | with_reducible refine ev_rep ?_ | with_reducible refine ev_listRng1 ?_ | with_reducible refine eo_setO ?_
  | with_reducible refine es_name ?_ | with_reducible refine es_tup2 ?_ | with_reducible refine es_tup3 ?_
  | with_reducible refine ed_addI ?_ | with_reducible refine ed_subI ?_ | with_reducible refine ed_cmp ?_ | with_reducible refine ed_eqI ?_ | with_reducible refine ed_neI ?_ | with_reducible refine ed_slT ?_ | with_reducible refine ed_slL ?_ | with_reducible refine ed_lenT ?_ | with_reducible refine ed_lenL ?_ | with_reducible refine ed_lenS ?_ | with_reducible refine ed_inS ?_ | with_reducible refine ed_itT ?_ | with_reducible refine ed_itL ?_ | with_reducible refine ed_tupL ?_ | with_reducible refine ed_tupT ?_ | with_reducible refine ed_listL ?_ | with_reducible refine ed_listT ?_ | with_reducible refine ed_neg ?_ | with_reducible refine ed_max ?_ | with_reducible refine ed_min ?_ | with_reducible refine ed_intB ?_
  | with_reducible refine ev_rng1 ?_ | with_reducible refine ev_rng2 ?_)
local macro_rules | `(tactic| walk_at "sd") => `(tactic| first | rfl | assumption | (simp only [decide_eq_true_eq, decide_eq_false_iff_not, Bool.not_eq_true', Bool.not_eq_false', Bool.and_eq_true, Bool.or_eq_true, List.length_map, List.length_cons, List.length_nil, List.length_append, List.length_range] at *; omega))
local macro_rules | `(tactic| walk_at "e2") => `(tactic| first
  | walk_at "e1" | with_reducible refine ⟨_, rfl, ?_⟩ | with_reducible refine ⟨_, _, rfl, ?_⟩
  | with_reducible refine And.intro (Eq.refl (List.length _)) ?_ | with_reducible refine And.intro (Nat.le_of_ble_eq_true (n := List.length _) rfl) ?_
  | with_reducible refine And.intro (Eq.refl (_ : Sx)) (?_ : Ed _ _)
  | ((with_reducible refine And.intro ?_ (And.intro ?_ (?_ : Ev _ _))); (· rfl); (· rfl))
  | ((with_reducible refine ed_ixT ?_ ?_ ?_); (· decide); (· rfl)) | ((with_reducible refine ed_ixL ?_ ?_ ?_); (· decide); (· rfl)) | ((with_reducible refine ed_at ?_ ?_ ?_); (· decide); (· rfl))
  | ((with_reducible refine ed_modI ?_ ?_); (· first | decide | omega))
  | with_reducible exact gives_nx | ((with_reducible refine gives_rt ?_); (· rfl)) | ((with_reducible refine And.intro ?_ ?_); (· exact rfl); (· with_reducible exact Eq.refl (_ : Sx))))
local macro_rules | `(tactic| walk_at "e") => `(tactic| repeat walk_at "e2")
/-- begin a def's spec -/
local macro_rules | `(tactic| walk_at "i") => `(tactic| simp only [initS, List.map_cons, List.map_nil, List.length_cons, List.length_nil, Nat.reduceAdd, Nat.reduceSub, List.replicate, List.cons_append, List.nil_append])
/-- a known truth decides -/
local macro_rules | `(tactic| walk_at "t") => `(tactic| first | ((with_reducible refine split_t ?_ ?_); (· walk_at "sd")) | ((with_reducible refine split_t' ?_ ?_); (· walk_at "sd")))
local macro_rules | `(tactic| walk_at "f") => `(tactic| first | ((with_reducible refine split_f ?_ ?_); (· walk_at "sd")) | ((with_reducible refine split_f' ?_ ?_); (· walk_at "sd")))
/-- all that is seen in a look -/
local macro_rules | `(tactic| walk_at "v") => `(tactic| (rw [sealAll_mk (by (simp only [List.set_cons_zero, List.set_cons_succ, List.map_cons, List.map_nil, sealS_none, sealS_dat, sealS_scr, sealS_own, List.getElem?_cons_zero, List.getElem?_cons_succ, sealC_lst]; rfl)) (by (simp only [List.set_cons_zero, List.set_cons_succ, List.map_cons, List.map_nil]; rfl))]))
namespace Bg
/-! ### the bag -/
structure Bag (b : Nat) (cs : List D) : Prop where
  ex : ∃ (ns : List Int) (pos : Nat) (rest cnt total : Int), cs = [.list (ns.map .int), .int pos, .int rest, .int cnt, .int total] ∧ ns.length ≤ 63 ∧ pos ≤ ns.length ∧ 0 ≤ rest ∧ 0 ≤ cnt ∧ cnt + b ≤ 4294967296 ∧ 0 ≤ total ∧ total < 2305843009213693951
theorem Bag.mono {a b : Nat} {cs : List D} (h : Bag a cs) (l : b ≤ a) : Bag b cs := by
  obtain ⟨f, s, n, t, u, h1, h2, h3, h4, h5, h6, h7⟩ := h
  exact ⟨f, s, n, t, u, h1, h2, h3, h4, h5, by omega, h7⟩
end Bg
end Lw

set_option maxHeartbeats 4000000
namespace Lw
open PySem Fu
local macro_rules | `(tactic| walk_at "e1") => `(tactic| first
  | with_reducible refine eo_seq ?_ | (with_reducible refine then_nx' ?_; refine ⟨?_, ?_, ?_⟩; rotate_left; · (try dsimp only [List.set, List.length_cons, List.length_nil, List.cons_append, List.nil_append, Nat.zero_add, Nat.reduceAdd]); exact rfl) | with_reducible refine then_rt ?_ | with_reducible refine eo_if ?_ | with_reducible refine eo_ret ?_ | with_reducible refine eo_set ?_ | with_reducible refine eo_asg ?_ | with_reducible refine eo_drop ?_ | with_reducible refine eo_nx ?_ | with_reducible refine eo_par ?_ | with_reducible refine eo_own ?_ | with_reducible refine eo_retN ?_ | with_reducible refine eo_for ?_ | with_reducible refine eo_retO ?_
  | with_reducible refine ev_c ?_ | (with_reducible refine ev_var ?_; refine ⟨_, rfl, ?_⟩) | with_reducible refine ev_bin ?_ | with_reducible refine ev_un ?_ | with_reducible refine ev_nil ?_ | with_reducible refine ev_cons ?_
  | with_reducible refine ev_tup ?_ | with_reducible refine ev_lst ?_ | with_reducible refine ev_call ?_ | with_reducible refine ev_callF ?_ | with_reducible refine ev_isi ?_ | with_reducible refine ev_isi2 ?_ | with_reducible refine ev_andV ?_ | with_reducible refine ev_orV ?_ | with_reducible refine ev_notV ?_
  | with_reducible refine ev_B ?_ | with_reducible refine ev_and ?_ | with_reducible refine ev_or ?_ | with_reducible refine ev_not ?_ | with_reducible refine ev_yes ?_ | with_reducible refine ev_if ?_ | with_reducible refine ev_no ?_ | with_reducible refine ev_so ?_ | with_reducible refine ev_sl ?_ | with_reducible refine ev_items ?_
  | (with_reducible refine ev_ixO ?_; refine ⟨_, _, rfl, rfl, ?_⟩) | (with_reducible refine ev_varO ?_; refine ⟨_, _, rfl, rfl, ?_⟩) | (with_reducible refine ev_lenO ?_; refine ⟨_, _, rfl, rfl, ?_⟩) | (with_reducible refine ev_scrSl ?_; refine ⟨_, rfl, ?_⟩) | (with_reducible refine ev_scrLen ?_; refine ⟨_, rfl, ?_⟩) | (with_reducible refine ev_callScr ?_; refine ⟨_, rfl, ?_⟩) | (with_reducible refine ev_OL ?_; refine ⟨_, _, rfl, rfl, ?_⟩) | with_reducible refine ev_OR ?_ | with_reducible refine ev_rep ?_ | with_reducible refine ev_listRng1 ?_ | with_reducible refine eo_setO ?_
  | with_reducible refine es_name ?_ | with_reducible refine es_tup2 ?_ | with_reducible refine es_tup3 ?_
  | with_reducible refine ed_addI ?_ | with_reducible refine ed_subI ?_ | with_reducible refine ed_cmp ?_ | with_reducible refine ed_eqI ?_ | with_reducible refine ed_neI ?_ | with_reducible refine ed_slT ?_ | with_reducible refine ed_slL ?_ | with_reducible refine ed_lenT ?_ | with_reducible refine ed_lenL ?_ | with_reducible refine ed_lenS ?_ | with_reducible refine ed_inS ?_ | with_reducible refine ed_itT ?_ | with_reducible refine ed_itL ?_ | with_reducible refine ed_tupL ?_ | with_reducible refine ed_tupT ?_ | with_reducible refine ed_listL ?_ | with_reducible refine ed_listT ?_ | with_reducible refine ed_neg ?_ | with_reducible refine ed_max ?_ | with_reducible refine ed_min ?_ | with_reducible refine ed_intB ?_
  | with_reducible refine ev_rng1 ?_ | with_reducible refine ev_rng2 ?_)
local macro_rules | `(tactic| walk_at "sd") => `(tactic| first | rfl | assumption | (simp only [decide_eq_true_eq, decide_eq_false_iff_not, Bool.not_eq_true', Bool.not_eq_false', Bool.and_eq_true, Bool.or_eq_true, List.length_map, List.length_cons, List.length_nil, List.length_append, List.length_range] at *; omega))
local macro_rules | `(tactic| walk_at "e2") => `(tactic| first
  | walk_at "e1" | with_reducible refine ⟨_, rfl, ?_⟩ | with_reducible refine ⟨_, _, rfl, ?_⟩
  | with_reducible refine And.intro (Eq.refl (List.length _)) ?_ | with_reducible refine And.intro (Nat.le_of_ble_eq_true (n := List.length _) rfl) ?_
  | with_reducible refine And.intro (Eq.refl (_ : Sx)) (?_ : Ed _ _)
  | ((with_reducible refine And.intro ?_ (And.intro ?_ (?_ : Ev _ _))); (· rfl); (· rfl))
  | ((with_reducible refine ed_ixT ?_ ?_ ?_); (· decide); (· rfl)) | ((with_reducible refine ed_ixL ?_ ?_ ?_); (· decide); (· rfl)) | ((with_reducible refine ed_at ?_ ?_ ?_); (· decide); (· rfl))
  | ((with_reducible refine ed_modI ?_ ?_); (· first | decide | omega))
  | with_reducible exact gives_nx | ((with_reducible refine gives_rt ?_); (· rfl)) | ((with_reducible refine And.intro ?_ ?_); (· exact rfl); (· with_reducible exact Eq.refl (_ : Sx))))
local macro_rules | `(tactic| walk_at "e") => `(tactic| repeat walk_at "e2")
/-- begin a def's spec -/
local macro_rules | `(tactic| walk_at "i") => `(tactic| simp only [initS, List.map_cons, List.map_nil, List.length_cons, List.length_nil, Nat.reduceAdd, Nat.reduceSub, List.replicate, List.cons_append, List.nil_append])
/-- a known truth decides -/
local macro_rules | `(tactic| walk_at "t") => `(tactic| first | ((with_reducible refine split_t ?_ ?_); (· walk_at "sd")) | ((with_reducible refine split_t' ?_ ?_); (· walk_at "sd")))
local macro_rules | `(tactic| walk_at "f") => `(tactic| first | ((with_reducible refine split_f ?_ ?_); (· walk_at "sd")) | ((with_reducible refine split_f' ?_ ?_); (· walk_at "sd")))
/-- all that is seen in a look -/
local macro_rules | `(tactic| walk_at "v") => `(tactic| (rw [sealAll_mk (by (simp only [List.set_cons_zero, List.set_cons_succ, List.map_cons, List.map_nil, sealS_none, sealS_dat, sealS_scr, sealS_own, List.getElem?_cons_zero, List.getElem?_cons_succ, sealC_lst]; rfl)) (by (simp only [List.set_cons_zero, List.set_cons_succ, List.map_cons, List.map_nil]; rfl))]))
namespace Bg
end Bg
end Lw

set_option maxHeartbeats 4000000
namespace Lw
open PySem Fu
local macro_rules | `(tactic| walk_at "e1") => `(tactic| first
  | with_reducible refine eo_seq ?_ | (with_reducible refine then_nx' ?_; refine ⟨?_, ?_, ?_⟩; rotate_left; · (try dsimp only [List.set, List.length_cons, List.length_nil, List.cons_append, List.nil_append, Nat.zero_add, Nat.reduceAdd]); exact rfl) | with_reducible refine then_rt ?_ | with_reducible refine eo_if ?_ | with_reducible refine eo_ret ?_ | with_reducible refine eo_set ?_ | with_reducible refine eo_asg ?_ | with_reducible refine eo_drop ?_ | with_reducible refine eo_nx ?_ | with_reducible refine eo_par ?_ | with_reducible refine eo_own ?_ | with_reducible refine eo_retN ?_ | with_reducible refine eo_for ?_ | with_reducible refine eo_retO ?_
  | with_reducible refine ev_c ?_ | (with_reducible refine ev_var ?_; refine ⟨_, rfl, ?_⟩) | with_reducible refine ev_bin ?_ | with_reducible refine ev_un ?_ | with_reducible refine ev_nil ?_ | with_reducible refine ev_cons ?_
  | with_reducible refine ev_tup ?_ | with_reducible refine ev_lst ?_ | with_reducible refine ev_call ?_ | with_reducible refine ev_callF ?_ | with_reducible refine ev_isi ?_ | with_reducible refine ev_isi2 ?_ | with_reducible refine ev_andV ?_ | with_reducible refine ev_orV ?_ | with_reducible refine ev_notV ?_
  | with_reducible refine ev_B ?_ | with_reducible refine ev_and ?_ | with_reducible refine ev_or ?_ | with_reducible refine ev_not ?_ | with_reducible refine ev_yes ?_ | with_reducible refine ev_if ?_ | with_reducible refine ev_no ?_ | with_reducible refine ev_so ?_ | with_reducible refine ev_sl ?_ | with_reducible refine ev_items ?_
  | (with_reducible refine ev_ixO ?_; refine ⟨_, _, rfl, rfl, ?_⟩) | (with_reducible refine ev_varO ?_; refine ⟨_, _, rfl, rfl, ?_⟩) | (with_reducible refine ev_lenO ?_; refine ⟨_, _, rfl, rfl, ?_⟩) | (with_reducible refine ev_scrSl ?_; refine ⟨_, rfl, ?_⟩) | (with_reducible refine ev_scrLen ?_; refine ⟨_, rfl, ?_⟩) | (with_reducible refine ev_callScr ?_; refine ⟨_, rfl, ?_⟩) | (with_reducible refine ev_OL ?_; refine ⟨_, _, rfl, rfl, ?_⟩) | with_reducible refine ev_OR ?_ | with_reducible refine ev_rep ?_ | with_reducible refine ev_listRng1 ?_ | with_reducible refine eo_setO ?_
  | with_reducible refine es_name ?_ | with_reducible refine es_tup2 ?_ | with_reducible refine es_tup3 ?_
  | with_reducible refine ed_addI ?_ | with_reducible refine ed_subI ?_ | with_reducible refine ed_cmp ?_ | with_reducible refine ed_eqI ?_ | with_reducible refine ed_neI ?_ | with_reducible refine ed_slT ?_ | with_reducible refine ed_slL ?_ | with_reducible refine ed_lenT ?_ | with_reducible refine ed_lenL ?_ | with_reducible refine ed_lenS ?_ | with_reducible refine ed_inS ?_ | with_reducible refine ed_itT ?_ | with_reducible refine ed_itL ?_ | with_reducible refine ed_tupL ?_ | with_reducible refine ed_tupT ?_ | with_reducible refine ed_listL ?_ | with_reducible refine ed_listT ?_ | with_reducible refine ed_neg ?_ | with_reducible refine ed_max ?_ | with_reducible refine ed_min ?_ | with_reducible refine ed_intB ?_
  | with_reducible refine ev_rng1 ?_ | with_reducible refine ev_rng2 ?_)
local macro_rules | `(tactic| walk_at "sd") => `(tactic| first | rfl | assumption | (simp only [decide_eq_true_eq, decide_eq_false_iff_not, Bool.not_eq_true', Bool.not_eq_false', Bool.and_eq_true, Bool.or_eq_true, List.length_map, List.length_cons, List.length_nil, List.length_append, List.length_range] at *; omega))
local macro_rules | `(tactic| walk_at "e2") => `(tactic| first
  | walk_at "e1" | with_reducible refine ⟨_, rfl, ?_⟩ | with_reducible refine ⟨_, _, rfl, ?_⟩
  | with_reducible refine And.intro (Eq.refl (List.length _)) ?_ | with_reducible refine And.intro (Nat.le_of_ble_eq_true (n := List.length _) rfl) ?_
  | with_reducible refine And.intro (Eq.refl (_ : Sx)) (?_ : Ed _ _)
  | ((with_reducible refine And.intro ?_ (And.intro ?_ (?_ : Ev _ _))); (· rfl); (· rfl))
  | ((with_reducible refine ed_ixT ?_ ?_ ?_); (· decide); (· rfl)) | ((with_reducible refine ed_ixL ?_ ?_ ?_); (· decide); (· rfl)) | ((with_reducible refine ed_at ?_ ?_ ?_); (· decide); (· rfl))
  | ((with_reducible refine ed_modI ?_ ?_); (· first | decide | omega))
  | with_reducible exact gives_nx | ((with_reducible refine gives_rt ?_); (· rfl)) | ((with_reducible refine And.intro ?_ ?_); (· exact rfl); (· with_reducible exact Eq.refl (_ : Sx))))
local macro_rules | `(tactic| walk_at "e") => `(tactic| repeat walk_at "e2")
/-- begin a def's spec -/
local macro_rules | `(tactic| walk_at "i") => `(tactic| simp only [initS, List.map_cons, List.map_nil, List.length_cons, List.length_nil, Nat.reduceAdd, Nat.reduceSub, List.replicate, List.cons_append, List.nil_append])
/-- a known truth decides -/
local macro_rules | `(tactic| walk_at "t") => `(tactic| first | ((with_reducible refine split_t ?_ ?_); (· walk_at "sd")) | ((with_reducible refine split_t' ?_ ?_); (· walk_at "sd")))
local macro_rules | `(tactic| walk_at "f") => `(tactic| first | ((with_reducible refine split_f ?_ ?_); (· walk_at "sd")) | ((with_reducible refine split_f' ?_ ?_); (· walk_at "sd")))
/-- all that is seen in a look -/
local macro_rules | `(tactic| walk_at "v") => `(tactic| (rw [sealAll_mk (by (simp only [List.set_cons_zero, List.set_cons_succ, List.map_cons, List.map_nil, sealS_none, sealS_dat, sealS_scr, sealS_own, List.getElem?_cons_zero, List.getElem?_cons_succ, sealC_lst]; rfl)) (by (simp only [List.set_cons_zero, List.set_cons_succ, List.map_cons, List.map_nil]; rfl))]))
namespace Bg
open Sp
/-! ### a walk's lines, plainly -/
def lnAt (sp : List Int) (sg : List Nat) (i : Nat) (s : Int) : Ln := if s = 0 then (sp.getD i 0, sp.getD (i + 1) 0, sg.getD i 0) else (sp.getD (i + 1) 0, sp.getD i 0, sg.getD i 0)
structure Wk (n k : Nat) (sp : List Int) (od sg : List Nat) (qs : List (Option Ln)) (es : List (Int × Int)) : Prop where
  qlen : qs.length = n
  elen : es.length = k
  glen : sg.length = k
  at' : ∀ i, i < k → ∃ m s, od[i]? = some m ∧ (s = 0 ∨ s = 1) ∧ es[i]? = some ((m : Int), s) ∧ qs[m]? = some (some (lnAt sp sg i s))
theorem getD_add {α : Type} {xs : List α} {x d : α} {i : Nat} (h : i < xs.length) : (xs ++ [x]).getD i d = xs.getD i d := by
  rw [List.getD_eq_getElem?_getD, List.getD_eq_getElem?_getD, List.getElem?_append_left h]
theorem Wk.zero (n : Nat) (sp : List Int) (od : List Nat) : Wk n 0 sp od [] (List.replicate n none) [] := ⟨by simp, rfl, rfl, fun i h => absurd h (Nat.not_lt_zero _)⟩
theorem Wk.step {n k m : Nat} {sp : List Int} {od sg : List Nat} {qs : List (Option Ln)} {es : List (Int × Int)} {s : Int} {c : Nat} (h : Wk n k sp od sg qs es) (hnd : od.Nodup) (hm : od[k]? = some m) (hmn : m < n) (hs : s = 0 ∨ s = 1) :
    Wk n (k + 1) sp od (sg ++ [c]) (qs.set m (some (lnAt sp (sg ++ [c]) k s))) (es ++ [((m : Int), s)]) := by
  have hlt : m < qs.length := by rw [h.qlen]; exact hmn
  refine ⟨by simp [h.qlen], by simp [h.elen], by simp [h.glen], fun i hi => ?_⟩
  rcases Nat.lt_succ_iff_lt_or_eq.mp hi with hi | rfl
  · obtain ⟨m2, s2, h1, h2, h3, h4⟩ := h.at' i hi
    refine ⟨m2, s2, h1, h2, by rw [List.getElem?_append_left (by rw [h.elen]; exact hi)]; exact h3, ?_⟩
    have hne : m ≠ m2 := by
      rintro rfl
      obtain ⟨l1, e1⟩ := List.getElem?_eq_some_iff.mp hm
      obtain ⟨l2, e2⟩ := List.getElem?_eq_some_iff.mp h1
      have := (List.getElem_inj hnd).mp (e1.trans e2.symm)
      omega
    rw [List.getElem?_set_ne hne, h4]
    unfold lnAt
    rw [getD_add (by rw [h.glen]; exact hi)]
  · exact ⟨m, s, hm, hs, by rw [List.getElem?_append_right (by rw [h.elen]; exact Nat.le_refl _), h.elen, Nat.sub_self]; rfl, by rw [List.getElem?_set_self hlt]⟩
/-- a walk's web and ride -/
structure Walked (n : Nat) (sp : List Int) (od sg : List Nat) (ls : List Ln) (es : List (Int × Int)) : Prop where
  llen : ls.length = n
  elen : es.length = n
  glen : sg.length = n
  nd : od.Nodup
  at' : ∀ i, i < n → ∃ m s, od[i]? = some m ∧ (s = 0 ∨ s = 1) ∧ es[i]? = some ((m : Int), s) ∧ ls[m]? = some (lnAt sp sg i s)
theorem Walked.at {n : Nat} {sp : List Int} {od sg : List Nat} {ls : List Ln} {es : List (Int × Int)} (h : Walked n sp od sg ls es) {i : Nat} (hi : i < n) :
    ∃ e, es[i]? = some e ∧ EndOk ls.length e ∧ plc ls e = sp.getD i 0 ∧ plc ls (far e) = sp.getD (i + 1) 0 ∧ cmpy ls e = sg.getD i 0 := by
  obtain ⟨m, s, _, hs, h1, h2⟩ := h.at' i hi
  have hm := (List.getElem?_eq_some_iff.mp h2).1
  refine ⟨_, h1, ⟨by simp, by simpa using hm, by simp only; omega, by simp only; omega⟩, ?_, ?_, ?_⟩
  · unfold plc
    simp only [Int.toNat_natCast, h2]
    rcases hs with rfl | rfl <;> simp [sideOf, lnAt]
  · unfold plc far
    simp only [Int.toNat_natCast, h2]
    rcases hs with rfl | rfl <;> simp [sideOf, lnAt]
  · unfold cmpy
    simp only [Int.toNat_natCast, h2]
    rcases hs with rfl | rfl <;> simp [lnAt]
/-- companies: neighbours unlike -/
def Adj (sg : List Nat) : Prop := ∀ i a b, sg[i]? = some a → sg[i + 1]? = some b → a ≠ b
theorem Adj.add {sg : List Nat} {c : Nat} (h : Adj sg) (h2 : sg ≠ [] → c ≠ lastN sg) : Adj (sg ++ [c]) := by
  intro i a b ha hb
  by_cases h1 : i + 1 < sg.length
  · rw [List.getElem?_append_left (by omega)] at ha
    rw [List.getElem?_append_left h1] at hb
    exact h i a b ha hb
  · have hi := (List.getElem?_eq_some_iff.mp hb).1
    rw [List.length_append, List.length_singleton] at hi
    have e : i + 1 = sg.length := by omega
    have hne : sg ≠ [] := by intro z; rw [z] at e; simp at e
    rw [List.getElem?_append_left (by omega)] at ha
    rw [e, List.getElem?_append_right (Nat.le_refl _), Nat.sub_self] at hb
    have hbc : c = b := by simpa using hb
    have hla : lastN sg = a := by
      unfold lastN
      rw [List.getLast?_eq_getElem?, show sg.length - 1 = i by omega, ha]; rfl
    subst hbc
    rw [← hla]
    exact fun z => h2 hne z.symm
end Bg
end Lw

set_option maxHeartbeats 4000000
namespace Lw
open PySem Fu
local macro_rules | `(tactic| walk_at "e1") => `(tactic| first
  | with_reducible refine eo_seq ?_ | (with_reducible refine then_nx' ?_; refine ⟨?_, ?_, ?_⟩; rotate_left; · (try dsimp only [List.set, List.length_cons, List.length_nil, List.cons_append, List.nil_append, Nat.zero_add, Nat.reduceAdd]); exact rfl) | with_reducible refine then_rt ?_ | with_reducible refine eo_if ?_ | with_reducible refine eo_ret ?_ | with_reducible refine eo_set ?_ | with_reducible refine eo_asg ?_ | with_reducible refine eo_drop ?_ | with_reducible refine eo_nx ?_ | with_reducible refine eo_par ?_ | with_reducible refine eo_own ?_ | with_reducible refine eo_retN ?_ | with_reducible refine eo_for ?_ | with_reducible refine eo_retO ?_
  | with_reducible refine ev_c ?_ | (with_reducible refine ev_var ?_; refine ⟨_, rfl, ?_⟩) | with_reducible refine ev_bin ?_ | with_reducible refine ev_un ?_ | with_reducible refine ev_nil ?_ | with_reducible refine ev_cons ?_
  | with_reducible refine ev_tup ?_ | with_reducible refine ev_lst ?_ | with_reducible refine ev_call ?_ | with_reducible refine ev_callF ?_ | with_reducible refine ev_isi ?_ | with_reducible refine ev_isi2 ?_ | with_reducible refine ev_andV ?_ | with_reducible refine ev_orV ?_ | with_reducible refine ev_notV ?_
  | with_reducible refine ev_B ?_ | with_reducible refine ev_and ?_ | with_reducible refine ev_or ?_ | with_reducible refine ev_not ?_ | with_reducible refine ev_yes ?_ | with_reducible refine ev_if ?_ | with_reducible refine ev_no ?_ | with_reducible refine ev_so ?_ | with_reducible refine ev_sl ?_ | with_reducible refine ev_items ?_
  | (with_reducible refine ev_ixO ?_; refine ⟨_, _, rfl, rfl, ?_⟩) | (with_reducible refine ev_varO ?_; refine ⟨_, _, rfl, rfl, ?_⟩) | (with_reducible refine ev_lenO ?_; refine ⟨_, _, rfl, rfl, ?_⟩) | (with_reducible refine ev_scrSl ?_; refine ⟨_, rfl, ?_⟩) | (with_reducible refine ev_scrLen ?_; refine ⟨_, rfl, ?_⟩) | (with_reducible refine ev_callScr ?_; refine ⟨_, rfl, ?_⟩) | (with_reducible refine ev_OL ?_; refine ⟨_, _, rfl, rfl, ?_⟩) | with_reducible refine ev_OR ?_ | with_reducible refine ev_rep ?_ | with_reducible refine ev_listRng1 ?_ | with_reducible refine eo_setO ?_
  | with_reducible refine es_name ?_ | with_reducible refine es_tup2 ?_ | with_reducible refine es_tup3 ?_
  | with_reducible refine ed_addI ?_ | with_reducible refine ed_subI ?_ | with_reducible refine ed_cmp ?_ | with_reducible refine ed_eqI ?_ | with_reducible refine ed_neI ?_ | with_reducible refine ed_slT ?_ | with_reducible refine ed_slL ?_ | with_reducible refine ed_lenT ?_ | with_reducible refine ed_lenL ?_ | with_reducible refine ed_lenS ?_ | with_reducible refine ed_inS ?_ | with_reducible refine ed_itT ?_ | with_reducible refine ed_itL ?_ | with_reducible refine ed_tupL ?_ | with_reducible refine ed_tupT ?_ | with_reducible refine ed_listL ?_ | with_reducible refine ed_listT ?_ | with_reducible refine ed_neg ?_ | with_reducible refine ed_max ?_ | with_reducible refine ed_min ?_ | with_reducible refine ed_intB ?_
  | with_reducible refine ev_rng1 ?_ | with_reducible refine ev_rng2 ?_)
local macro_rules | `(tactic| walk_at "sd") => `(tactic| first | rfl | assumption | (simp only [decide_eq_true_eq, decide_eq_false_iff_not, Bool.not_eq_true', Bool.not_eq_false', Bool.and_eq_true, Bool.or_eq_true, List.length_map, List.length_cons, List.length_nil, List.length_append, List.length_range] at *; omega))
local macro_rules | `(tactic| walk_at "e2") => `(tactic| first
  | walk_at "e1" | with_reducible refine ⟨_, rfl, ?_⟩ | with_reducible refine ⟨_, _, rfl, ?_⟩
  | with_reducible refine And.intro (Eq.refl (List.length _)) ?_ | with_reducible refine And.intro (Nat.le_of_ble_eq_true (n := List.length _) rfl) ?_
  | with_reducible refine And.intro (Eq.refl (_ : Sx)) (?_ : Ed _ _)
  | ((with_reducible refine And.intro ?_ (And.intro ?_ (?_ : Ev _ _))); (· rfl); (· rfl))
  | ((with_reducible refine ed_ixT ?_ ?_ ?_); (· decide); (· rfl)) | ((with_reducible refine ed_ixL ?_ ?_ ?_); (· decide); (· rfl)) | ((with_reducible refine ed_at ?_ ?_ ?_); (· decide); (· rfl))
  | ((with_reducible refine ed_modI ?_ ?_); (· first | decide | omega))
  | with_reducible exact gives_nx | ((with_reducible refine gives_rt ?_); (· rfl)) | ((with_reducible refine And.intro ?_ ?_); (· exact rfl); (· with_reducible exact Eq.refl (_ : Sx))))
local macro_rules | `(tactic| walk_at "e") => `(tactic| repeat walk_at "e2")
/-- begin a def's spec -/
local macro_rules | `(tactic| walk_at "i") => `(tactic| simp only [initS, List.map_cons, List.map_nil, List.length_cons, List.length_nil, Nat.reduceAdd, Nat.reduceSub, List.replicate, List.cons_append, List.nil_append])
/-- a known truth decides -/
local macro_rules | `(tactic| walk_at "t") => `(tactic| first | ((with_reducible refine split_t ?_ ?_); (· walk_at "sd")) | ((with_reducible refine split_t' ?_ ?_); (· walk_at "sd")))
local macro_rules | `(tactic| walk_at "f") => `(tactic| first | ((with_reducible refine split_f ?_ ?_); (· walk_at "sd")) | ((with_reducible refine split_f' ?_ ?_); (· walk_at "sd")))
/-- all that is seen in a look -/
local macro_rules | `(tactic| walk_at "v") => `(tactic| (rw [sealAll_mk (by (simp only [List.set_cons_zero, List.set_cons_succ, List.map_cons, List.map_nil, sealS_none, sealS_dat, sealS_scr, sealS_own, List.getElem?_cons_zero, List.getElem?_cons_succ, sealC_lst]; rfl)) (by (simp only [List.set_cons_zero, List.set_cons_succ, List.map_cons, List.map_nil]; rfl))]))
namespace Bg
open Sp
theorem cut_mid {α : Type} {xs : List α} {a b : Int} (ha : 0 ≤ a) (hb : 0 ≤ b) : cutL xs (some a) (some b) = (xs.take b.toNat).drop a.toNat := by
  obtain ⟨i, rfl⟩ : ∃ i : Nat, a = (i : Int) := ⟨a.toNat, by omega⟩
  obtain ⟨j, rfl⟩ : ∃ j : Nat, b = (j : Int) := ⟨b.toNat, by omega⟩
  unfold cutL
  rw [HT.sIx_nat, HT.sIx_nat, Int.toNat_natCast, Int.toNat_natCast, List.drop_take]
  by_cases h1 : i ≤ xs.length
  · rw [Nat.min_eq_left h1]
    by_cases h2 : j ≤ xs.length
    · rw [Nat.min_eq_left h2]
    · rw [Nat.min_eq_right (by omega), List.take_of_length_le (by rw [List.length_drop]; omega), List.take_of_length_le (by rw [List.length_drop]; omega)]
  · rw [List.drop_eq_nil_of_le (by omega), List.drop_eq_nil_of_le (by omega)]
    simp
end Bg
end Lw

set_option maxHeartbeats 4000000
namespace Lw
open PySem Fu
local macro_rules | `(tactic| walk_at "e1") => `(tactic| first
  | with_reducible refine eo_seq ?_ | (with_reducible refine then_nx' ?_; refine ⟨?_, ?_, ?_⟩; rotate_left; · (try dsimp only [List.set, List.length_cons, List.length_nil, List.cons_append, List.nil_append, Nat.zero_add, Nat.reduceAdd]); exact rfl) | with_reducible refine then_rt ?_ | with_reducible refine eo_if ?_ | with_reducible refine eo_ret ?_ | with_reducible refine eo_set ?_ | with_reducible refine eo_asg ?_ | with_reducible refine eo_drop ?_ | with_reducible refine eo_nx ?_ | with_reducible refine eo_par ?_ | with_reducible refine eo_own ?_ | with_reducible refine eo_retN ?_ | with_reducible refine eo_for ?_ | with_reducible refine eo_retO ?_
  | with_reducible refine ev_c ?_ | (with_reducible refine ev_var ?_; refine ⟨_, rfl, ?_⟩) | with_reducible refine ev_bin ?_ | with_reducible refine ev_un ?_ | with_reducible refine ev_nil ?_ | with_reducible refine ev_cons ?_
  | with_reducible refine ev_tup ?_ | with_reducible refine ev_lst ?_ | with_reducible refine ev_call ?_ | with_reducible refine ev_callF ?_ | with_reducible refine ev_isi ?_ | with_reducible refine ev_isi2 ?_ | with_reducible refine ev_andV ?_ | with_reducible refine ev_orV ?_ | with_reducible refine ev_notV ?_
  | with_reducible refine ev_B ?_ | with_reducible refine ev_and ?_ | with_reducible refine ev_or ?_ | with_reducible refine ev_not ?_ | with_reducible refine ev_yes ?_ | with_reducible refine ev_if ?_ | with_reducible refine ev_no ?_ | with_reducible refine ev_so ?_ | with_reducible refine ev_sl ?_ | with_reducible refine ev_items ?_
  | (with_reducible refine ev_ixO ?_; refine ⟨_, _, rfl, rfl, ?_⟩) | (with_reducible refine ev_varO ?_; refine ⟨_, _, rfl, rfl, ?_⟩) | (with_reducible refine ev_lenO ?_; refine ⟨_, _, rfl, rfl, ?_⟩) | (with_reducible refine ev_scrSl ?_; refine ⟨_, rfl, ?_⟩) | (with_reducible refine ev_scrLen ?_; refine ⟨_, rfl, ?_⟩) | (with_reducible refine ev_callScr ?_; refine ⟨_, rfl, ?_⟩) | (with_reducible refine ev_OL ?_; refine ⟨_, _, rfl, rfl, ?_⟩) | with_reducible refine ev_OR ?_ | with_reducible refine ev_rep ?_ | with_reducible refine ev_listRng1 ?_ | with_reducible refine eo_setO ?_
  | with_reducible refine es_name ?_ | with_reducible refine es_tup2 ?_ | with_reducible refine es_tup3 ?_
  | with_reducible refine ed_addI ?_ | with_reducible refine ed_subI ?_ | with_reducible refine ed_cmp ?_ | with_reducible refine ed_eqI ?_ | with_reducible refine ed_neI ?_ | with_reducible refine ed_slT ?_ | with_reducible refine ed_slL ?_ | with_reducible refine ed_lenT ?_ | with_reducible refine ed_lenL ?_ | with_reducible refine ed_lenS ?_ | with_reducible refine ed_inS ?_ | with_reducible refine ed_itT ?_ | with_reducible refine ed_itL ?_ | with_reducible refine ed_tupL ?_ | with_reducible refine ed_tupT ?_ | with_reducible refine ed_listL ?_ | with_reducible refine ed_listT ?_ | with_reducible refine ed_neg ?_ | with_reducible refine ed_max ?_ | with_reducible refine ed_min ?_ | with_reducible refine ed_intB ?_
  | with_reducible refine ev_rng1 ?_ | with_reducible refine ev_rng2 ?_)
local macro_rules | `(tactic| walk_at "sd") => `(tactic| first | rfl | assumption | (simp only [decide_eq_true_eq, decide_eq_false_iff_not, Bool.not_eq_true', Bool.not_eq_false', Bool.and_eq_true, Bool.or_eq_true, List.length_map, List.length_cons, List.length_nil, List.length_append, List.length_range] at *; omega))
local macro_rules | `(tactic| walk_at "e2") => `(tactic| first
  | walk_at "e1" | with_reducible refine ⟨_, rfl, ?_⟩ | with_reducible refine ⟨_, _, rfl, ?_⟩
  | with_reducible refine And.intro (Eq.refl (List.length _)) ?_ | with_reducible refine And.intro (Nat.le_of_ble_eq_true (n := List.length _) rfl) ?_
  | with_reducible refine And.intro (Eq.refl (_ : Sx)) (?_ : Ed _ _)
  | ((with_reducible refine And.intro ?_ (And.intro ?_ (?_ : Ev _ _))); (· rfl); (· rfl))
  | ((with_reducible refine ed_ixT ?_ ?_ ?_); (· decide); (· rfl)) | ((with_reducible refine ed_ixL ?_ ?_ ?_); (· decide); (· rfl)) | ((with_reducible refine ed_at ?_ ?_ ?_); (· decide); (· rfl))
  | ((with_reducible refine ed_modI ?_ ?_); (· first | decide | omega))
  | with_reducible exact gives_nx | ((with_reducible refine gives_rt ?_); (· rfl)) | ((with_reducible refine And.intro ?_ ?_); (· exact rfl); (· with_reducible exact Eq.refl (_ : Sx))))
local macro_rules | `(tactic| walk_at "e") => `(tactic| repeat walk_at "e2")
/-- begin a def's spec -/
local macro_rules | `(tactic| walk_at "i") => `(tactic| simp only [initS, List.map_cons, List.map_nil, List.length_cons, List.length_nil, Nat.reduceAdd, Nat.reduceSub, List.replicate, List.cons_append, List.nil_append])
/-- a known truth decides -/
local macro_rules | `(tactic| walk_at "t") => `(tactic| first | ((with_reducible refine split_t ?_ ?_); (· walk_at "sd")) | ((with_reducible refine split_t' ?_ ?_); (· walk_at "sd")))
local macro_rules | `(tactic| walk_at "f") => `(tactic| first | ((with_reducible refine split_f ?_ ?_); (· walk_at "sd")) | ((with_reducible refine split_f' ?_ ?_); (· walk_at "sd")))
/-- all that is seen in a look -/
local macro_rules | `(tactic| walk_at "v") => `(tactic| (rw [sealAll_mk (by (simp only [List.set_cons_zero, List.set_cons_succ, List.map_cons, List.map_nil, sealS_none, sealS_dat, sealS_scr, sealS_own, List.getElem?_cons_zero, List.getElem?_cons_succ, sealC_lst]; rfl)) (by (simp only [List.set_cons_zero, List.set_cons_succ, List.map_cons, List.map_nil]; rfl))]))
theorem mk_eq {a b : List (Option R)} {c d : List (Option Cell)} (h : a = b) (k : c = d) : (⟨a, c⟩ : Sx) = ⟨b, d⟩ := by rw [h, k]
namespace Bg
open Sp
end Bg
end Lw

set_option maxHeartbeats 4000000
namespace Lw
open PySem Fu
local macro_rules | `(tactic| walk_at "e1") => `(tactic| first
  | with_reducible refine eo_seq ?_ | (with_reducible refine then_nx' ?_; refine ⟨?_, ?_, ?_⟩; rotate_left; · (try dsimp only [List.set, List.length_cons, List.length_nil, List.cons_append, List.nil_append, Nat.zero_add, Nat.reduceAdd]); exact rfl) | with_reducible refine then_rt ?_ | with_reducible refine eo_if ?_ | with_reducible refine eo_ret ?_ | with_reducible refine eo_set ?_ | with_reducible refine eo_asg ?_ | with_reducible refine eo_drop ?_ | with_reducible refine eo_nx ?_ | with_reducible refine eo_par ?_ | with_reducible refine eo_own ?_ | with_reducible refine eo_retN ?_ | with_reducible refine eo_for ?_ | with_reducible refine eo_retO ?_
  | with_reducible refine ev_c ?_ | (with_reducible refine ev_var ?_; refine ⟨_, rfl, ?_⟩) | with_reducible refine ev_bin ?_ | with_reducible refine ev_un ?_ | with_reducible refine ev_nil ?_ | with_reducible refine ev_cons ?_
  | with_reducible refine ev_tup ?_ | with_reducible refine ev_lst ?_ | with_reducible refine ev_call ?_ | with_reducible refine ev_callF ?_ | with_reducible refine ev_isi ?_ | with_reducible refine ev_isi2 ?_ | with_reducible refine ev_andV ?_ | with_reducible refine ev_orV ?_ | with_reducible refine ev_notV ?_
  | with_reducible refine ev_B ?_ | with_reducible refine ev_and ?_ | with_reducible refine ev_or ?_ | with_reducible refine ev_not ?_ | with_reducible refine ev_yes ?_ | with_reducible refine ev_if ?_ | with_reducible refine ev_no ?_ | with_reducible refine ev_so ?_ | with_reducible refine ev_sl ?_ | with_reducible refine ev_items ?_
  | (with_reducible refine ev_ixO ?_; refine ⟨_, _, rfl, rfl, ?_⟩) | (with_reducible refine ev_varO ?_; refine ⟨_, _, rfl, rfl, ?_⟩) | (with_reducible refine ev_lenO ?_; refine ⟨_, _, rfl, rfl, ?_⟩) | (with_reducible refine ev_scrSl ?_; refine ⟨_, rfl, ?_⟩) | (with_reducible refine ev_scrLen ?_; refine ⟨_, rfl, ?_⟩) | (with_reducible refine ev_callScr ?_; refine ⟨_, rfl, ?_⟩) | (with_reducible refine ev_OL ?_; refine ⟨_, _, rfl, rfl, ?_⟩) | with_reducible refine ev_OR ?_ | with_reducible refine ev_rep ?_ | with_reducible refine ev_listRng1 ?_ | with_reducible refine eo_setO ?_
  | with_reducible refine es_name ?_ | with_reducible refine es_tup2 ?_ | with_reducible refine es_tup3 ?_
  | with_reducible refine ed_addI ?_ | with_reducible refine ed_subI ?_ | with_reducible refine ed_cmp ?_ | with_reducible refine ed_eqI ?_ | with_reducible refine ed_neI ?_ | with_reducible refine ed_slT ?_ | with_reducible refine ed_slL ?_ | with_reducible refine ed_lenT ?_ | with_reducible refine ed_lenL ?_ | with_reducible refine ed_lenS ?_ | with_reducible refine ed_inS ?_ | with_reducible refine ed_itT ?_ | with_reducible refine ed_itL ?_ | with_reducible refine ed_tupL ?_ | with_reducible refine ed_tupT ?_ | with_reducible refine ed_listL ?_ | with_reducible refine ed_listT ?_ | with_reducible refine ed_neg ?_ | with_reducible refine ed_max ?_ | with_reducible refine ed_min ?_ | with_reducible refine ed_intB ?_
  | with_reducible refine ev_rng1 ?_ | with_reducible refine ev_rng2 ?_)
local macro_rules | `(tactic| walk_at "sd") => `(tactic| first | rfl | assumption | (simp only [decide_eq_true_eq, decide_eq_false_iff_not, Bool.not_eq_true', Bool.not_eq_false', Bool.and_eq_true, Bool.or_eq_true, List.length_map, List.length_cons, List.length_nil, List.length_append, List.length_range] at *; omega))
local macro_rules | `(tactic| walk_at "e2") => `(tactic| first
  | walk_at "e1" | with_reducible refine ⟨_, rfl, ?_⟩ | with_reducible refine ⟨_, _, rfl, ?_⟩
  | with_reducible refine And.intro (Eq.refl (List.length _)) ?_ | with_reducible refine And.intro (Nat.le_of_ble_eq_true (n := List.length _) rfl) ?_
  | with_reducible refine And.intro (Eq.refl (_ : Sx)) (?_ : Ed _ _)
  | ((with_reducible refine And.intro ?_ (And.intro ?_ (?_ : Ev _ _))); (· rfl); (· rfl))
  | ((with_reducible refine ed_ixT ?_ ?_ ?_); (· decide); (· rfl)) | ((with_reducible refine ed_ixL ?_ ?_ ?_); (· decide); (· rfl)) | ((with_reducible refine ed_at ?_ ?_ ?_); (· decide); (· rfl))
  | ((with_reducible refine ed_modI ?_ ?_); (· first | decide | omega))
  | with_reducible exact gives_nx | ((with_reducible refine gives_rt ?_); (· rfl)) | ((with_reducible refine And.intro ?_ ?_); (· exact rfl); (· with_reducible exact Eq.refl (_ : Sx))))
local macro_rules | `(tactic| walk_at "e") => `(tactic| repeat walk_at "e2")
/-- begin a def's spec -/
local macro_rules | `(tactic| walk_at "i") => `(tactic| simp only [initS, List.map_cons, List.map_nil, List.length_cons, List.length_nil, Nat.reduceAdd, Nat.reduceSub, List.replicate, List.cons_append, List.nil_append])
/-- a known truth decides -/
local macro_rules | `(tactic| walk_at "t") => `(tactic| first | ((with_reducible refine split_t ?_ ?_); (· walk_at "sd")) | ((with_reducible refine split_t' ?_ ?_); (· walk_at "sd")))
local macro_rules | `(tactic| walk_at "f") => `(tactic| first | ((with_reducible refine split_f ?_ ?_); (· walk_at "sd")) | ((with_reducible refine split_f' ?_ ?_); (· walk_at "sd")))
/-- all that is seen in a look -/
local macro_rules | `(tactic| walk_at "v") => `(tactic| (rw [sealAll_mk (by (simp only [List.set_cons_zero, List.set_cons_succ, List.map_cons, List.map_nil, sealS_none, sealS_dat, sealS_scr, sealS_own, List.getElem?_cons_zero, List.getElem?_cons_succ, sealC_lst]; rfl)) (by (simp only [List.set_cons_zero, List.set_cons_succ, List.map_cons, List.map_nil]; rfl))]))
/-! ### rounds handed in, places, the other way about: of any data -/
theorem isEn_tup {d : D} {e : Int × Int} (s : IsEn d e) {Q : D → Prop} (q : Q (en e)) : Ed (dTuple [d]) Q := ed_tupQ s q
theorem x_places_along {w : D} {p : Int} {ls : List Ln} {es : List (Int × Int)} (hw : Web w p ls) (hz : es.length ≤ 1000000) (hn : es ≠ []) (hall : ∀ e ∈ es, EndOk ls.length e) : m_places_along [w, lE es] = some (.list ((along ls es).map .int)) := by
  obtain ⟨l1, l2⟩ := last_mem hn
  unfold m_places_along lE; refine mF_of ?_; walk_at "i"; unfold g_places_along
  walk_at "e"
  refine ev_mapX (xs := es) (enc := en) (g := fun e => .int (plc ls e)) ?_
  walk_at "e"
  refine ⟨rfl, fun e he => ?_, ?_⟩
  · walk_at "e"
    exact Ed.of (x_place_of hw (isEn_en e) (hall e he)) ⟨rfl, rfl⟩
  walk_at "e"
  refine ed_lastQ (sq_l _) (x := en (lastE es)) (by rw [List.getLast?_map, l1]; rfl) ?_
  walk_at "e"
  refine Ed.of (x_far_end (isEn_en _)) ?_
  walk_at "e"
  refine Ed.of (x_place_of hw (isEn_en _) (hall _ l2).far) ?_
  walk_at "e"
  refine ed_addL (by simp; omega) ?_
  rw [gives_rtI]
  unfold along
  rw [List.map_append, List.map_map]; rfl
theorem x_faced_about {es : List (Int × Int)} : m_faced_about [lE es] = some (lE (rv es)) := by
  unfold m_faced_about lE; refine mF_of ?_; walk_at "i"; unfold g_faced_about
  walk_at "e"
  refine ev_mapX (xs := es.reverse) (enc := en) (g := fun e => en (far e)) ?_
  walk_at "e"
  refine ed_rev ?_
  walk_at "e"
  refine ⟨by rw [List.map_reverse], fun e he => ?_, ?_⟩
  · walk_at "e"
    exact Ed.of (x_far_end (isEn_en e)) ⟨rfl, rfl⟩
  · walk_at "e"
    rw [gives_rtI]
    unfold rv
    rw [List.map_map]; rfl
/-! ### turnings -/
def put (t : List Nat) (es : List (Int × Int)) : List (Int × Int) := match t with
  | [i, j] => es.take i ++ rv ((es.take j).drop i) ++ es.drop j
  | [i, j, k, l] => es.take i ++ (es.take l).drop k ++ (es.take k).drop j ++ (es.take j).drop i ++ es.drop l
  | _ => es
/-! ### which turnings may be -/
end Lw

set_option maxHeartbeats 4000000
namespace Lw
open PySem Fu
local macro_rules | `(tactic| walk_at "e1") => `(tactic| first
  | with_reducible refine eo_seq ?_ | (with_reducible refine then_nx' ?_; refine ⟨?_, ?_, ?_⟩; rotate_left; · (try dsimp only [List.set, List.length_cons, List.length_nil, List.cons_append, List.nil_append, Nat.zero_add, Nat.reduceAdd]); exact rfl) | with_reducible refine then_rt ?_ | with_reducible refine eo_if ?_ | with_reducible refine eo_ret ?_ | with_reducible refine eo_set ?_ | with_reducible refine eo_asg ?_ | with_reducible refine eo_drop ?_ | with_reducible refine eo_nx ?_ | with_reducible refine eo_par ?_ | with_reducible refine eo_own ?_ | with_reducible refine eo_retN ?_ | with_reducible refine eo_for ?_ | with_reducible refine eo_retO ?_
  | with_reducible refine ev_c ?_ | (with_reducible refine ev_var ?_; refine ⟨_, rfl, ?_⟩) | with_reducible refine ev_bin ?_ | with_reducible refine ev_un ?_ | with_reducible refine ev_nil ?_ | with_reducible refine ev_cons ?_
  | with_reducible refine ev_tup ?_ | with_reducible refine ev_lst ?_ | with_reducible refine ev_call ?_ | with_reducible refine ev_callF ?_ | with_reducible refine ev_isi ?_ | with_reducible refine ev_isi2 ?_ | with_reducible refine ev_andV ?_ | with_reducible refine ev_orV ?_ | with_reducible refine ev_notV ?_
  | with_reducible refine ev_B ?_ | with_reducible refine ev_and ?_ | with_reducible refine ev_or ?_ | with_reducible refine ev_not ?_ | with_reducible refine ev_yes ?_ | with_reducible refine ev_if ?_ | with_reducible refine ev_no ?_ | with_reducible refine ev_so ?_ | with_reducible refine ev_sl ?_ | with_reducible refine ev_items ?_
  | (with_reducible refine ev_ixO ?_; refine ⟨_, _, rfl, rfl, ?_⟩) | (with_reducible refine ev_varO ?_; refine ⟨_, _, rfl, rfl, ?_⟩) | (with_reducible refine ev_lenO ?_; refine ⟨_, _, rfl, rfl, ?_⟩) | (with_reducible refine ev_scrSl ?_; refine ⟨_, rfl, ?_⟩) | (with_reducible refine ev_scrLen ?_; refine ⟨_, rfl, ?_⟩) | (with_reducible refine ev_callScr ?_; refine ⟨_, rfl, ?_⟩) | (with_reducible refine ev_OL ?_; refine ⟨_, _, rfl, rfl, ?_⟩) | with_reducible refine ev_OR ?_ | with_reducible refine ev_rep ?_ | with_reducible refine ev_listRng1 ?_ | with_reducible refine eo_setO ?_
  | with_reducible refine es_name ?_ | with_reducible refine es_tup2 ?_ | with_reducible refine es_tup3 ?_
  | with_reducible refine ed_addI ?_ | with_reducible refine ed_subI ?_ | with_reducible refine ed_cmp ?_ | with_reducible refine ed_eqI ?_ | with_reducible refine ed_neI ?_ | with_reducible refine ed_slT ?_ | with_reducible refine ed_slL ?_ | with_reducible refine ed_lenT ?_ | with_reducible refine ed_lenL ?_ | with_reducible refine ed_lenS ?_ | with_reducible refine ed_inS ?_ | with_reducible refine ed_itT ?_ | with_reducible refine ed_itL ?_ | with_reducible refine ed_tupL ?_ | with_reducible refine ed_tupT ?_ | with_reducible refine ed_listL ?_ | with_reducible refine ed_listT ?_ | with_reducible refine ed_neg ?_ | with_reducible refine ed_max ?_ | with_reducible refine ed_min ?_ | with_reducible refine ed_intB ?_
  | with_reducible refine ev_rng1 ?_ | with_reducible refine ev_rng2 ?_)
local macro_rules | `(tactic| walk_at "sd") => `(tactic| first | rfl | assumption | (simp only [decide_eq_true_eq, decide_eq_false_iff_not, Bool.not_eq_true', Bool.not_eq_false', Bool.and_eq_true, Bool.or_eq_true, List.length_map, List.length_cons, List.length_nil, List.length_append, List.length_range] at *; omega))
local macro_rules | `(tactic| walk_at "e2") => `(tactic| first
  | walk_at "e1" | with_reducible refine ⟨_, rfl, ?_⟩ | with_reducible refine ⟨_, _, rfl, ?_⟩
  | with_reducible refine And.intro (Eq.refl (List.length _)) ?_ | with_reducible refine And.intro (Nat.le_of_ble_eq_true (n := List.length _) rfl) ?_
  | with_reducible refine And.intro (Eq.refl (_ : Sx)) (?_ : Ed _ _)
  | ((with_reducible refine And.intro ?_ (And.intro ?_ (?_ : Ev _ _))); (· rfl); (· rfl))
  | ((with_reducible refine ed_ixT ?_ ?_ ?_); (· decide); (· rfl)) | ((with_reducible refine ed_ixL ?_ ?_ ?_); (· decide); (· rfl)) | ((with_reducible refine ed_at ?_ ?_ ?_); (· decide); (· rfl))
  | ((with_reducible refine ed_modI ?_ ?_); (· first | decide | omega))
  | with_reducible exact gives_nx | ((with_reducible refine gives_rt ?_); (· rfl)) | ((with_reducible refine And.intro ?_ ?_); (· exact rfl); (· with_reducible exact Eq.refl (_ : Sx))))
local macro_rules | `(tactic| walk_at "e") => `(tactic| repeat walk_at "e2")
/-- begin a def's spec -/
local macro_rules | `(tactic| walk_at "i") => `(tactic| simp only [initS, List.map_cons, List.map_nil, List.length_cons, List.length_nil, Nat.reduceAdd, Nat.reduceSub, List.replicate, List.cons_append, List.nil_append])
/-- a known truth decides -/
local macro_rules | `(tactic| walk_at "t") => `(tactic| first | ((with_reducible refine split_t ?_ ?_); (· walk_at "sd")) | ((with_reducible refine split_t' ?_ ?_); (· walk_at "sd")))
local macro_rules | `(tactic| walk_at "f") => `(tactic| first | ((with_reducible refine split_f ?_ ?_); (· walk_at "sd")) | ((with_reducible refine split_f' ?_ ?_); (· walk_at "sd")))
/-- all that is seen in a look -/
local macro_rules | `(tactic| walk_at "v") => `(tactic| (rw [sealAll_mk (by (simp only [List.set_cons_zero, List.set_cons_succ, List.map_cons, List.map_nil, sealS_none, sealS_dat, sealS_scr, sealS_own, List.getElem?_cons_zero, List.getElem?_cons_succ, sealC_lst]; rfl)) (by (simp only [List.set_cons_zero, List.set_cons_succ, List.map_cons, List.map_nil]; rfl))]))
/-! ### the five deeds -/
end Lw

set_option maxHeartbeats 4000000
namespace Lw
open PySem Fu
local macro_rules | `(tactic| walk_at "e1") => `(tactic| first
  | with_reducible refine eo_seq ?_ | (with_reducible refine then_nx' ?_; refine ⟨?_, ?_, ?_⟩; rotate_left; · (try dsimp only [List.set, List.length_cons, List.length_nil, List.cons_append, List.nil_append, Nat.zero_add, Nat.reduceAdd]); exact rfl) | with_reducible refine then_rt ?_ | with_reducible refine eo_if ?_ | with_reducible refine eo_ret ?_ | with_reducible refine eo_set ?_ | with_reducible refine eo_asg ?_ | with_reducible refine eo_drop ?_ | with_reducible refine eo_nx ?_ | with_reducible refine eo_par ?_ | with_reducible refine eo_own ?_ | with_reducible refine eo_retN ?_ | with_reducible refine eo_for ?_ | with_reducible refine eo_retO ?_
  | with_reducible refine ev_c ?_ | (with_reducible refine ev_var ?_; refine ⟨_, rfl, ?_⟩) | with_reducible refine ev_bin ?_ | with_reducible refine ev_un ?_ | with_reducible refine ev_nil ?_ | with_reducible refine ev_cons ?_
  | with_reducible refine ev_tup ?_ | with_reducible refine ev_lst ?_ | with_reducible refine ev_call ?_ | with_reducible refine ev_callF ?_ | with_reducible refine ev_isi ?_ | with_reducible refine ev_isi2 ?_ | with_reducible refine ev_andV ?_ | with_reducible refine ev_orV ?_ | with_reducible refine ev_notV ?_
  | with_reducible refine ev_B ?_ | with_reducible refine ev_and ?_ | with_reducible refine ev_or ?_ | with_reducible refine ev_not ?_ | with_reducible refine ev_yes ?_ | with_reducible refine ev_if ?_ | with_reducible refine ev_no ?_ | with_reducible refine ev_so ?_ | with_reducible refine ev_sl ?_ | with_reducible refine ev_items ?_
  | (with_reducible refine ev_ixO ?_; refine ⟨_, _, rfl, rfl, ?_⟩) | (with_reducible refine ev_varO ?_; refine ⟨_, _, rfl, rfl, ?_⟩) | (with_reducible refine ev_lenO ?_; refine ⟨_, _, rfl, rfl, ?_⟩) | (with_reducible refine ev_scrSl ?_; refine ⟨_, rfl, ?_⟩) | (with_reducible refine ev_scrLen ?_; refine ⟨_, rfl, ?_⟩) | (with_reducible refine ev_callScr ?_; refine ⟨_, rfl, ?_⟩) | (with_reducible refine ev_OL ?_; refine ⟨_, _, rfl, rfl, ?_⟩) | with_reducible refine ev_OR ?_ | with_reducible refine ev_rep ?_ | with_reducible refine ev_listRng1 ?_ | with_reducible refine eo_setO ?_
  | with_reducible refine es_name ?_ | with_reducible refine es_tup2 ?_ | with_reducible refine es_tup3 ?_
  | with_reducible refine ed_addI ?_ | with_reducible refine ed_subI ?_ | with_reducible refine ed_cmp ?_ | with_reducible refine ed_eqI ?_ | with_reducible refine ed_neI ?_ | with_reducible refine ed_slT ?_ | with_reducible refine ed_slL ?_ | with_reducible refine ed_lenT ?_ | with_reducible refine ed_lenL ?_ | with_reducible refine ed_lenS ?_ | with_reducible refine ed_inS ?_ | with_reducible refine ed_itT ?_ | with_reducible refine ed_itL ?_ | with_reducible refine ed_tupL ?_ | with_reducible refine ed_tupT ?_ | with_reducible refine ed_listL ?_ | with_reducible refine ed_listT ?_ | with_reducible refine ed_neg ?_ | with_reducible refine ed_max ?_ | with_reducible refine ed_min ?_ | with_reducible refine ed_intB ?_
  | with_reducible refine ev_rng1 ?_ | with_reducible refine ev_rng2 ?_)
local macro_rules | `(tactic| walk_at "sd") => `(tactic| first | rfl | assumption | (simp only [decide_eq_true_eq, decide_eq_false_iff_not, Bool.not_eq_true', Bool.not_eq_false', Bool.and_eq_true, Bool.or_eq_true, List.length_map, List.length_cons, List.length_nil, List.length_append, List.length_range] at *; omega))
local macro_rules | `(tactic| walk_at "e2") => `(tactic| first
  | walk_at "e1" | with_reducible refine ⟨_, rfl, ?_⟩ | with_reducible refine ⟨_, _, rfl, ?_⟩
  | with_reducible refine And.intro (Eq.refl (List.length _)) ?_ | with_reducible refine And.intro (Nat.le_of_ble_eq_true (n := List.length _) rfl) ?_
  | with_reducible refine And.intro (Eq.refl (_ : Sx)) (?_ : Ed _ _)
  | ((with_reducible refine And.intro ?_ (And.intro ?_ (?_ : Ev _ _))); (· rfl); (· rfl))
  | ((with_reducible refine ed_ixT ?_ ?_ ?_); (· decide); (· rfl)) | ((with_reducible refine ed_ixL ?_ ?_ ?_); (· decide); (· rfl)) | ((with_reducible refine ed_at ?_ ?_ ?_); (· decide); (· rfl))
  | ((with_reducible refine ed_modI ?_ ?_); (· first | decide | omega))
  | with_reducible exact gives_nx | ((with_reducible refine gives_rt ?_); (· rfl)) | ((with_reducible refine And.intro ?_ ?_); (· exact rfl); (· with_reducible exact Eq.refl (_ : Sx))))
local macro_rules | `(tactic| walk_at "e") => `(tactic| repeat walk_at "e2")
/-- begin a def's spec -/
local macro_rules | `(tactic| walk_at "i") => `(tactic| simp only [initS, List.map_cons, List.map_nil, List.length_cons, List.length_nil, Nat.reduceAdd, Nat.reduceSub, List.replicate, List.cons_append, List.nil_append])
/-- a known truth decides -/
local macro_rules | `(tactic| walk_at "t") => `(tactic| first | ((with_reducible refine split_t ?_ ?_); (· walk_at "sd")) | ((with_reducible refine split_t' ?_ ?_); (· walk_at "sd")))
local macro_rules | `(tactic| walk_at "f") => `(tactic| first | ((with_reducible refine split_f ?_ ?_); (· walk_at "sd")) | ((with_reducible refine split_f' ?_ ?_); (· walk_at "sd")))
/-- all that is seen in a look -/
local macro_rules | `(tactic| walk_at "v") => `(tactic| (rw [sealAll_mk (by (simp only [List.set_cons_zero, List.set_cons_succ, List.map_cons, List.map_nil, sealS_none, sealS_dat, sealS_scr, sealS_own, List.getElem?_cons_zero, List.getElem?_cons_succ, sealC_lst]; rfl)) (by (simp only [List.set_cons_zero, List.set_cons_succ, List.map_cons, List.map_nil]; rfl))]))
/-! ### what may raise -/
section
variable {α : Type} {S : Sx} {g h : Sx → Option (Zr Out)} {Z : Zr Out → Prop}
def Oz {α : Type} (x : Option (Zr α)) (Z : Zr α → Prop) : Prop := ∃ r, x = some r ∧ Z r
theorem oz_S {g : Sx → Option Out} (h : Eo (g S) fun o => Z (.ok o)) : Oz (zS g S) Z := by
  obtain ⟨o, e, q⟩ := h
  exact ⟨_, by simp only [zS, e, Option.map_some], q⟩
theorem oz_seq (h1 : Oz (g S) fun r => ∃ S1, r = .ok (.nx S1) ∧ Oz (h S1) Z) : Oz (zSeq g h S) Z := by
  obtain ⟨_, e, S1, rfl, r, e2, q⟩ := h1
  exact ⟨r, by simp only [zSeq, e, Option.bind_some, e2], q⟩
theorem oz_seqE (h1 : Oz (g S) fun r => ∃ e, r = .error e ∧ Z (.error e)) : Oz (zSeq g h S) Z := by
  obtain ⟨_, e, er, rfl, q⟩ := h1
  exact ⟨_, by simp only [zSeq, e, Option.bind_some], q⟩
theorem oz_if {t : M Bool} (h1 : Ev (t S) fun b S1 => (b = true → Oz (g S1) Z) ∧ (b = false → Oz (h S1) Z)) : Oz (zIf t g h S) Z := by
  obtain ⟨b, S1, e, h2, h3⟩ := h1
  cases b with
  | true => obtain ⟨r, e2, q⟩ := h2 rfl; exact ⟨r, by simp only [zIf, e, Option.bind_some, if_true, e2], q⟩
  | false => obtain ⟨r, e2, q⟩ := h3 rfl; exact ⟨r, by simp only [zIf, e, Option.bind_some, Bool.false_eq_true, if_false, e2], q⟩
theorem oz_raise {c : Str} (q : Z (.error (c, S))) : Oz (zRaise c S) Z := ⟨_, rfl, q⟩
theorem oz_drop {ge : Sx → Option (Zr (D × Sx))} (h : Oz (ge S) fun r => ∃ d S1, r = .ok (d, S1) ∧ Z (.ok (.nx S1))) : Oz (zDrop ge S) Z := by
  obtain ⟨_, e, d, S1, rfl, q⟩ := h
  exact ⟨_, by simp only [zDrop, zBe, e, Option.bind_some, Option.map_some], q⟩
theorem oz_dropE {ge : Sx → Option (Zr (D × Sx))} (h : Oz (ge S) fun r => ∃ e, r = .error e ∧ Z (.error e)) : Oz (zDrop ge S) Z := by
  obtain ⟨_, e, er, rfl, q⟩ := h
  exact ⟨_, by simp only [zDrop, zBe, e, Option.bind_some], q⟩
theorem oz_beE {f : D → Sx → Option Out} {ge : Sx → Option (Zr (D × Sx))} (h : Oz (ge S) fun r => ∃ e, r = .error e ∧ Z (.error e)) : Oz (zBe ge f S) Z := by
  obtain ⟨_, e, er, rfl, q⟩ := h
  exact ⟨_, by simp only [zBe, e, Option.bind_some], q⟩
theorem oz_set {i : Nat} {ge : Sx → Option (Zr (D × Sx))} (h : Oz (ge S) fun r => ∃ d S1, r = .ok (d, S1) ∧ Z (.ok (.nx ⟨S1.sl.set i (some (.dat d)), S1.os⟩))) : Oz (zSet i ge S) Z := by
  obtain ⟨_, e, d, S1, rfl, q⟩ := h
  exact ⟨_, by simp only [zSet, zBe, e, Option.bind_some, Option.map_some], q⟩
theorem oz_ret {ge : Sx → Option (Zr (D × Sx))} (h : Oz (ge S) fun r => ∃ d S1, r = .ok (d, S1) ∧ Z (.ok (.rt d S1))) : Oz (zRet ge S) Z := by
  obtain ⟨_, e, d, S1, rfl, q⟩ := h
  exact ⟨_, by simp only [zRet, zBe, e, Option.bind_some, Option.map_some], q⟩
theorem oz_call {n : Nat} {m : List D → Option (Except Str D)} {gs : M (List D)} {Q : Zr (D × Sx) → Prop} (h : Ev (gs S) fun ds S1 => ds.length = n ∧ ∃ r, m ds = some r ∧ (∀ z, r = .ok z → Q (.ok (z, S1))) ∧ (∀ c, r = .error c → Q (.error (c, S1)))) : Oz (zCall n m gs S) Q := by
  obtain ⟨ds, S1, e, hn, r, e2, h1, h2⟩ := h
  cases r with
  | ok z => exact ⟨_, by simp only [zCall, e, Option.bind_some, if_pos hn, e2, Option.map_some], h1 z rfl⟩
  | error c => exact ⟨_, by simp only [zCall, e, Option.bind_some, if_pos hn, e2, Option.map_some], h2 c rfl⟩
/-- what a def's end hands on -/
def ZGives (Q : Except Str D → Prop) : Zr Out → Prop
  | .error e => Q (.error e.1)
  | .ok (.nx _) => Q (.ok .none)
  | .ok (.rt d _) => Q (.ok d)
  | _ => False
theorem mZ_of {n : Nat} {ds : List D} {Q : Except Str D → Prop} (h : Oz (g ⟨initS n ds, []⟩) (ZGives Q)) : ∃ r, mZ n g ds = some r ∧ Q r := by
  obtain ⟨r, e, q⟩ := h
  unfold mZ
  rw [e]
  cases r with
  | error er => exact ⟨_, rfl, q⟩
  | ok o =>
    cases o with
    | nx S => exact ⟨_, rfl, q⟩
    | rt d S => exact ⟨_, rfl, q⟩
    | _ => exact q.elim
theorem eo_try {cs : List Str} {i j : Nat} {Y : Out → Prop} (h : Oz (g S) fun r => (∃ o, r = .ok o ∧ Y o) ∨ ∃ c S1, r = .error (c, S1) ∧ c ∈ cs ∧ i < S1.sl.length ∧ Y (.nx ⟨(S1.sl.set j (some (.exc c))).set i none, S1.os⟩)) : Eo (qTry cs i j g S) Y := by
  obtain ⟨_, e, ⟨o, rfl, q⟩ | ⟨c, S1, rfl, hc, hl, q⟩⟩ := h
  · exact ⟨o, by simp only [qTry, e, Option.bind_some], q⟩
  · exact ⟨_, by simp only [qTry, e, Option.bind_some]; rw [if_pos ⟨hc, hl⟩], q⟩
theorem ev_isNx {i : Nat} {c : Str} {Q : D → Sx → Prop} (h : S.sl[i]? = some (some (.exc c))) (q : Q (.bool false) S) : Ev (gIsN i S) Q := ⟨_, _, by simp only [gIsN, h], q⟩
theorem ev_isN0 {i : Nat} {Q : D → Sx → Prop} (h : S.sl[i]? = some (some (.dat .none))) (q : Q (.bool true) S) : Ev (gIsN i S) Q := ⟨_, _, by simp only [gIsN, h], q⟩
theorem ev_callX {i : Nat} {c : Str} {z : D} {m : Str → Option D} {Q : D → Sx → Prop} (h : S.sl[i]? = some (some (.exc c))) (e : m c = some z) (q : Q z S) : Ev (gCallX i m S) Q := ⟨_, _, by simp only [gCallX, h, e, Option.map_some], q⟩
end
/-! ### the refusals -/
theorem whole_of {d : D} (h : wholeD d = true) : ∃ i : Int, d = .int i ∧ 0 ≤ i := by
  cases d <;> simp [wholeD] at h
  exact ⟨_, rfl, h⟩
end Lw

set_option maxHeartbeats 4000000
namespace Lw
open PySem Fu
local macro_rules | `(tactic| walk_at "e1") => `(tactic| first
  | with_reducible refine eo_seq ?_ | (with_reducible refine then_nx' ?_; refine ⟨?_, ?_, ?_⟩; rotate_left; · (try dsimp only [List.set, List.length_cons, List.length_nil, List.cons_append, List.nil_append, Nat.zero_add, Nat.reduceAdd]); exact rfl) | with_reducible refine then_rt ?_ | with_reducible refine eo_if ?_ | with_reducible refine eo_ret ?_ | with_reducible refine eo_set ?_ | with_reducible refine eo_asg ?_ | with_reducible refine eo_drop ?_ | with_reducible refine eo_nx ?_ | with_reducible refine eo_par ?_ | with_reducible refine eo_own ?_ | with_reducible refine eo_retN ?_ | with_reducible refine eo_for ?_ | with_reducible refine eo_retO ?_
  | with_reducible refine ev_c ?_ | (with_reducible refine ev_var ?_; refine ⟨_, rfl, ?_⟩) | with_reducible refine ev_bin ?_ | with_reducible refine ev_un ?_ | with_reducible refine ev_nil ?_ | with_reducible refine ev_cons ?_
  | with_reducible refine ev_tup ?_ | with_reducible refine ev_lst ?_ | with_reducible refine ev_call ?_ | with_reducible refine ev_callF ?_ | with_reducible refine ev_isi ?_ | with_reducible refine ev_isi2 ?_ | with_reducible refine ev_andV ?_ | with_reducible refine ev_orV ?_ | with_reducible refine ev_notV ?_
  | with_reducible refine ev_B ?_ | with_reducible refine ev_and ?_ | with_reducible refine ev_or ?_ | with_reducible refine ev_not ?_ | with_reducible refine ev_yes ?_ | with_reducible refine ev_if ?_ | with_reducible refine ev_no ?_ | with_reducible refine ev_so ?_ | with_reducible refine ev_sl ?_ | with_reducible refine ev_items ?_
  | (with_reducible refine ev_ixO ?_; refine ⟨_, _, rfl, rfl, ?_⟩) | (with_reducible refine ev_varO ?_; refine ⟨_, _, rfl, rfl, ?_⟩) | (with_reducible refine ev_lenO ?_; refine ⟨_, _, rfl, rfl, ?_⟩) | (with_reducible refine ev_scrSl ?_; refine ⟨_, rfl, ?_⟩) | (with_reducible refine ev_scrLen ?_; refine ⟨_, rfl, ?_⟩) | (with_reducible refine ev_callScr ?_; refine ⟨_, rfl, ?_⟩) | (with_reducible refine ev_OL ?_; refine ⟨_, _, rfl, rfl, ?_⟩) | with_reducible refine ev_OR ?_ | with_reducible refine ev_rep ?_ | with_reducible refine ev_listRng1 ?_ | with_reducible refine eo_setO ?_
  | with_reducible refine es_name ?_ | with_reducible refine es_tup2 ?_ | with_reducible refine es_tup3 ?_
  | with_reducible refine ed_addI ?_ | with_reducible refine ed_subI ?_ | with_reducible refine ed_cmp ?_ | with_reducible refine ed_eqI ?_ | with_reducible refine ed_neI ?_ | with_reducible refine ed_slT ?_ | with_reducible refine ed_slL ?_ | with_reducible refine ed_lenT ?_ | with_reducible refine ed_lenL ?_ | with_reducible refine ed_lenS ?_ | with_reducible refine ed_inS ?_ | with_reducible refine ed_itT ?_ | with_reducible refine ed_itL ?_ | with_reducible refine ed_tupL ?_ | with_reducible refine ed_tupT ?_ | with_reducible refine ed_listL ?_ | with_reducible refine ed_listT ?_ | with_reducible refine ed_neg ?_ | with_reducible refine ed_max ?_ | with_reducible refine ed_min ?_ | with_reducible refine ed_intB ?_
  | with_reducible refine ev_rng1 ?_ | with_reducible refine ev_rng2 ?_)
local macro_rules | `(tactic| walk_at "sd") => `(tactic| first | rfl | assumption | (simp only [decide_eq_true_eq, decide_eq_false_iff_not, Bool.not_eq_true', Bool.not_eq_false', Bool.and_eq_true, Bool.or_eq_true, List.length_map, List.length_cons, List.length_nil, List.length_append, List.length_range] at *; omega))
local macro_rules | `(tactic| walk_at "e2") => `(tactic| first
  | walk_at "e1" | with_reducible refine ⟨_, rfl, ?_⟩ | with_reducible refine ⟨_, _, rfl, ?_⟩
  | with_reducible refine And.intro (Eq.refl (List.length _)) ?_ | with_reducible refine And.intro (Nat.le_of_ble_eq_true (n := List.length _) rfl) ?_
  | with_reducible refine And.intro (Eq.refl (_ : Sx)) (?_ : Ed _ _)
  | ((with_reducible refine And.intro ?_ (And.intro ?_ (?_ : Ev _ _))); (· rfl); (· rfl))
  | ((with_reducible refine ed_ixT ?_ ?_ ?_); (· decide); (· rfl)) | ((with_reducible refine ed_ixL ?_ ?_ ?_); (· decide); (· rfl)) | ((with_reducible refine ed_at ?_ ?_ ?_); (· decide); (· rfl))
  | ((with_reducible refine ed_modI ?_ ?_); (· first | decide | omega))
  | with_reducible exact gives_nx | ((with_reducible refine gives_rt ?_); (· rfl)) | ((with_reducible refine And.intro ?_ ?_); (· exact rfl); (· with_reducible exact Eq.refl (_ : Sx))))
local macro_rules | `(tactic| walk_at "e") => `(tactic| repeat walk_at "e2")
/-- begin a def's spec -/
local macro_rules | `(tactic| walk_at "i") => `(tactic| simp only [initS, List.map_cons, List.map_nil, List.length_cons, List.length_nil, Nat.reduceAdd, Nat.reduceSub, List.replicate, List.cons_append, List.nil_append])
/-- a known truth decides -/
local macro_rules | `(tactic| walk_at "t") => `(tactic| first | ((with_reducible refine split_t ?_ ?_); (· walk_at "sd")) | ((with_reducible refine split_t' ?_ ?_); (· walk_at "sd")))
local macro_rules | `(tactic| walk_at "f") => `(tactic| first | ((with_reducible refine split_f ?_ ?_); (· walk_at "sd")) | ((with_reducible refine split_f' ?_ ?_); (· walk_at "sd")))
/-- all that is seen in a look -/
local macro_rules | `(tactic| walk_at "v") => `(tactic| (rw [sealAll_mk (by (simp only [List.set_cons_zero, List.set_cons_succ, List.map_cons, List.map_nil, sealS_none, sealS_dat, sealS_scr, sealS_own, List.getElem?_cons_zero, List.getElem?_cons_succ, sealC_lst]; rfl)) (by (simp only [List.set_cons_zero, List.set_cons_succ, List.map_cons, List.map_nil]; rfl))]))
/-! ### the deeds, refused or not -/
def Okz (x : Option (Except Str D)) : Prop := ∃ z, x = some (.ok z)
theorem okz_of {x : Option (Except Str D)} (h : ∃ r, x = some r ∧ ∃ z, r = .ok z) : Okz x := by
  obtain ⟨_, e, z, rfl⟩ := h
  exact ⟨z, e⟩
theorem erz_of {x : Option (Except Str D)} {c : Str} (h : ∃ r, x = some r ∧ r = .error c) : x = some (.error c) := by
  obtain ⟨_, e, rfl⟩ := h
  exact e
section
variable {α : Type} {S : Sx} {g h : Sx → Option (Zr Out)} {Z : Zr Out → Prop}
end
section
variable {w : D} {p : Int} {ls : List Ln} {a b c : D}
theorem place_of {n : Int} {d : D} (h : placeD n d = true) : ∃ i : Int, d = .int i ∧ 0 ≤ i ∧ i < n := by
  cases d <;> simp [placeD] at h
  exact ⟨_, rfl, h.1, h.2⟩
end
end Lw

set_option maxHeartbeats 4000000
namespace Lw
open PySem Fu
local macro_rules | `(tactic| walk_at "e1") => `(tactic| first
  | with_reducible refine eo_seq ?_ | (with_reducible refine then_nx' ?_; refine ⟨?_, ?_, ?_⟩; rotate_left; · (try dsimp only [List.set, List.length_cons, List.length_nil, List.cons_append, List.nil_append, Nat.zero_add, Nat.reduceAdd]); exact rfl) | with_reducible refine then_rt ?_ | with_reducible refine eo_if ?_ | with_reducible refine eo_ret ?_ | with_reducible refine eo_set ?_ | with_reducible refine eo_asg ?_ | with_reducible refine eo_drop ?_ | with_reducible refine eo_nx ?_ | with_reducible refine eo_par ?_ | with_reducible refine eo_own ?_ | with_reducible refine eo_retN ?_ | with_reducible refine eo_for ?_ | with_reducible refine eo_retO ?_
  | with_reducible refine ev_c ?_ | (with_reducible refine ev_var ?_; refine ⟨_, rfl, ?_⟩) | with_reducible refine ev_bin ?_ | with_reducible refine ev_un ?_ | with_reducible refine ev_nil ?_ | with_reducible refine ev_cons ?_
  | with_reducible refine ev_tup ?_ | with_reducible refine ev_lst ?_ | with_reducible refine ev_call ?_ | with_reducible refine ev_callF ?_ | with_reducible refine ev_isi ?_ | with_reducible refine ev_isi2 ?_ | with_reducible refine ev_andV ?_ | with_reducible refine ev_orV ?_ | with_reducible refine ev_notV ?_
  | with_reducible refine ev_B ?_ | with_reducible refine ev_and ?_ | with_reducible refine ev_or ?_ | with_reducible refine ev_not ?_ | with_reducible refine ev_yes ?_ | with_reducible refine ev_if ?_ | with_reducible refine ev_no ?_ | with_reducible refine ev_so ?_ | with_reducible refine ev_sl ?_ | with_reducible refine ev_items ?_
  | (with_reducible refine ev_ixO ?_; refine ⟨_, _, rfl, rfl, ?_⟩) | (with_reducible refine ev_varO ?_; refine ⟨_, _, rfl, rfl, ?_⟩) | (with_reducible refine ev_lenO ?_; refine ⟨_, _, rfl, rfl, ?_⟩) | (with_reducible refine ev_scrSl ?_; refine ⟨_, rfl, ?_⟩) | (with_reducible refine ev_scrLen ?_; refine ⟨_, rfl, ?_⟩) | (with_reducible refine ev_callScr ?_; refine ⟨_, rfl, ?_⟩) | (with_reducible refine ev_OL ?_; refine ⟨_, _, rfl, rfl, ?_⟩) | with_reducible refine ev_OR ?_ | with_reducible refine ev_rep ?_ | with_reducible refine ev_listRng1 ?_ | with_reducible refine eo_setO ?_
  | with_reducible refine es_name ?_ | with_reducible refine es_tup2 ?_ | with_reducible refine es_tup3 ?_
  | with_reducible refine ed_addI ?_ | with_reducible refine ed_subI ?_ | with_reducible refine ed_cmp ?_ | with_reducible refine ed_eqI ?_ | with_reducible refine ed_neI ?_ | with_reducible refine ed_slT ?_ | with_reducible refine ed_slL ?_ | with_reducible refine ed_lenT ?_ | with_reducible refine ed_lenL ?_ | with_reducible refine ed_lenS ?_ | with_reducible refine ed_inS ?_ | with_reducible refine ed_itT ?_ | with_reducible refine ed_itL ?_ | with_reducible refine ed_tupL ?_ | with_reducible refine ed_tupT ?_ | with_reducible refine ed_listL ?_ | with_reducible refine ed_listT ?_ | with_reducible refine ed_neg ?_ | with_reducible refine ed_max ?_ | with_reducible refine ed_min ?_ | with_reducible refine ed_intB ?_
  | with_reducible refine ev_rng1 ?_ | with_reducible refine ev_rng2 ?_)
local macro_rules | `(tactic| walk_at "sd") => `(tactic| first | rfl | assumption | (simp only [decide_eq_true_eq, decide_eq_false_iff_not, Bool.not_eq_true', Bool.not_eq_false', Bool.and_eq_true, Bool.or_eq_true, List.length_map, List.length_cons, List.length_nil, List.length_append, List.length_range] at *; omega))
local macro_rules | `(tactic| walk_at "e2") => `(tactic| first
  | walk_at "e1" | with_reducible refine ⟨_, rfl, ?_⟩ | with_reducible refine ⟨_, _, rfl, ?_⟩
  | with_reducible refine And.intro (Eq.refl (List.length _)) ?_ | with_reducible refine And.intro (Nat.le_of_ble_eq_true (n := List.length _) rfl) ?_
  | with_reducible refine And.intro (Eq.refl (_ : Sx)) (?_ : Ed _ _)
  | ((with_reducible refine And.intro ?_ (And.intro ?_ (?_ : Ev _ _))); (· rfl); (· rfl))
  | ((with_reducible refine ed_ixT ?_ ?_ ?_); (· decide); (· rfl)) | ((with_reducible refine ed_ixL ?_ ?_ ?_); (· decide); (· rfl)) | ((with_reducible refine ed_at ?_ ?_ ?_); (· decide); (· rfl))
  | ((with_reducible refine ed_modI ?_ ?_); (· first | decide | omega))
  | with_reducible exact gives_nx | ((with_reducible refine gives_rt ?_); (· rfl)) | ((with_reducible refine And.intro ?_ ?_); (· exact rfl); (· with_reducible exact Eq.refl (_ : Sx))))
local macro_rules | `(tactic| walk_at "e") => `(tactic| repeat walk_at "e2")
/-- begin a def's spec -/
local macro_rules | `(tactic| walk_at "i") => `(tactic| simp only [initS, List.map_cons, List.map_nil, List.length_cons, List.length_nil, Nat.reduceAdd, Nat.reduceSub, List.replicate, List.cons_append, List.nil_append])
/-- a known truth decides -/
local macro_rules | `(tactic| walk_at "t") => `(tactic| first | ((with_reducible refine split_t ?_ ?_); (· walk_at "sd")) | ((with_reducible refine split_t' ?_ ?_); (· walk_at "sd")))
local macro_rules | `(tactic| walk_at "f") => `(tactic| first | ((with_reducible refine split_f ?_ ?_); (· walk_at "sd")) | ((with_reducible refine split_f' ?_ ?_); (· walk_at "sd")))
/-- all that is seen in a look -/
local macro_rules | `(tactic| walk_at "v") => `(tactic| (rw [sealAll_mk (by (simp only [List.set_cons_zero, List.set_cons_succ, List.map_cons, List.map_nil, sealS_none, sealS_dat, sealS_scr, sealS_own, List.getElem?_cons_zero, List.getElem?_cons_succ, sealC_lst]; rfl)) (by (simp only [List.set_cons_zero, List.set_cons_succ, List.map_cons, List.map_nil]; rfl))]))
namespace Rl
open Lw
def isS (x : Option D) (s : Str) : Bool := match x with
  | some (.str z) => decide (z = s)
  | _ => false
theorem isS_of {x : Option D} {s : Str} (h : isS x s = true) : x = some (.str s) := by
  unfold isS at h
  split at h
  · rw [of_decide_eq_true h]
  · cases h
theorem oz_leaf {S : Sx} {n : Nat} {m : List D → Option (Except Str D)} {gs : M (List D)} {Z : Zr Out → Prop} (h : Ev (gs S) fun ds S1 => ds.length = n ∧ ∃ r, m ds = some r ∧ (∀ z, r = .ok z → Z (.ok (.nx S1))) ∧ (∀ c, r = .error c → Z (.error (c, S1)))) : Oz (zDrop (zCall n m gs) S) Z := by
  obtain ⟨ds, S1, e, hn, r, hm, h1, h2⟩ := h
  cases r with
  | ok z => exact oz_drop (oz_call ⟨ds, S1, e, hn, _, hm, fun z' e' => by cases e'; exact ⟨_, _, rfl, h1 _ rfl⟩, (fun c e' => nomatch e')⟩)
  | error c => exact oz_dropE (oz_call ⟨ds, S1, e, hn, _, hm, (fun z e' => nomatch e'), fun c' e' => by cases e'; exact ⟨_, rfl, h2 _ rfl⟩⟩)
def told : Except Str D → Str
  | .ok _ => "none"
  | .error c => c
end Rl
end Lw

set_option maxHeartbeats 4000000
namespace Lw
open PySem Fu
local macro_rules | `(tactic| walk_at "e1") => `(tactic| first
  | with_reducible refine eo_seq ?_ | (with_reducible refine then_nx' ?_; refine ⟨?_, ?_, ?_⟩; rotate_left; · (try dsimp only [List.set, List.length_cons, List.length_nil, List.cons_append, List.nil_append, Nat.zero_add, Nat.reduceAdd]); exact rfl) | with_reducible refine then_rt ?_ | with_reducible refine eo_if ?_ | with_reducible refine eo_ret ?_ | with_reducible refine eo_set ?_ | with_reducible refine eo_asg ?_ | with_reducible refine eo_drop ?_ | with_reducible refine eo_nx ?_ | with_reducible refine eo_par ?_ | with_reducible refine eo_own ?_ | with_reducible refine eo_retN ?_ | with_reducible refine eo_for ?_ | with_reducible refine eo_retO ?_
  | with_reducible refine ev_c ?_ | (with_reducible refine ev_var ?_; refine ⟨_, rfl, ?_⟩) | with_reducible refine ev_bin ?_ | with_reducible refine ev_un ?_ | with_reducible refine ev_nil ?_ | with_reducible refine ev_cons ?_
  | with_reducible refine ev_tup ?_ | with_reducible refine ev_lst ?_ | with_reducible refine ev_call ?_ | with_reducible refine ev_callF ?_ | with_reducible refine ev_isi ?_ | with_reducible refine ev_isi2 ?_ | with_reducible refine ev_andV ?_ | with_reducible refine ev_orV ?_ | with_reducible refine ev_notV ?_
  | with_reducible refine ev_B ?_ | with_reducible refine ev_and ?_ | with_reducible refine ev_or ?_ | with_reducible refine ev_not ?_ | with_reducible refine ev_yes ?_ | with_reducible refine ev_if ?_ | with_reducible refine ev_no ?_ | with_reducible refine ev_so ?_ | with_reducible refine ev_sl ?_ | with_reducible refine ev_items ?_
  | (with_reducible refine ev_ixO ?_; refine ⟨_, _, rfl, rfl, ?_⟩) | (with_reducible refine ev_varO ?_; refine ⟨_, _, rfl, rfl, ?_⟩) | (with_reducible refine ev_lenO ?_; refine ⟨_, _, rfl, rfl, ?_⟩) | (with_reducible refine ev_scrSl ?_; refine ⟨_, rfl, ?_⟩) | (with_reducible refine ev_scrLen ?_; refine ⟨_, rfl, ?_⟩) | (with_reducible refine ev_callScr ?_; refine ⟨_, rfl, ?_⟩) | (with_reducible refine ev_OL ?_; refine ⟨_, _, rfl, rfl, ?_⟩) | with_reducible refine ev_OR ?_ | with_reducible refine ev_rep ?_ | with_reducible refine ev_listRng1 ?_ | with_reducible refine eo_setO ?_
  | with_reducible refine es_name ?_ | with_reducible refine es_tup2 ?_ | with_reducible refine es_tup3 ?_
  | with_reducible refine ed_addI ?_ | with_reducible refine ed_subI ?_ | with_reducible refine ed_cmp ?_ | with_reducible refine ed_eqI ?_ | with_reducible refine ed_neI ?_ | with_reducible refine ed_slT ?_ | with_reducible refine ed_slL ?_ | with_reducible refine ed_lenT ?_ | with_reducible refine ed_lenL ?_ | with_reducible refine ed_lenS ?_ | with_reducible refine ed_inS ?_ | with_reducible refine ed_itT ?_ | with_reducible refine ed_itL ?_ | with_reducible refine ed_tupL ?_ | with_reducible refine ed_tupT ?_ | with_reducible refine ed_listL ?_ | with_reducible refine ed_listT ?_ | with_reducible refine ed_neg ?_ | with_reducible refine ed_max ?_ | with_reducible refine ed_min ?_ | with_reducible refine ed_intB ?_
  | with_reducible refine ev_rng1 ?_ | with_reducible refine ev_rng2 ?_)
local macro_rules | `(tactic| walk_at "sd") => `(tactic| first | rfl | assumption | (simp only [decide_eq_true_eq, decide_eq_false_iff_not, Bool.not_eq_true', Bool.not_eq_false', Bool.and_eq_true, Bool.or_eq_true, List.length_map, List.length_cons, List.length_nil, List.length_append, List.length_range] at *; omega))
local macro_rules | `(tactic| walk_at "e2") => `(tactic| first
  | walk_at "e1" | with_reducible refine ⟨_, rfl, ?_⟩ | with_reducible refine ⟨_, _, rfl, ?_⟩
  | with_reducible refine And.intro (Eq.refl (List.length _)) ?_ | with_reducible refine And.intro (Nat.le_of_ble_eq_true (n := List.length _) rfl) ?_
  | with_reducible refine And.intro (Eq.refl (_ : Sx)) (?_ : Ed _ _)
  | ((with_reducible refine And.intro ?_ (And.intro ?_ (?_ : Ev _ _))); (· rfl); (· rfl))
  | ((with_reducible refine ed_ixT ?_ ?_ ?_); (· decide); (· rfl)) | ((with_reducible refine ed_ixL ?_ ?_ ?_); (· decide); (· rfl)) | ((with_reducible refine ed_at ?_ ?_ ?_); (· decide); (· rfl))
  | ((with_reducible refine ed_modI ?_ ?_); (· first | decide | omega))
  | with_reducible exact gives_nx | ((with_reducible refine gives_rt ?_); (· rfl)) | ((with_reducible refine And.intro ?_ ?_); (· exact rfl); (· with_reducible exact Eq.refl (_ : Sx))))
local macro_rules | `(tactic| walk_at "e") => `(tactic| repeat walk_at "e2")
/-- begin a def's spec -/
local macro_rules | `(tactic| walk_at "i") => `(tactic| simp only [initS, List.map_cons, List.map_nil, List.length_cons, List.length_nil, Nat.reduceAdd, Nat.reduceSub, List.replicate, List.cons_append, List.nil_append])
/-- a known truth decides -/
local macro_rules | `(tactic| walk_at "t") => `(tactic| first | ((with_reducible refine split_t ?_ ?_); (· walk_at "sd")) | ((with_reducible refine split_t' ?_ ?_); (· walk_at "sd")))
local macro_rules | `(tactic| walk_at "f") => `(tactic| first | ((with_reducible refine split_f ?_ ?_); (· walk_at "sd")) | ((with_reducible refine split_f' ?_ ?_); (· walk_at "sd")))
/-- all that is seen in a look -/
local macro_rules | `(tactic| walk_at "v") => `(tactic| (rw [sealAll_mk (by (simp only [List.set_cons_zero, List.set_cons_succ, List.map_cons, List.map_nil, sealS_none, sealS_dat, sealS_scr, sealS_own, List.getElem?_cons_zero, List.getElem?_cons_succ, sealC_lst]; rfl)) (by (simp only [List.set_cons_zero, List.set_cons_succ, List.map_cons, List.map_nil]; rfl))]))
/-! ### what is no ride is refused -/
theorem oz_retE {ge : Sx → Option (Zr (D × Sx))} {S : Sx} {Z : Zr Out → Prop} (h : Oz (ge S) fun r => ∃ e, r = .error e ∧ Z (.error e)) : Oz (zRet ge S) Z := oz_beE h
theorem oz_callFE {n : Nat} {f : List D → Option D} {g : Sx → Option (Zr (List D × Sx))} {S : Sx} {Z : Zr (D × Sx) → Prop} (h : Oz (g S) fun r => ∃ e, r = .error e ∧ Z (.error e)) : Oz (zCallF n f g S) Z := by
  obtain ⟨_, e, er, rfl, q⟩ := h
  exact ⟨_, by simp only [zCallF, e, Option.bind_some], q⟩
theorem oz_oneE {g : Sx → Option (Zr (D × Sx))} {S : Sx} {Z : Zr (List D × Sx) → Prop} (h : Oz (g S) fun r => ∃ e, r = .error e ∧ Z (.error e)) : Oz (zOne g S) Z := by
  obtain ⟨_, e, er, rfl, q⟩ := h
  exact ⟨_, by simp only [zOne, e, Option.map_some], q⟩
theorem oz_consE {ga : M D} {g : Sx → Option (Zr (List D × Sx))} {S : Sx} {Z : Zr (List D × Sx) → Prop} (h : Ev (ga S) fun _ S1 => Oz (g S1) fun r => ∃ e, r = .error e ∧ Z (.error e)) : Oz (zCons ga g S) Z := by
  obtain ⟨d, S1, e1, _, e, er, rfl, q⟩ := h
  exact ⟨_, by simp only [zCons, e1, Option.bind_some, e, Option.map_some], q⟩
theorem oz_callE {n : Nat} {m : List D → Option (Except Str D)} {gs : M (List D)} {S : Sx} {c : Str} {Q : Zr (D × Sx) → Prop} (h : Ev (gs S) fun ds S1 => ds.length = n ∧ m ds = some (.error c) ∧ Q (.error (c, S1))) : Oz (zCall n m gs S) Q := by
  obtain ⟨ds, S1, e, hn, hm, q⟩ := h
  exact oz_call ⟨ds, S1, e, hn, _, hm, (fun z e' => nomatch e'), fun c' e' => by cases e'; exact q⟩
end Lw

set_option maxHeartbeats 4000000
namespace Lw
open PySem Fu
local macro_rules | `(tactic| walk_at "e1") => `(tactic| first
  | with_reducible refine eo_seq ?_ | (with_reducible refine then_nx' ?_; refine ⟨?_, ?_, ?_⟩; rotate_left; · (try dsimp only [List.set, List.length_cons, List.length_nil, List.cons_append, List.nil_append, Nat.zero_add, Nat.reduceAdd]); exact rfl) | with_reducible refine then_rt ?_ | with_reducible refine eo_if ?_ | with_reducible refine eo_ret ?_ | with_reducible refine eo_set ?_ | with_reducible refine eo_asg ?_ | with_reducible refine eo_drop ?_ | with_reducible refine eo_nx ?_ | with_reducible refine eo_par ?_ | with_reducible refine eo_own ?_ | with_reducible refine eo_retN ?_ | with_reducible refine eo_for ?_ | with_reducible refine eo_retO ?_
  | with_reducible refine ev_c ?_ | (with_reducible refine ev_var ?_; refine ⟨_, rfl, ?_⟩) | with_reducible refine ev_bin ?_ | with_reducible refine ev_un ?_ | with_reducible refine ev_nil ?_ | with_reducible refine ev_cons ?_
  | with_reducible refine ev_tup ?_ | with_reducible refine ev_lst ?_ | with_reducible refine ev_call ?_ | with_reducible refine ev_callF ?_ | with_reducible refine ev_isi ?_ | with_reducible refine ev_isi2 ?_ | with_reducible refine ev_andV ?_ | with_reducible refine ev_orV ?_ | with_reducible refine ev_notV ?_
  | with_reducible refine ev_B ?_ | with_reducible refine ev_and ?_ | with_reducible refine ev_or ?_ | with_reducible refine ev_not ?_ | with_reducible refine ev_yes ?_ | with_reducible refine ev_if ?_ | with_reducible refine ev_no ?_ | with_reducible refine ev_so ?_ | with_reducible refine ev_sl ?_ | with_reducible refine ev_items ?_
  | (with_reducible refine ev_ixO ?_; refine ⟨_, _, rfl, rfl, ?_⟩) | (with_reducible refine ev_varO ?_; refine ⟨_, _, rfl, rfl, ?_⟩) | (with_reducible refine ev_lenO ?_; refine ⟨_, _, rfl, rfl, ?_⟩) | (with_reducible refine ev_scrSl ?_; refine ⟨_, rfl, ?_⟩) | (with_reducible refine ev_scrLen ?_; refine ⟨_, rfl, ?_⟩) | (with_reducible refine ev_callScr ?_; refine ⟨_, rfl, ?_⟩) | (with_reducible refine ev_OL ?_; refine ⟨_, _, rfl, rfl, ?_⟩) | with_reducible refine ev_OR ?_ | with_reducible refine ev_rep ?_ | with_reducible refine ev_listRng1 ?_ | with_reducible refine eo_setO ?_
  | with_reducible refine es_name ?_ | with_reducible refine es_tup2 ?_ | with_reducible refine es_tup3 ?_
  | with_reducible refine ed_addI ?_ | with_reducible refine ed_subI ?_ | with_reducible refine ed_cmp ?_ | with_reducible refine ed_eqI ?_ | with_reducible refine ed_neI ?_ | with_reducible refine ed_slT ?_ | with_reducible refine ed_slL ?_ | with_reducible refine ed_lenT ?_ | with_reducible refine ed_lenL ?_ | with_reducible refine ed_lenS ?_ | with_reducible refine ed_inS ?_ | with_reducible refine ed_itT ?_ | with_reducible refine ed_itL ?_ | with_reducible refine ed_tupL ?_ | with_reducible refine ed_tupT ?_ | with_reducible refine ed_listL ?_ | with_reducible refine ed_listT ?_ | with_reducible refine ed_neg ?_ | with_reducible refine ed_max ?_ | with_reducible refine ed_min ?_ | with_reducible refine ed_intB ?_
  | with_reducible refine ev_rng1 ?_ | with_reducible refine ev_rng2 ?_)
local macro_rules | `(tactic| walk_at "sd") => `(tactic| first | rfl | assumption | (simp only [decide_eq_true_eq, decide_eq_false_iff_not, Bool.not_eq_true', Bool.not_eq_false', Bool.and_eq_true, Bool.or_eq_true, List.length_map, List.length_cons, List.length_nil, List.length_append, List.length_range] at *; omega))
local macro_rules | `(tactic| walk_at "e2") => `(tactic| first
  | walk_at "e1" | with_reducible refine ⟨_, rfl, ?_⟩ | with_reducible refine ⟨_, _, rfl, ?_⟩
  | with_reducible refine And.intro (Eq.refl (List.length _)) ?_ | with_reducible refine And.intro (Nat.le_of_ble_eq_true (n := List.length _) rfl) ?_
  | with_reducible refine And.intro (Eq.refl (_ : Sx)) (?_ : Ed _ _)
  | ((with_reducible refine And.intro ?_ (And.intro ?_ (?_ : Ev _ _))); (· rfl); (· rfl))
  | ((with_reducible refine ed_ixT ?_ ?_ ?_); (· decide); (· rfl)) | ((with_reducible refine ed_ixL ?_ ?_ ?_); (· decide); (· rfl)) | ((with_reducible refine ed_at ?_ ?_ ?_); (· decide); (· rfl))
  | ((with_reducible refine ed_modI ?_ ?_); (· first | decide | omega))
  | with_reducible exact gives_nx | ((with_reducible refine gives_rt ?_); (· rfl)) | ((with_reducible refine And.intro ?_ ?_); (· exact rfl); (· with_reducible exact Eq.refl (_ : Sx))))
local macro_rules | `(tactic| walk_at "e") => `(tactic| repeat walk_at "e2")
/-- begin a def's spec -/
local macro_rules | `(tactic| walk_at "i") => `(tactic| simp only [initS, List.map_cons, List.map_nil, List.length_cons, List.length_nil, Nat.reduceAdd, Nat.reduceSub, List.replicate, List.cons_append, List.nil_append])
/-- a known truth decides -/
local macro_rules | `(tactic| walk_at "t") => `(tactic| first | ((with_reducible refine split_t ?_ ?_); (· walk_at "sd")) | ((with_reducible refine split_t' ?_ ?_); (· walk_at "sd")))
local macro_rules | `(tactic| walk_at "f") => `(tactic| first | ((with_reducible refine split_f ?_ ?_); (· walk_at "sd")) | ((with_reducible refine split_f' ?_ ?_); (· walk_at "sd")))
/-- all that is seen in a look -/
local macro_rules | `(tactic| walk_at "v") => `(tactic| (rw [sealAll_mk (by (simp only [List.set_cons_zero, List.set_cons_succ, List.map_cons, List.map_nil, sealS_none, sealS_dat, sealS_scr, sealS_own, List.getElem?_cons_zero, List.getElem?_cons_succ, sealC_lst]; rfl)) (by (simp only [List.set_cons_zero, List.set_cons_succ, List.map_cons, List.map_nil]; rfl))]))
theorem alike_en (e f : Int × Int) : PySem.W.alike (en e) (en f) = true := rfl
theorem alike_ens : ∀ es fs : List (Int × Int), PySem.W.alikeAll (es.map en) (fs.map en) = true
  | [], _ => by simp [PySem.W.alikeAll]
  | _ :: _, [] => by simp [PySem.W.alikeAll]
  | e :: es, f :: fs => by
    simp only [List.map_cons, PySem.W.alikeAll, alike_en, alike_ens es fs, Bool.and_self]
theorem alike_lE (es fs : List (Int × Int)) : PySem.W.alike (lE es) (lE fs) = true := by
  unfold lE
  simp only [PySem.W.alike]
  exact alike_ens es fs
theorem good_lE (es : List (Int × Int)) : Good 2 (lE es) := good_list fun d hd => by
  obtain ⟨e, _, rfl⟩ := List.mem_map.mp hd
  exact good_tup fun x hx => by
    simp only [List.mem_cons, List.not_mem_nil, or_false] at hx
    rcases hx with rfl | rfl <;> exact good_int _
theorem pickOk_lE (ws : List (List (Int × Int))) : pickOk (ws.map lE) = true := by
  have hm : ∀ d ∈ ws.map lE, ∃ w, d = lE w := fun d hd => by
    obtain ⟨w, _, rfl⟩ := List.mem_map.mp hd
    exact ⟨w, rfl⟩
  obtain ⟨a, b⟩ := fine_all (n := 2) (ds := ws.map lE) fun d hd => by
    obtain ⟨w, rfl⟩ := hm d hd
    exact (good_lE w).fine
  unfold pickOk
  simp only [Bool.and_eq_true, decide_eq_true_eq, List.all_eq_true]
  refine ⟨⟨⟨fun d hd e he => ?_, fun d hd => ?_⟩, by omega⟩, a⟩
  · obtain ⟨w, rfl⟩ := hm d hd
    obtain ⟨v, rfl⟩ := hm e he
    exact alike_lE w v
  · obtain ⟨w, rfl⟩ := hm d hd
    rfl
theorem ed_least {ws : List (List (Int × Int))} {Q : D → Prop} (h : ws ≠ []) (q : ∀ m, IsLeast ws m → Q (lE m)) : Ed (dPick PySem.W.minD [.list (ws.map lE)]) Q := by
  cases ws with
  | nil => exact absurd rfl h
  | cons w ws =>
    obtain ⟨m, e, hm⟩ := min_least (w := w) (ws := ws)
    refine ⟨lE m, ?_, q m hm⟩
    have := pickOk_lE (w :: ws)
    rw [List.map_cons] at this ⊢
    simp only [dPick, this, if_true, e]
def rotD (es : List (Int × Int)) : D → D
  | .int k => lE (rot k.toNat es)
  | d => d
def rots (fs : List (Int × Int)) : List (List (Int × Int)) := (List.range fs.length).map fun k => rot k fs
theorem rots_data (fs : List (Int × Int)) (n : Nat) (hn : n = fs.length) : (rng 0 n).map (rotD fs) = (rots fs).map lE := by
  subst hn
  unfold rng rots
  rw [List.map_map, List.map_map]
  apply List.map_congr_left
  intro k _
  show lE (rot ((0 : Int) + (k : Int)).toNat fs) = lE (rot k fs)
  rw [show ((0 : Int) + (k : Int)).toNat = k by omega]
theorem x_all_ways {es : List (Int × Int)} (hz : es.length ≤ 4000) : m_all_ways [lE es] = some (.list ((ways es).map lE)) := by
  have hrl := rv_len es
  unfold m_all_ways; refine mF_of ?_; walk_at "i"; unfold g_all_ways
  walk_at "e"
  refine Ed.of x_faced_about ?_
  walk_at "e"
  refine eo_loopX (xs := [es, rv es]) (enc := lE) (fun i S => ∃ x2 x3 acc, S = ⟨[some (.dat (lE es)), some (.own 0), x2, x3], [some (.lst (acc.map lE))]⟩ ∧ ((i = 0 ∧ acc = []) ∨ (i = 1 ∧ acc = rots es) ∨ (i = 2 ∧ acc = rots es ++ rots (rv es)))) ⟨_, _, [], rfl, .inl ⟨rfl, rfl⟩⟩ ?_ ?_
  · rintro i fs S hx ⟨x2, x3, acc, rfl, hi⟩
    have hf : fs.length = es.length ∧ ((i = 0 ∧ fs = es) ∨ (i = 1 ∧ fs = rv es)) := by
      match i, hx with
      | 0, h => simp at h; subst h; exact ⟨rfl, .inl ⟨rfl, rfl⟩⟩
      | 1, h => simp at h; subst h; exact ⟨hrl, .inr ⟨rfl, rfl⟩⟩
    have ha : acc.length ≤ 4000 := by
      rcases hi with ⟨_, rfl⟩ | ⟨_, rfl⟩ | ⟨h2, rfl⟩
      · simp
      · simp [rots]; exact hz
      · rcases hf.2 with ⟨h, _⟩ | ⟨h, _⟩ <;> omega
    walk_at "e"
    refine ev_ext ⟨_, _, rfl, rfl, ?_⟩
    refine ev_map (rotD fs) ?_
    walk_at "e"
    refine ed_lenQ (sq_l _) ?_
    walk_at "e"
    rw [List.length_map]
    refine ⟨by omega, by omega, fun d hd => ?_, ?_⟩
    · obtain ⟨k, hk, rfl⟩ := rng_mem hd
      walk_at "e"
      show Ed (dSl (.list (fs.map en)) _ _) _
      walk_at "e"
      show Ed (dSl (.list (fs.map en)) _ _) _
      walk_at "e"
      rw [cut_from (by omega), cut_to (by omega)]
      refine ed_addL (by simp; omega) ⟨?_, rfl⟩
      simp only [rotD, lE, rot, List.map_append, List.map_drop, List.map_take]
    · rw [rots_data fs _ (by simp)]
      have hac : (acc ++ rots fs).map lE = acc.map lE ++ (rots fs).map lE := List.map_append
      refine ⟨_, rfl, _, rfl, by simp [rots]; omega, _, rfl, some (.dat (lE fs)), x3, acc ++ rots fs, mk_eq rfl (by rw [hac]; rfl), ?_⟩
      rcases hi with ⟨rfl, rfl⟩ | ⟨rfl, rfl⟩ | ⟨rfl, _⟩
      · rcases hf.2 with ⟨_, rfl⟩ | ⟨h, _⟩
        · exact .inr (.inl ⟨rfl, rfl⟩)
        · omega
      · rcases hf.2 with ⟨h, _⟩ | ⟨_, rfl⟩
        · omega
        · exact .inr (.inr ⟨rfl, rfl⟩)
      · rcases hf.2 with ⟨h, _⟩ | ⟨h, _⟩ <;> omega
  · rintro S ⟨x2, x3, acc, rfl, hi⟩
    have : acc = ways es := by
      rcases hi with ⟨h, _⟩ | ⟨h, _⟩ | ⟨_, rfl⟩
      · simp at h
      · simp at h
      · unfold rots ways; rw [hrl]
    subst this
    walk_at "e"
end Lw

set_option maxHeartbeats 4000000
namespace Lw
open PySem Fu
local macro_rules | `(tactic| walk_at "e1") => `(tactic| first
  | with_reducible refine eo_seq ?_ | (with_reducible refine then_nx' ?_; refine ⟨?_, ?_, ?_⟩; rotate_left; · (try dsimp only [List.set, List.length_cons, List.length_nil, List.cons_append, List.nil_append, Nat.zero_add, Nat.reduceAdd]); exact rfl) | with_reducible refine then_rt ?_ | with_reducible refine eo_if ?_ | with_reducible refine eo_ret ?_ | with_reducible refine eo_set ?_ | with_reducible refine eo_asg ?_ | with_reducible refine eo_drop ?_ | with_reducible refine eo_nx ?_ | with_reducible refine eo_par ?_ | with_reducible refine eo_own ?_ | with_reducible refine eo_retN ?_ | with_reducible refine eo_for ?_ | with_reducible refine eo_retO ?_
  | with_reducible refine ev_c ?_ | (with_reducible refine ev_var ?_; refine ⟨_, rfl, ?_⟩) | with_reducible refine ev_bin ?_ | with_reducible refine ev_un ?_ | with_reducible refine ev_nil ?_ | with_reducible refine ev_cons ?_
  | with_reducible refine ev_tup ?_ | with_reducible refine ev_lst ?_ | with_reducible refine ev_call ?_ | with_reducible refine ev_callF ?_ | with_reducible refine ev_isi ?_ | with_reducible refine ev_isi2 ?_ | with_reducible refine ev_andV ?_ | with_reducible refine ev_orV ?_ | with_reducible refine ev_notV ?_
  | with_reducible refine ev_B ?_ | with_reducible refine ev_and ?_ | with_reducible refine ev_or ?_ | with_reducible refine ev_not ?_ | with_reducible refine ev_yes ?_ | with_reducible refine ev_if ?_ | with_reducible refine ev_no ?_ | with_reducible refine ev_so ?_ | with_reducible refine ev_sl ?_ | with_reducible refine ev_items ?_
  | (with_reducible refine ev_ixO ?_; refine ⟨_, _, rfl, rfl, ?_⟩) | (with_reducible refine ev_varO ?_; refine ⟨_, _, rfl, rfl, ?_⟩) | (with_reducible refine ev_lenO ?_; refine ⟨_, _, rfl, rfl, ?_⟩) | (with_reducible refine ev_scrSl ?_; refine ⟨_, rfl, ?_⟩) | (with_reducible refine ev_scrLen ?_; refine ⟨_, rfl, ?_⟩) | (with_reducible refine ev_callScr ?_; refine ⟨_, rfl, ?_⟩) | (with_reducible refine ev_OL ?_; refine ⟨_, _, rfl, rfl, ?_⟩) | with_reducible refine ev_OR ?_ | with_reducible refine ev_rep ?_ | with_reducible refine ev_listRng1 ?_ | with_reducible refine eo_setO ?_
  | with_reducible refine es_name ?_ | with_reducible refine es_tup2 ?_ | with_reducible refine es_tup3 ?_
  | with_reducible refine ed_addI ?_ | with_reducible refine ed_subI ?_ | with_reducible refine ed_cmp ?_ | with_reducible refine ed_eqI ?_ | with_reducible refine ed_neI ?_ | with_reducible refine ed_slT ?_ | with_reducible refine ed_slL ?_ | with_reducible refine ed_lenT ?_ | with_reducible refine ed_lenL ?_ | with_reducible refine ed_lenS ?_ | with_reducible refine ed_inS ?_ | with_reducible refine ed_itT ?_ | with_reducible refine ed_itL ?_ | with_reducible refine ed_tupL ?_ | with_reducible refine ed_tupT ?_ | with_reducible refine ed_listL ?_ | with_reducible refine ed_listT ?_ | with_reducible refine ed_neg ?_ | with_reducible refine ed_max ?_ | with_reducible refine ed_min ?_ | with_reducible refine ed_intB ?_
  | with_reducible refine ev_rng1 ?_ | with_reducible refine ev_rng2 ?_)
local macro_rules | `(tactic| walk_at "sd") => `(tactic| first | rfl | assumption | (simp only [decide_eq_true_eq, decide_eq_false_iff_not, Bool.not_eq_true', Bool.not_eq_false', Bool.and_eq_true, Bool.or_eq_true, List.length_map, List.length_cons, List.length_nil, List.length_append, List.length_range] at *; omega))
local macro_rules | `(tactic| walk_at "e2") => `(tactic| first
  | walk_at "e1" | with_reducible refine ⟨_, rfl, ?_⟩ | with_reducible refine ⟨_, _, rfl, ?_⟩
  | with_reducible refine And.intro (Eq.refl (List.length _)) ?_ | with_reducible refine And.intro (Nat.le_of_ble_eq_true (n := List.length _) rfl) ?_
  | with_reducible refine And.intro (Eq.refl (_ : Sx)) (?_ : Ed _ _)
  | ((with_reducible refine And.intro ?_ (And.intro ?_ (?_ : Ev _ _))); (· rfl); (· rfl))
  | ((with_reducible refine ed_ixT ?_ ?_ ?_); (· decide); (· rfl)) | ((with_reducible refine ed_ixL ?_ ?_ ?_); (· decide); (· rfl)) | ((with_reducible refine ed_at ?_ ?_ ?_); (· decide); (· rfl))
  | ((with_reducible refine ed_modI ?_ ?_); (· first | decide | omega))
  | with_reducible exact gives_nx | ((with_reducible refine gives_rt ?_); (· rfl)) | ((with_reducible refine And.intro ?_ ?_); (· exact rfl); (· with_reducible exact Eq.refl (_ : Sx))))
local macro_rules | `(tactic| walk_at "e") => `(tactic| repeat walk_at "e2")
/-- begin a def's spec -/
local macro_rules | `(tactic| walk_at "i") => `(tactic| simp only [initS, List.map_cons, List.map_nil, List.length_cons, List.length_nil, Nat.reduceAdd, Nat.reduceSub, List.replicate, List.cons_append, List.nil_append])
/-- a known truth decides -/
local macro_rules | `(tactic| walk_at "t") => `(tactic| first | ((with_reducible refine split_t ?_ ?_); (· walk_at "sd")) | ((with_reducible refine split_t' ?_ ?_); (· walk_at "sd")))
local macro_rules | `(tactic| walk_at "f") => `(tactic| first | ((with_reducible refine split_f ?_ ?_); (· walk_at "sd")) | ((with_reducible refine split_f' ?_ ?_); (· walk_at "sd")))
/-- all that is seen in a look -/
local macro_rules | `(tactic| walk_at "v") => `(tactic| (rw [sealAll_mk (by (simp only [List.set_cons_zero, List.set_cons_succ, List.map_cons, List.map_nil, sealS_none, sealS_dat, sealS_scr, sealS_own, List.getElem?_cons_zero, List.getElem?_cons_succ, sealC_lst]; rfl)) (by (simp only [List.set_cons_zero, List.set_cons_succ, List.map_cons, List.map_nil]; rfl))]))
/-! ### rides and rounds refused, whatever is handed in -/
theorem z_nr_no {w d : D} {p : Int} {ls : List Ln} (hw : Web w p ls) (h : WbOk p ls) (hz : lenD d ≤ 4000) (hr : rideD ls d = false) : m_need_ride_Z [w, d] = some (.error "NoRide") := by
  unfold m_need_ride_Z; refine erz_of (mZ_of ?_); walk_at "i"; unfold g_need_ride_Z
  refine oz_seqE (oz_if ?_)
  walk_at "e"
  refine Ed.of (x_ride_is hw h d hz) ?_
  rw [hr]
  walk_at "e"
  refine split_t rfl (oz_raise ⟨_, rfl, ?_⟩)
  rfl
theorem z_nd_no {w d : D} {p : Int} {ls : List Ln} (hw : Web w p ls) (h : WbOk p ls) (hz : lenD d ≤ 4000) (hr : roundD ls d = false) : m_need_round_Z [w, d] = some (.error "NoRide") := by
  unfold m_need_round_Z; refine erz_of (mZ_of ?_); walk_at "i"; unfold g_need_round_Z
  refine oz_seqE (oz_if ?_)
  walk_at "e"
  refine Ed.of (x_round_is hw h d hz) ?_
  rw [hr]
  walk_at "e"
  refine split_t rfl (oz_raise ⟨_, rfl, ?_⟩)
  rfl
theorem okv_of {x : Option (Except Str D)} {z : D} (h : ∃ r, x = some r ∧ r = .ok z) : x = some (.ok z) := by
  obtain ⟨_, e, rfl⟩ := h
  exact e
theorem z_nr_ok {w d : D} {p : Int} {ls : List Ln} {es : List (Int × Int)} (hw : Web w p ls) (h : WbOk p ls) (hd : IsRide d es) (hz : es.length ≤ 4000) (hr : rideB ls es = true) : m_need_ride_Z [w, d] = some (.ok (lE es)) := by
  have hr' : rideD ls d = true := by rw [rideD_of hd]; exact hr
  obtain ⟨ps, s, rfl, hp⟩ := hd
  have hl : lenD d ≤ 4000 := by rw [lenD_of s]; simpa using hz
  unfold m_need_ride_Z; refine okv_of (mZ_of ?_); walk_at "i"; unfold g_need_ride_Z
  refine oz_seq (oz_if ?_)
  walk_at "e"
  refine Ed.of (x_ride_is hw h d hl) ?_
  rw [hr']
  walk_at "e"
  refine split_f rfl (oz_S ?_)
  walk_at "e"
  refine oz_S ?_
  walk_at "e"
  refine ev_mapX (xs := ps) (enc := (·.1)) (g := fun q => en q.2) ?_
  walk_at "e"
  refine ed_itQ s ⟨rfl, fun q hq => ?_, ?_⟩
  · walk_at "e"
    exact isEn_tup (hp q hq) ⟨rfl, rfl⟩
  · walk_at "e"
    show Except.ok _ = Except.ok _
    unfold lE; rw [List.map_map]; rfl
theorem z_nd_ok {w d : D} {p : Int} {ls : List Ln} {es : List (Int × Int)} (hw : Web w p ls) (h : WbOk p ls) (hd : IsRide d es) (hz : es.length ≤ 4000) (hr : roundB ls es = true) : m_need_round_Z [w, d] = some (.ok (lE es)) := by
  have hr' : roundD ls d = true := by rw [roundD_of hd]; exact hr
  obtain ⟨ps, s, rfl, hp⟩ := hd
  have hl : lenD d ≤ 4000 := by rw [lenD_of s]; simpa using hz
  unfold m_need_round_Z; refine okv_of (mZ_of ?_); walk_at "i"; unfold g_need_round_Z
  refine oz_seq (oz_if ?_)
  walk_at "e"
  refine Ed.of (x_round_is hw h d hl) ?_
  rw [hr']
  walk_at "e"
  refine split_f rfl (oz_S ?_)
  walk_at "e"
  refine oz_S ?_
  walk_at "e"
  refine ev_mapX (xs := ps) (enc := (·.1)) (g := fun q => en q.2) ?_
  walk_at "e"
  refine ed_itQ s ⟨rfl, fun q hq => ?_, ?_⟩
  · walk_at "e"
    exact isEn_tup (hp q hq) ⟨rfl, rfl⟩
  · walk_at "e"
    show Except.ok _ = Except.ok _
    unfold lE; rw [List.map_map]; rfl
section
variable {S : Sx}
theorem oz_callF {n : Nat} {f : List D → Option D} {g : Sx → Option (Zr (List D × Sx))} {Z : Zr (D × Sx) → Prop} (h : Oz (g S) fun r => ∃ ds S1, r = .ok (ds, S1) ∧ ds.length = n ∧ Ed (f ds) fun z => Z (.ok (z, S1))) : Oz (zCallF n f g S) Z := by
  obtain ⟨_, e, ds, S1, rfl, hn, z, hz, q⟩ := h
  exact ⟨_, by simp only [zCallF, e, Option.bind_some, if_pos hn, hz, Option.map_some], q⟩
theorem oz_callB {f : List D → Option D} {g : Sx → Option (Zr (List D × Sx))} {Z : Zr (D × Sx) → Prop} (h : Oz (g S) fun r => ∃ ds S1, r = .ok (ds, S1) ∧ Ed (f ds) fun z => Z (.ok (z, S1))) : Oz (zCallB f g S) Z := by
  obtain ⟨_, e, ds, S1, rfl, z, hz, q⟩ := h
  exact ⟨_, by simp only [zCallB, e, Option.bind_some, hz, Option.map_some], q⟩
theorem oz_callBE {f : List D → Option D} {g : Sx → Option (Zr (List D × Sx))} {Z : Zr (D × Sx) → Prop} (h : Oz (g S) fun r => ∃ e, r = .error e ∧ Z (.error e)) : Oz (zCallB f g S) Z := by
  obtain ⟨_, e, er, rfl, q⟩ := h
  exact ⟨_, by simp only [zCallB, e, Option.bind_some], q⟩
theorem oz_one {g : Sx → Option (Zr (D × Sx))} {Z : Zr (List D × Sx) → Prop} (h : Oz (g S) fun r => ∃ d S1, r = .ok (d, S1) ∧ Z (.ok ([d], S1))) : Oz (zOne g S) Z := by
  obtain ⟨_, e, d, S1, rfl, q⟩ := h
  exact ⟨_, by simp only [zOne, e, Option.map_some], q⟩
theorem oz_cons {ga : M D} {g : Sx → Option (Zr (List D × Sx))} {Z : Zr (List D × Sx) → Prop} (h : Ev (ga S) fun a S1 => Oz (g S1) fun r => ∃ ds S2, r = .ok (ds, S2) ∧ Z (.ok (a :: ds, S2))) : Oz (zCons ga g S) Z := by
  obtain ⟨d, S1, e1, _, e, ds, S2, rfl, q⟩ := h
  exact ⟨_, by simp only [zCons, e1, Option.bind_some, e, Option.map_some], q⟩
theorem oz_callK {n : Nat} {m : List D → Option (Except Str D)} {gs : M (List D)} {z : D} {Q : Zr (D × Sx) → Prop} (h : Ev (gs S) fun ds S1 => ds.length = n ∧ m ds = some (.ok z) ∧ Q (.ok (z, S1))) : Oz (zCall n m gs S) Q := by
  obtain ⟨ds, S1, e, hn, hm, q⟩ := h
  exact oz_call ⟨ds, S1, e, hn, _, hm, (fun z' e' => by cases e'; exact q), (fun c e' => nomatch e')⟩
end
section
variable {w d s : D} {p : Int} {ls : List Ln} {es : List (Int × Int)}
theorem z_begun_no (hw : Web w p ls) (h : WbOk p ls) (hz : lenD d ≤ 4000) (hr : roundD ls d = false) : m_begun_at_Z [w, d, s] = some (.error "NoRide") := by
  unfold m_begun_at_Z; refine erz_of (mZ_of ?_); walk_at "i"; unfold g_begun_at_Z
  refine oz_seqE ?_
  unfold zSet
  refine oz_beE (oz_callE (c := "NoRide") ?_)
  walk_at "e"
  exact ⟨z_nd_no hw h hz hr, _, rfl, _, rfl, rfl⟩
theorem z_least_no (hw : Web w p ls) (h : WbOk p ls) (hz : lenD d ≤ 4000) (hr : roundD ls d = false) : m_least_round_Z [w, d] = some (.error "NoRide") := by
  unfold m_least_round_Z; refine erz_of (mZ_of ?_); walk_at "i"; unfold g_least_round_Z
  refine oz_retE (oz_callBE (oz_oneE (oz_callFE (oz_oneE (oz_callE (c := "NoRide") ?_)))))
  walk_at "e"
  exact ⟨z_nd_no hw h hz hr, _, rfl, _, rfl, _, rfl, _, rfl, _, rfl, rfl⟩
theorem z_about_no (hw : Web w p ls) (h : WbOk p ls) (hz : lenD d ≤ 4000) (hr : rideD ls d = false) : m_about_Z_k21 [w, d] = some (.error "NoRide") := by
  unfold m_about_Z_k21; refine erz_of (mZ_of ?_); walk_at "i"; unfold g_about_Z_k21
  refine oz_retE (oz_callFE (oz_oneE (oz_callE (c := "NoRide") ?_)))
  walk_at "e"
  exact ⟨z_nr_no hw h hz hr, _, rfl, _, rfl, _, rfl, rfl⟩
theorem z_places_no (hw : Web w p ls) (h : WbOk p ls) (hz : lenD d ≤ 4000) (hr : rideD ls d = false) : m_places_of_Z_k21 [w, d] = some (.error "NoRide") := by
  unfold m_places_of_Z_k21; refine erz_of (mZ_of ?_); walk_at "i"; unfold g_places_of_Z_k21
  refine oz_retE (oz_callFE (oz_consE ?_))
  walk_at "e"
  refine oz_oneE (oz_callE (c := "NoRide") ?_)
  walk_at "e"
  exact ⟨z_nr_no hw h hz hr, _, rfl, _, rfl, _, rfl, _, rfl, rfl⟩
theorem z_about_ok (hw : Web w p ls) (h : WbOk p ls) (hd : IsRide d es) (hz : es.length ≤ 4000) (hr : rideB ls es = true) : Okz (m_about_Z_k21 [w, d]) := by
  unfold m_about_Z_k21; refine okz_of (mZ_of ?_); walk_at "i"; unfold g_about_Z_k21
  refine oz_ret (oz_callF (oz_one (oz_callK (z := lE es) ?_)))
  walk_at "e"
  refine ⟨z_nr_ok hw h hd hz hr, _, _, rfl, _, _, rfl, rfl, Ed.of x_faced_about ?_⟩
  exact ⟨_, _, rfl, _, rfl⟩
theorem z_places_ok (hw : Web w p ls) (h : WbOk p ls) (hd : IsRide d es) (hz : es.length ≤ 4000) (hr : rideB ls es = true) : Okz (m_places_of_Z_k21 [w, d]) := by
  obtain ⟨h1, h2, _⟩ := rideB_iff.mp hr
  unfold m_places_of_Z_k21; refine okz_of (mZ_of ?_); walk_at "i"; unfold g_places_of_Z_k21
  refine oz_ret (oz_callF (oz_cons ?_))
  walk_at "e"
  refine oz_one (oz_callK (z := lE es) ?_)
  walk_at "e"
  refine ⟨z_nr_ok hw h hd hz hr, _, _, rfl, _, _, rfl, _, _, rfl, rfl, Ed.of (x_places_along hw (by omega) h1 h2) ?_⟩
  exact ⟨_, _, rfl, _, rfl⟩
theorem z_least_ok (hw : Web w p ls) (h : WbOk p ls) (hd : IsRide d es) (hz : es.length ≤ 4000) (hr : roundB ls es = true) : Okz (m_least_round_Z [w, d]) := by
  have hne := (rideB_iff.mp (roundB_iff.mp hr).1).1
  unfold m_least_round_Z; refine okz_of (mZ_of ?_); walk_at "i"; unfold g_least_round_Z
  refine oz_ret (oz_callB (oz_one (oz_callF (oz_one (oz_callK (z := lE es) ?_)))))
  walk_at "e"
  refine ⟨z_nd_ok hw h hd hz hr, _, _, rfl, _, _, rfl, rfl, Ed.of (x_all_ways hz) ?_⟩
  refine ⟨_, _, rfl, _, _, rfl, ed_least ?_ fun m _ => ⟨_, _, rfl, _, rfl⟩⟩
  intro e
  have : es ∈ ways es := mem_ways.mpr ⟨0, List.length_pos_iff.mpr hne, .inl (by simp [rot])⟩
  rw [e] at this
  cases this
theorem z_begun_num (hw : Web w p ls) (h : WbOk p ls) (hd : IsRide d es) (hz : es.length ≤ 4000) (hr : roundB ls es = true) (hs : placeD es.length s = false) : m_begun_at_Z [w, d, s] = some (.error "NoNumber") := by
  unfold m_begun_at_Z; refine erz_of (mZ_of ?_); walk_at "i"; unfold g_begun_at_Z
  refine oz_seq (oz_set (oz_callK (z := lE es) ?_))
  walk_at "e"
  refine ⟨z_nd_ok hw h hd hz hr, _, _, rfl, _, rfl, oz_seqE (oz_if ?_)⟩
  walk_at "e"
  refine Ed.of (x_is_whole _) ?_
  walk_at "e"
  cases hd2 : wholeD s with
  | false =>
    refine split_t' rfl (split_t rfl (oz_raise ⟨_, rfl, ?_⟩))
    rfl
  | true =>
    obtain ⟨i, rfl, i0⟩ := whole_of hd2
    refine split_f' rfl ?_
    walk_at "e"
    refine ed_lenQ (sq_l _) ?_
    walk_at "e"
    rw [List.length_map]
    refine split_t ?_ (oz_raise ⟨_, rfl, ?_⟩)
    · simp [placeD] at hs ⊢; omega
    · rfl
theorem z_begun_ok (hw : Web w p ls) (h : WbOk p ls) (hd : IsRide d es) (hz : es.length ≤ 4000) (hr : roundB ls es = true) (hs : placeD es.length s = true) : Okz (m_begun_at_Z [w, d, s]) := by
  obtain ⟨i, rfl, i0, i1⟩ := place_of hs
  unfold m_begun_at_Z; refine okz_of (mZ_of ?_); walk_at "i"; unfold g_begun_at_Z
  refine oz_seq (oz_set (oz_callK (z := lE es) ?_))
  walk_at "e"
  refine ⟨z_nd_ok hw h hd hz hr, _, _, rfl, _, rfl, oz_seq (oz_if ?_)⟩
  walk_at "e"
  refine Ed.of (x_is_whole _) ?_
  walk_at "e"
  refine split_f' (by simp [wholeD, i0]) ?_
  walk_at "e"
  refine ed_lenQ (sq_l _) ?_
  walk_at "e"
  rw [List.length_map]
  refine split_f (by simpa using i1) (oz_S ?_)
  walk_at "e"
  refine oz_S ?_
  walk_at "e"
  show Ed (dSl (.list (es.map en)) _ _) _
  walk_at "e"
  show Ed (dSl (.list (es.map en)) _ _) _
  walk_at "e"
  rw [cut_from i0, cut_to i0]
  refine ed_addL (by simp; omega) ?_
  walk_at "e"
  exact ⟨_, rfl⟩
end
end Lw

set_option maxHeartbeats 4000000
namespace Lw
open PySem Fu
local macro_rules | `(tactic| walk_at "e1") => `(tactic| first
  | with_reducible refine eo_seq ?_ | (with_reducible refine then_nx' ?_; refine ⟨?_, ?_, ?_⟩; rotate_left; · (try dsimp only [List.set, List.length_cons, List.length_nil, List.cons_append, List.nil_append, Nat.zero_add, Nat.reduceAdd]); exact rfl) | with_reducible refine then_rt ?_ | with_reducible refine eo_if ?_ | with_reducible refine eo_ret ?_ | with_reducible refine eo_set ?_ | with_reducible refine eo_asg ?_ | with_reducible refine eo_drop ?_ | with_reducible refine eo_nx ?_ | with_reducible refine eo_par ?_ | with_reducible refine eo_own ?_ | with_reducible refine eo_retN ?_ | with_reducible refine eo_for ?_ | with_reducible refine eo_retO ?_
  | with_reducible refine ev_c ?_ | (with_reducible refine ev_var ?_; refine ⟨_, rfl, ?_⟩) | with_reducible refine ev_bin ?_ | with_reducible refine ev_un ?_ | with_reducible refine ev_nil ?_ | with_reducible refine ev_cons ?_
  | with_reducible refine ev_tup ?_ | with_reducible refine ev_lst ?_ | with_reducible refine ev_call ?_ | with_reducible refine ev_callF ?_ | with_reducible refine ev_isi ?_ | with_reducible refine ev_isi2 ?_ | with_reducible refine ev_andV ?_ | with_reducible refine ev_orV ?_ | with_reducible refine ev_notV ?_
  | with_reducible refine ev_B ?_ | with_reducible refine ev_and ?_ | with_reducible refine ev_or ?_ | with_reducible refine ev_not ?_ | with_reducible refine ev_yes ?_ | with_reducible refine ev_if ?_ | with_reducible refine ev_no ?_ | with_reducible refine ev_so ?_ | with_reducible refine ev_sl ?_ | with_reducible refine ev_items ?_
  | (with_reducible refine ev_ixO ?_; refine ⟨_, _, rfl, rfl, ?_⟩) | (with_reducible refine ev_varO ?_; refine ⟨_, _, rfl, rfl, ?_⟩) | (with_reducible refine ev_lenO ?_; refine ⟨_, _, rfl, rfl, ?_⟩) | (with_reducible refine ev_scrSl ?_; refine ⟨_, rfl, ?_⟩) | (with_reducible refine ev_scrLen ?_; refine ⟨_, rfl, ?_⟩) | (with_reducible refine ev_callScr ?_; refine ⟨_, rfl, ?_⟩) | (with_reducible refine ev_OL ?_; refine ⟨_, _, rfl, rfl, ?_⟩) | with_reducible refine ev_OR ?_ | with_reducible refine ev_rep ?_ | with_reducible refine ev_listRng1 ?_ | with_reducible refine eo_setO ?_
  | with_reducible refine es_name ?_ | with_reducible refine es_tup2 ?_ | with_reducible refine es_tup3 ?_
  | with_reducible refine ed_addI ?_ | with_reducible refine ed_subI ?_ | with_reducible refine ed_cmp ?_ | with_reducible refine ed_eqI ?_ | with_reducible refine ed_neI ?_ | with_reducible refine ed_slT ?_ | with_reducible refine ed_slL ?_ | with_reducible refine ed_lenT ?_ | with_reducible refine ed_lenL ?_ | with_reducible refine ed_lenS ?_ | with_reducible refine ed_inS ?_ | with_reducible refine ed_itT ?_ | with_reducible refine ed_itL ?_ | with_reducible refine ed_tupL ?_ | with_reducible refine ed_tupT ?_ | with_reducible refine ed_listL ?_ | with_reducible refine ed_listT ?_ | with_reducible refine ed_neg ?_ | with_reducible refine ed_max ?_ | with_reducible refine ed_min ?_ | with_reducible refine ed_intB ?_
  | with_reducible refine ev_rng1 ?_ | with_reducible refine ev_rng2 ?_)
local macro_rules | `(tactic| walk_at "sd") => `(tactic| first | rfl | assumption | (simp only [decide_eq_true_eq, decide_eq_false_iff_not, Bool.not_eq_true', Bool.not_eq_false', Bool.and_eq_true, Bool.or_eq_true, List.length_map, List.length_cons, List.length_nil, List.length_append, List.length_range] at *; omega))
local macro_rules | `(tactic| walk_at "e2") => `(tactic| first
  | walk_at "e1" | with_reducible refine ⟨_, rfl, ?_⟩ | with_reducible refine ⟨_, _, rfl, ?_⟩
  | with_reducible refine And.intro (Eq.refl (List.length _)) ?_ | with_reducible refine And.intro (Nat.le_of_ble_eq_true (n := List.length _) rfl) ?_
  | with_reducible refine And.intro (Eq.refl (_ : Sx)) (?_ : Ed _ _)
  | ((with_reducible refine And.intro ?_ (And.intro ?_ (?_ : Ev _ _))); (· rfl); (· rfl))
  | ((with_reducible refine ed_ixT ?_ ?_ ?_); (· decide); (· rfl)) | ((with_reducible refine ed_ixL ?_ ?_ ?_); (· decide); (· rfl)) | ((with_reducible refine ed_at ?_ ?_ ?_); (· decide); (· rfl))
  | ((with_reducible refine ed_modI ?_ ?_); (· first | decide | omega))
  | with_reducible exact gives_nx | ((with_reducible refine gives_rt ?_); (· rfl)) | ((with_reducible refine And.intro ?_ ?_); (· exact rfl); (· with_reducible exact Eq.refl (_ : Sx))))
local macro_rules | `(tactic| walk_at "e") => `(tactic| repeat walk_at "e2")
/-- begin a def's spec -/
local macro_rules | `(tactic| walk_at "i") => `(tactic| simp only [initS, List.map_cons, List.map_nil, List.length_cons, List.length_nil, Nat.reduceAdd, Nat.reduceSub, List.replicate, List.cons_append, List.nil_append])
/-- a known truth decides -/
local macro_rules | `(tactic| walk_at "t") => `(tactic| first | ((with_reducible refine split_t ?_ ?_); (· walk_at "sd")) | ((with_reducible refine split_t' ?_ ?_); (· walk_at "sd")))
local macro_rules | `(tactic| walk_at "f") => `(tactic| first | ((with_reducible refine split_f ?_ ?_); (· walk_at "sd")) | ((with_reducible refine split_f' ?_ ?_); (· walk_at "sd")))
/-- all that is seen in a look -/
local macro_rules | `(tactic| walk_at "v") => `(tactic| (rw [sealAll_mk (by (simp only [List.set_cons_zero, List.set_cons_succ, List.map_cons, List.map_nil, sealS_none, sealS_dat, sealS_scr, sealS_own, List.getElem?_cons_zero, List.getElem?_cons_succ, sealC_lst]; rfl)) (by (simp only [List.set_cons_zero, List.set_cons_succ, List.map_cons, List.map_nil]; rfl))]))
open Rl
theorem word21_nr : m__law_word_k21 "NoRide" = some (.str "NoRide") := isS_of (by decide +kernel)
theorem word21_nn : m__law_word_k21 "NoNumber" = some (.str "NoNumber") := isS_of (by decide +kernel)
def doorQ (k : Int) (w d s : D) : Option (Except Str D) := if k = 0 then m_begun_at_Z [w, d, s] else if k = 1 then m_least_round_Z [w, d] else if k = 2 then m_about_Z_k21 [w, d] else m_places_of_Z_k21 [w, d]
theorem x_asked21 {d : Int} {w a b : D} {r : Except Str D} (e : doorQ d w a b = some r) (hr : ∀ c, r = .error c → c ∈ (["NoRide", "NoNumber"] : List Str)) : m__law_asked_k21 [.int d, w, a, b] = some (.str (told r)) := by
  unfold m__law_asked_k21; refine mF_of ?_; walk_at "i"; unfold g__law_asked_k21
  walk_at "e"
  refine eo_try ?_
  have fin : ∀ x6, (∀ z, r = .ok z → Then (qRet (gIf (gB (gIsN 4)) (gC (.str "none")) (gCallX 4 m__law_word_k21))) (Gives (.str (told r))) (.nx ⟨[some (.dat (.int d)), some (.dat w), some (.dat a), some (.dat b), some (.dat .none), x6], []⟩)) ∧
      ∀ k, r = .error k → Then (qRet (gIf (gB (gIsN 4)) (gC (.str "none")) (gCallX 4 m__law_word_k21))) (Gives (.str (told r))) (.nx ⟨[some (.dat (.int d)), some (.dat w), some (.dat a), some (.dat b), some (.exc k), none], []⟩) := by
    intro x6
    refine ⟨fun z ez => ?_, fun k ek => ?_⟩
    · subst ez
      show Eo (qRet _ _) _
      refine eo_ret (ev_if (ev_B (ev_isN0 rfl ⟨_, rfl, ?_⟩)))
      refine split_t rfl ?_
      walk_at "e"
    · subst ek
      show Eo (qRet _ _) _
      refine eo_ret (ev_if (ev_B (ev_isNx rfl ⟨_, rfl, ?_⟩)))
      refine split_f rfl ?_
      have hk := hr k rfl
      have : m__law_word_k21 k = some (.str k) := by
        simp only [List.mem_cons, List.not_mem_nil, or_false] at hk
        rcases hk with rfl | rfl
        · exact word21_nr
        · exact word21_nn
      exact ev_callX rfl this rfl
  obtain ⟨f1, f2⟩ := fin none
  unfold doorQ at e
  refine oz_if ?_
  walk_at "e"
  by_cases h0 : d = 0
  · rw [if_pos h0] at e
    refine split_t (by simp [h0]) (oz_leaf ?_)
    walk_at "e"
    exact ⟨r, e, fun z ez => .inl ⟨_, rfl, f1 z ez⟩, fun k ek => .inr ⟨_, _, rfl, hr k ek, Nat.le_of_ble_eq_true rfl, f2 k ek⟩⟩
  rw [if_neg h0] at e
  refine split_f (by simpa using h0) ?_
  refine oz_if ?_
  walk_at "e"
  by_cases h1 : d = 1
  · rw [if_pos h1] at e
    refine split_t (by simp [h1]) (oz_leaf ?_)
    walk_at "e"
    exact ⟨r, e, fun z ez => .inl ⟨_, rfl, f1 z ez⟩, fun k ek => .inr ⟨_, _, rfl, hr k ek, Nat.le_of_ble_eq_true rfl, f2 k ek⟩⟩
  rw [if_neg h1] at e
  refine split_f (by simpa using h1) ?_
  refine oz_if ?_
  walk_at "e"
  by_cases h2 : d = 2
  · rw [if_pos h2] at e
    refine split_t (by simp [h2]) (oz_leaf ?_)
    walk_at "e"
    exact ⟨r, e, fun z ez => .inl ⟨_, rfl, f1 z ez⟩, fun k ek => .inr ⟨_, _, rfl, hr k ek, Nat.le_of_ble_eq_true rfl, f2 k ek⟩⟩
  rw [if_neg h2] at e
  refine split_f (by simpa using h2) ?_
  refine (oz_leaf ?_)
  walk_at "e"
  exact ⟨r, e, fun z ez => .inl ⟨_, rfl, f1 z ez⟩, fun k ek => .inr ⟨_, _, rfl, hr k ek, Nat.le_of_ble_eq_true rfl, f2 k ek⟩⟩
def dueOf (b1 b2 ok : Bool) : List D := match b1, b2, ok with
  | false, _, _ => [.str "NoRide", .str "NoRide", .str "NoRide", .str "NoRide"]
  | true, false, _ => [.str "NoRide", .str "NoRide", .str "none", .str "none"]
  | true, true, false => [.str "NoNumber", .str "none", .str "none", .str "none"]
  | true, true, true => [.str "none", .str "none", .str "none", .str "none"]
theorem ask_no {k : Int} {w d s : D} {c : Str} (e : doorQ k w d s = some (.error c)) (hc : c ∈ (["NoRide", "NoNumber"] : List Str)) : m__law_asked_k21 [.int k, w, d, s] = some (.str c) := x_asked21 e fun c' e' => by cases e'; exact hc
theorem ask_ok {k : Int} {w d s : D} (e : Okz (doorQ k w d s)) : m__law_asked_k21 [.int k, w, d, s] = some (.str "none") := by
  obtain ⟨z, e⟩ := e
  exact x_asked21 e (fun c' e' => nomatch e')
theorem four {P : Int → Prop} (h0 : P 0) (h1 : P 1) (h2 : P 2) (h3 : P 3) : ∀ k : Int, 0 ≤ k → k < 4 → P k := fun k a b => by
  have : k = 0 ∨ k = 1 ∨ k = 2 ∨ k = 3 := by omega
  rcases this with rfl | rfl | rfl | rfl <;> assumption
structure Thing (w d : D) (b1 b2 : Bool) (n : Nat) : Prop where
  l1 : m__law_is_ride [w, d] = some (.bool b1)
  l2 : b1 = true → m__law_is_round [w, d] = some (.bool b2)
  ll : b1 = true → b2 = true → ∃ xs, Sq d xs ∧ xs.length = n
  sh : ∃ s, dRepr [d] = some (.str s)
  q : ∀ s (k : Int), 0 ≤ k → k < 4 → m__law_asked_k21 [.int k, w, d, s] = some ((dueOf b1 b2 (placeD n s)).getD k.toNat .none)
section
variable {w d : D} {p : Int} {ls : List Ln} {es : List (Int × Int)}
theorem q_none (hw : Web w p ls) (h : WbOk p ls) (hz : lenD d ≤ 4000) (hr : rideD ls d = false) (hr2 : roundD ls d = false) (b2 ok : Bool) : ∀ s (k : Int), 0 ≤ k → k < 4 → m__law_asked_k21 [.int k, w, d, s] = some ((dueOf false b2 ok).getD k.toNat .none) := fun s =>
  four (ask_no (c := "NoRide") (z_begun_no hw h hz hr2) (by simp)) (ask_no (c := "NoRide") (z_least_no hw h hz hr2) (by simp)) (ask_no (c := "NoRide") (z_about_no hw h hz hr) (by simp)) (ask_no (c := "NoRide") (z_places_no hw h hz hr) (by simp))
theorem round_ride {ls : List Ln} {es : List (Int × Int)} (h : rideB ls es = false) : roundB ls es = false := by
  unfold roundB; rw [h]; rfl
theorem thing_R (hw : Web w p ls) (h : WbOk p ls) (hd : IsRide d es) (hz : es.length ≤ 100) (hs : ∀ e ∈ es, e.1.natAbs < 10 ^ 12 ∧ e.2.natAbs < 10 ^ 12) : Thing w d (rideB ls es) (roundB ls es) es.length := by
  have hl : lenD d ≤ 4000 := by
    obtain ⟨ps, s, rfl, hp⟩ := id hd
    rw [lenD_of s]
    simp only [List.length_map] at hz ⊢
    omega
  refine ⟨x__law_is_ride hw h hd (by omega), fun _ => x__law_is_round hw h hd (by omega), fun _ _ => ?_, ?_, ?_⟩
  · obtain ⟨ps, s, rfl, hp⟩ := hd
    exact ⟨_, s, by simp⟩
  · have sh := shw_ride hd hs
    obtain ⟨ps, s, _⟩ := id hd
    obtain ⟨z, e, q⟩ := ed_repr (Q := fun z => ∃ t, z = .str t) s sh ⟨_, rfl⟩
    obtain ⟨t, rfl⟩ := q
    exact ⟨t, e⟩
  · intro s
    cases hb : rideB ls es with
    | false =>
      rw [round_ride hb]
      exact q_none hw h hl (by rw [rideD_of hd]; exact hb) (by rw [roundD_of hd]; exact round_ride hb) _ _ s
    | true =>
      cases hb2 : roundB ls es with
      | false =>
        have h2 : roundD ls d = false := by rw [roundD_of hd]; exact hb2
        exact four (ask_no (c := "NoRide") (z_begun_no hw h hl h2) (by simp)) (ask_no (c := "NoRide") (z_least_no hw h hl h2) (by simp)) (ask_ok (z_about_ok hw h hd (by omega) hb)) (ask_ok (z_places_ok hw h hd (by omega) hb))
      | true =>
        cases hp : placeD es.length s with
        | true => exact four (ask_ok (z_begun_ok hw h hd (by omega) hb2 hp)) (ask_ok (z_least_ok hw h hd (by omega) hb2)) (ask_ok (z_about_ok hw h hd (by omega) hb)) (ask_ok (z_places_ok hw h hd (by omega) hb))
        | false => exact four (ask_no (c := "NoNumber") (z_begun_num hw h hd (by omega) hb2 hp) (by simp)) (ask_ok (z_least_ok hw h hd (by omega) hb2)) (ask_ok (z_about_ok hw h hd (by omega) hb)) (ask_ok (z_places_ok hw h hd (by omega) hb))
theorem thing_odd (hw : Web w p ls) (h : WbOk p ls) (hz : lenD d ≤ 4000) (hr : rideD ls d = false) (hr2 : roundD ls d = false) (l1 : m__law_is_ride [w, d] = some (.bool false)) (sh : ∃ s, dRepr [d] = some (.str s)) (b2 : Bool) (n : Nat) : Thing w d false b2 n :=
  ⟨l1, (fun z => nomatch z), (fun z => nomatch z), sh, fun s => q_none hw h hz hr hr2 b2 _ s⟩
theorem law_noseq (hd : (isT "list" d || isT "tuple" d) = false) : m__law_is_ride [w, d] = some (.bool false) := by
  unfold m__law_is_ride; refine mF_of ?_; walk_at "i"; unfold g__law_is_ride
  walk_at "e"
  rw [hd]
  walk_at "e"
  refine split_t' rfl ?_
  walk_at "e"
  refine split_t rfl ?_
  walk_at "e"
theorem law_triple (hw : Web w p ls) : m__law_is_ride [w, .list [.tuple [.int 0, .int 0, .int 0]]] = some (.bool false) := by
  unfold m__law_is_ride; refine mF_of ?_; walk_at "i"; unfold g__law_is_ride
  walk_at "e"
  refine split_f' rfl ?_
  walk_at "e"
  refine split_f rfl ?_
  walk_at "e"
  refine ev_lc (fun _ => true) (fun z => z) ?_
  walk_at "e"
  refine ⟨fun z hz => ?_, ?_⟩
  · rw [List.mem_singleton.mp hz]
    walk_at "e"
    refine Ed.of (x__law_is_end hw (.tuple [.int 0, .int 0, .int 0]) ⟨by decide +kernel, by decide +kernel⟩) ?_
    walk_at "e"
    exact ⟨rfl, rfl, fun _ => ev_var ⟨_, rfl, rfl, rfl⟩⟩
  · walk_at "e"
    refine ed_ne_nil (n := 1) (fun x hx => ?_) ?_
    · simp only [List.filter_cons, List.filter_nil, if_true, List.map_cons, List.map_nil, List.mem_singleton] at hx
      subst hx
      exact ⟨by decide +kernel, by decide +kernel⟩
    walk_at "e"
    refine split_t rfl ?_
    walk_at "e"
end
end Lw

set_option maxHeartbeats 16000000
namespace Lw.k21
open PySem PySem.Spec PyProof.Rows L2 RZ Fu Lw
def topS (i : Nat) : Stmt := PySem.Challenge.pw_changeride_k21_rides_refused.main.body.getD i (.Pass ⟨0, 0, 0, 0⟩)
abbrev s__law_spring : Stmt := topS 36
theorem sc__law_spring : FnScope ["script", "figures", "stir", "cell"] ["script"] (defScope s__law_spring) := ⟨rfl, rfl, rfl, by decide +kernel, rfl, by decide +kernel, by decide +kernel⟩
abbrev s__law_draw : Stmt := topS 37
theorem sc__law_draw : FnScope ["spring", "many", "found", "stir"] ["spring", "many"] (defScope s__law_draw) := ⟨rfl, rfl, rfl, by decide +kernel, rfl, by decide +kernel, by decide +kernel⟩
abbrev s__law_circle : Stmt := topS 44
theorem sc__law_circle : FnScope ["spring", "many", "places", "first", "spots", "signs", "k", "some", "left", "lines", "ends", "number", "side", "pair", "sign"] ["spring", "many", "places", "first"] (defScope s__law_circle) := ⟨rfl, rfl, rfl, by decide +kernel, rfl, by decide +kernel, by decide +kernel⟩
abbrev s__law_planted : Stmt := topS 45
theorem sc__law_planted : FnScope ["spring", "most", "places", "lines", "ends", "more", "k"] ["spring", "most"] (defScope s__law_planted) := ⟨rfl, rfl, rfl, by decide +kernel, rfl, by decide +kernel, by decide +kernel⟩
abbrev s__law_is_end : Stmt := topS 41
theorem sc__law_is_end : FnScope ["web", "thing", "number"] ["web", "thing"] (defScope s__law_is_end) := ⟨rfl, rfl, rfl, by decide +kernel, rfl, by decide +kernel, by decide +kernel⟩
abbrev s__law_at : Stmt := topS 38
theorem sc__law_at : FnScope ["web", "end"] ["web", "end"] (defScope s__law_at) := ⟨rfl, rfl, rfl, by decide +kernel, rfl, by decide +kernel, by decide +kernel⟩
abbrev s__law_other : Stmt := topS 39
theorem sc__law_other : FnScope ["end"] ["end"] (defScope s__law_other) := ⟨rfl, rfl, rfl, by decide +kernel, rfl, by decide +kernel, by decide +kernel⟩
abbrev s__law_goes : Stmt := topS 40
theorem sc__law_goes : FnScope ["web", "end", "later"] ["web", "end", "later"] (defScope s__law_goes) := ⟨rfl, rfl, rfl, by decide +kernel, rfl, by decide +kernel, by decide +kernel⟩
abbrev s__law_is_ride : Stmt := topS 42
theorem sc__law_is_ride : FnScope ["web", "thing", "lines", "end", "line", "k"] ["web", "thing"] (defScope s__law_is_ride) := ⟨rfl, rfl, rfl, by decide +kernel, rfl, by decide +kernel, by decide +kernel⟩
abbrev s__law_is_round : Stmt := topS 43
theorem sc__law_is_round : FnScope ["web", "thing"] ["web", "thing"] (defScope s__law_is_round) := ⟨rfl, rfl, rfl, by decide +kernel, rfl, by decide +kernel, by decide +kernel⟩
abbrev s__law_word : Stmt := topS 46
theorem sc__law_word : FnScope ["caught", "some"] ["caught"] (defScope s__law_word) := ⟨rfl, rfl, rfl, by decide +kernel, rfl, by decide +kernel, by decide +kernel⟩
abbrev s_place_of : Stmt := topS 19
theorem sc_place_of : FnScope ["web", "end"] ["web", "end"] (defScope s_place_of) := ⟨rfl, rfl, rfl, by decide +kernel, rfl, by decide +kernel, by decide +kernel⟩
abbrev s_company_of : Stmt := topS 20
theorem sc_company_of : FnScope ["web", "end"] ["web", "end"] (defScope s_company_of) := ⟨rfl, rfl, rfl, by decide +kernel, rfl, by decide +kernel, by decide +kernel⟩
abbrev s_far_end : Stmt := topS 22
theorem sc_far_end : FnScope ["end"] ["end"] (defScope s_far_end) := ⟨rfl, rfl, rfl, by decide +kernel, rfl, by decide +kernel, by decide +kernel⟩
abbrev s_can_go_on : Stmt := topS 23
theorem sc_can_go_on : FnScope ["web", "end", "later"] ["web", "end", "later"] (defScope s_can_go_on) := ⟨rfl, rfl, rfl, by decide +kernel, rfl, by decide +kernel, by decide +kernel⟩
abbrev s_is_row : Stmt := topS 17
theorem sc_is_row : FnScope ["thing", "size"] ["thing", "size"] (defScope s_is_row) := ⟨rfl, rfl, rfl, by decide +kernel, rfl, by decide +kernel, by decide +kernel⟩
abbrev s_is_whole : Stmt := topS 16
theorem sc_is_whole : FnScope ["thing"] ["thing"] (defScope s_is_whole) := ⟨rfl, rfl, rfl, by decide +kernel, rfl, by decide +kernel, by decide +kernel⟩
abbrev s_is_end : Stmt := topS 18
theorem sc_is_end : FnScope ["web", "thing"] ["web", "thing"] (defScope s_is_end) := ⟨rfl, rfl, rfl, by decide +kernel, rfl, by decide +kernel, by decide +kernel⟩
abbrev s_ride_is : Stmt := topS 24
theorem sc_ride_is : FnScope ["web", "ride", "end", "later"] ["web", "ride"] (defScope s_ride_is) := ⟨rfl, rfl, rfl, by decide +kernel, rfl, by decide +kernel, by decide +kernel⟩
abbrev s_round_is : Stmt := topS 25
theorem sc_round_is : FnScope ["web", "ride"] ["web", "ride"] (defScope s_round_is) := ⟨rfl, rfl, rfl, by decide +kernel, rfl, by decide +kernel, by decide +kernel⟩
abbrev s_need_round : Stmt := topS 27
theorem sc_need_round : FnScope ["web", "ride", "end"] ["web", "ride"] (defScope s_need_round) := ⟨rfl, rfl, rfl, by decide +kernel, rfl, by decide +kernel, by decide +kernel⟩
abbrev s_begun_at : Stmt := topS 32
theorem sc_begun_at : FnScope ["web", "ride", "number", "ends"] ["web", "ride", "number"] (defScope s_begun_at) := ⟨rfl, rfl, rfl, by decide +kernel, rfl, by decide +kernel, by decide +kernel⟩
abbrev s_faced_about : Stmt := topS 30
theorem sc_faced_about : FnScope ["ends", "end"] ["ends"] (defScope s_faced_about) := ⟨rfl, rfl, rfl, by decide +kernel, rfl, by decide +kernel, by decide +kernel⟩
abbrev s_all_ways : Stmt := topS 33
theorem sc_all_ways : FnScope ["ends", "found", "one", "at"] ["ends"] (defScope s_all_ways) := ⟨rfl, rfl, rfl, by decide +kernel, rfl, by decide +kernel, by decide +kernel⟩
abbrev s_least_round : Stmt := topS 34
theorem sc_least_round : FnScope ["web", "ride"] ["web", "ride"] (defScope s_least_round) := ⟨rfl, rfl, rfl, by decide +kernel, rfl, by decide +kernel, by decide +kernel⟩
abbrev s_need_ride : Stmt := topS 26
theorem sc_need_ride : FnScope ["web", "ride", "end"] ["web", "ride"] (defScope s_need_ride) := ⟨rfl, rfl, rfl, by decide +kernel, rfl, by decide +kernel, by decide +kernel⟩
abbrev s_about : Stmt := topS 31
theorem sc_about : FnScope ["web", "ride"] ["web", "ride"] (defScope s_about) := ⟨rfl, rfl, rfl, by decide +kernel, rfl, by decide +kernel, by decide +kernel⟩
abbrev s_places_along : Stmt := topS 28
theorem sc_places_along : FnScope ["web", "ends", "end"] ["web", "ends"] (defScope s_places_along) := ⟨rfl, rfl, rfl, by decide +kernel, rfl, by decide +kernel, by decide +kernel⟩
abbrev s_places_of : Stmt := topS 29
theorem sc_places_of : FnScope ["web", "ride"] ["web", "ride"] (defScope s_places_of) := ⟨rfl, rfl, rfl, by decide +kernel, rfl, by decide +kernel, by decide +kernel⟩
abbrev s__law_asked : Stmt := topS 47
theorem sc__law_asked : FnScope ["ask", "web", "thing", "number", "caught", "e"] ["ask", "web", "thing", "number"] (defScope s__law_asked) := ⟨rfl, rfl, rfl, by decide +kernel, rfl, by decide +kernel, by decide +kernel⟩
abbrev s_law : Stmt := topS 48
theorem sc_law : FnScope ["script", "spring", "turn", "web", "ends", "many", "at", "numbers", "number", "cut", "odd", "thing", "spot", "stays", "due", "ask"] ["script"] (defScope s_law) := ⟨rfl, rfl, rfl, by decide +kernel, rfl, by decide +kernel, by decide +kernel⟩
def g_law : Sx → Option Out :=
  (qSeq (qOwn 1 (gCallScr 0 m__law_spring)) (qSeq (qFor (gRng1 (gCons (gBin dAdd (gC (.int 3)) (gCall dMin2 (gCons (gScrLen 0) (gCons (gC (.int 7)) gNil)))) gNil)) (sName 2) (qSeq (qAsg (sTup 2 (sCons (sName 3) (sCons (sName 4) sNil))) (gIO 1 1 m__law_planted (gCons (gC (.int 20)) gNil))) (qSeq (qSet 5 (gCall dLen (gCons (gVar 4) gNil))) (qSeq (qSet 6 (gIO 1 1 m__law_draw_k15 (gCons (gVar 5) gNil))) (qSeq (qSet 7 (gLst (gCons (gUn dNeg (gC (.int 1))) (gCons (gVar 5) (gCons (gBin dAdd (gVar 5) (gC (.int 5))) (gCons (gBin dPow (gC (.int 10)) (gC (.int 29))) (gCons (gC (.bool true)) (gCons (gC (.bool false)) (gCons (gC .none) (gCons (gC (.str "0")) (gCons (gLst (gCons (gC (.int 0)) gNil)) (gCons (gTup (gCons (gC (.int 0)) gNil)) gNil)))))))))))) (qSeq (qSet 8 (gBin dIx (gVar 7) (gIO 1 1 m__law_draw_k15 (gCons (gC (.int 10)) gNil)))) (qSeq (qSet 9 (gSl (gBin dAdd (gVar 4) (gVar 4)) (gSo (gVar 6)) (gSo (gBin dAdd (gBin dAdd (gVar 6) (gC (.int 1))) (gIO 1 1 m__law_draw_k15 (gCons (gVar 5) gNil)))))) (qSeq (qSet 10 (gBin dIx (gLst (gCons (gC .none) (gCons (gLst gNil) (gCons (gTup gNil) (gCons (gC (.int 5)) (gCons (gC (.str "0+")) (gCons (gBin dAdd (gUn dRevL (gVar 4)) (gLst (gCons (gTup (gCons (gC (.int 0)) (gCons (gC (.int 2)) gNil))) gNil))) (gCons (gBin dAdd (gVar 4) (gSl (gVar 4) gNo (gSo (gC (.int 1))))) (gCons (gLst (gCons (gTup (gCons (gC (.int 0)) (gCons (gC (.int 0)) (gCons (gC (.int 0)) gNil)))) gNil)) (gCons gDict0 gNil)))))))))) (gIO 1 1 m__law_draw_k15 (gCons (gC (.int 9)) gNil)))) (qFor (gItems (gLst (gCons (gTup (gCons (gVar 4) (gCons (gVar 6) gNil))) (gCons (gTup (gCons (gVar 4) (gCons (gVar 8) gNil))) (gCons (gTup (gCons (gVar 9) (gCons (gC (.int 0)) gNil))) (gCons (gTup (gCons (gVar 9) (gCons (gVar 8) gNil))) (gCons (gTup (gCons (gVar 10) (gCons (gC (.int 0)) gNil))) (gCons (gTup (gCons (gVar 10) (gCons (gVar 8) gNil))) gNil)))))))) (sTup 2 (sCons (sName 11) (sCons (sName 12) sNil))) (qSeq (qSet 13 (gCall dRepr (gCons (gVar 11) gNil))) (qSeq (qSet 14 (gBin dMul (gLst (gCons (gC (.str "none")) gNil)) (gC (.int 4)))) (qSeq (qIf (gNot (gB (gCallF 2 m__law_is_ride (gCons (gVar 3) (gCons (gVar 11) gNil))))) (qSet 14 (gBin dMul (gLst (gCons (gC (.str "NoRide")) gNil)) (gC (.int 4)))) (qIf (gNot (gB (gCallF 2 m__law_is_round (gCons (gVar 3) (gCons (gVar 11) gNil))))) (qSet 14 (gLst (gCons (gC (.str "NoRide")) (gCons (gC (.str "NoRide")) (gCons (gC (.str "none")) (gCons (gC (.str "none")) gNil)))))) (qIf (gOr (gB (gIsi "bool" (gVar 12))) (gOr (gNot (gB (gIsi "int" (gVar 12)))) (gNot (gB (gChain dLe dLt (gC (.int 0)) (gVar 12) (gCall dLen (gCons (gVar 11) gNil))))))) (qSet 14 (gLst (gCons (gC (.str "NoNumber")) (gCons (gC (.str "none")) (gCons (gC (.str "none")) (gCons (gC (.str "none")) gNil)))))) qNx))) (qIf (gOr (gB (gBin dNe (gLc (gRng1 (gCons (gC (.int 4)) gNil)) (sName 15) gYes (gCallF 4 m__law_asked_k21 (gCons (gVar 15) (gCons (gVar 3) (gCons (gVar 11) (gCons (gVar 12) gNil))))) [15]) (gVar 14))) (gB (gBin dNe (gCall dRepr (gCons (gVar 11) gNil)) (gVar 13)))) (qRet (gC (.bool false))) qNx))))))))))))) (qRet (gC (.bool true)))))
structure Tx (K : PySem.W.Frag) (mg : Str → Option Value) : Prop where
  z_ValueError : mg "ValueError" = none
  z_abs : mg "abs" = none
  z_all : mg "all" = none
  z_bool : mg "bool" = none
  z_int : mg "int" = none
  z_isinstance : mg "isinstance" = none
  z_len : mg "len" = none
  z_list : mg "list" = none
  z_min : mg "min" = none
  z_range : mg "range" = none
  z_repr : mg "repr" = none
  z_set : mg "set" = none
  z_tuple : mg "tuple" = none
  z_zip : mg "zip" = none
  c_SIDES : ∃ t, mg "SIDES" = some (.int 2 t)
  d__law_spring : DefAt K mg "_law_spring" s__law_spring ["script"]
  d__law_draw : DefAt K mg "_law_draw" s__law_draw ["spring", "many"]
  d__law_circle : DefAt K mg "_law_circle" s__law_circle ["spring", "many", "places", "first"]
  d__law_planted : DefAt K mg "_law_planted" s__law_planted ["spring", "most"]
  d__law_is_end : DefAt K mg "_law_is_end" s__law_is_end ["web", "thing"]
  d__law_at : DefAt K mg "_law_at" s__law_at ["web", "end"]
  d__law_other : DefAt K mg "_law_other" s__law_other ["end"]
  d__law_goes : DefAt K mg "_law_goes" s__law_goes ["web", "end", "later"]
  d__law_is_ride : DefAt K mg "_law_is_ride" s__law_is_ride ["web", "thing"]
  d__law_is_round : DefAt K mg "_law_is_round" s__law_is_round ["web", "thing"]
  d__law_word : DefAt K mg "_law_word" s__law_word ["caught"]
  d_place_of : DefAt K mg "place_of" s_place_of ["web", "end"]
  d_company_of : DefAt K mg "company_of" s_company_of ["web", "end"]
  d_far_end : DefAt K mg "far_end" s_far_end ["end"]
  d_can_go_on : DefAt K mg "can_go_on" s_can_go_on ["web", "end", "later"]
  d_is_row : DefAt K mg "is_row" s_is_row ["thing", "size"]
  d_is_whole : DefAt K mg "is_whole" s_is_whole ["thing"]
  d_is_end : DefAt K mg "is_end" s_is_end ["web", "thing"]
  d_ride_is : DefAt K mg "ride_is" s_ride_is ["web", "ride"]
  d_round_is : DefAt K mg "round_is" s_round_is ["web", "ride"]
  d_need_round : DefAt K mg "need_round" s_need_round ["web", "ride"]
  d_begun_at : DefAt K mg "begun_at" s_begun_at ["web", "ride", "number"]
  d_faced_about : DefAt K mg "faced_about" s_faced_about ["ends"]
  d_all_ways : DefAt K mg "all_ways" s_all_ways ["ends"]
  d_least_round : DefAt K mg "least_round" s_least_round ["web", "ride"]
  d_need_ride : DefAt K mg "need_ride" s_need_ride ["web", "ride"]
  d_about : DefAt K mg "about" s_about ["web", "ride"]
  d_places_along : DefAt K mg "places_along" s_places_along ["web", "ends"]
  d_places_of : DefAt K mg "places_of" s_places_of ["web", "ride"]
  d__law_asked : DefAt K mg "_law_asked" s__law_asked ["ask", "web", "thing", "number"]
  d_law : DefAt K mg "law" s_law ["script"]
  x_NoNumber : ExcT K mg "NoNumber"
  x_NoRide : ExcT K mg "NoRide"
  i_NoCompany : LookT K mg "NoCompany" ["NoRide", "NoNumber"] fun c => decide (c = "NoCompany")
  i_NoEnd : LookT K mg "NoEnd" ["NoRide", "NoNumber"] fun c => decide (c = "NoEnd")
  i_NoForm : LookT K mg "NoForm" ["NoRide", "NoNumber"] fun c => decide (c = "NoForm")
  i_NoLine : LookT K mg "NoLine" ["NoRide", "NoNumber"] fun c => decide (c = "NoLine")
  i_NoNumber : LookT K mg "NoNumber" ["NoRide", "NoNumber"] fun c => decide (c = "NoNumber")
  i_NoPlace : LookT K mg "NoPlace" ["NoRide", "NoNumber"] fun c => decide (c = "NoPlace")
  i_NoRide : LookT K mg "NoRide" ["NoRide", "NoNumber"] fun c => decide (c = "NoRide")
  i_NoText : LookT K mg "NoText" ["NoRide", "NoNumber"] fun c => decide (c = "NoText")
  i_NoTurning : LookT K mg "NoTurning" ["NoRide", "NoNumber"] fun c => decide (c = "NoTurning")
  i_NoWeb : LookT K mg "NoWeb" ["NoRide", "NoNumber"] fun c => decide (c = "NoWeb")
  i_NoneYet : LookT K mg "NoneYet" ["NoRide", "NoNumber"] fun c => decide (c = "NoneYet")
  i_TooMany : LookT K mg "TooMany" ["NoRide", "NoNumber"] fun c => decide (c = "TooMany")
  b_ValueError : ∀ c ∈ (["NoRide", "NoNumber"] : List Str), ExcIs K c (.type "ValueError") true
  t_RideError : TryT K mg "RideError" ["NoRide", "NoNumber"]
  xc : ∀ c ∈ (["NoRide", "NoNumber"] : List Str), ∀ D, ClsD K c D → ExcC K D
section
variable {P : Program} {w : World} {K : PySem.W.Frag} {mg : Str → Option Value} {base : Heap}
theorem has__law_spring (T : Tx K mg) : Has P w K mg base "_law_spring" 1 ["script"] (spScrN K m__law_spring) := has_scrN T.d__law_spring sc__law_spring (by rfl) (by decide) fun f cdv A outer s H E hr =>
  (ss_cons (s_set 1 sc__law_spring.nd e_int) (ss_cons (s_set 2 sc__law_spring.nd e_int) (ss_cons (s_for PassesOwn.never (i_any (e_scrSl 0 o_none (o_some e_int))) (g_name 3 sc__law_spring.nd) (ss_cons (s_if (t_ge (e_abs T.z_abs (a_cons (e_var 3) a_nil)) (e_pow e_int e_int)) (ss_one (s_set 1 sc__law_spring.nd (e_add (e_mul (e_var 1) (e_pow e_int e_int)) (e_mod (e_abs T.z_abs (a_cons (e_var 3) a_nil)) (e_pow e_int e_int))))) ss_nil) (ss_one (s_set 2 sc__law_spring.nd (e_mod (e_add (e_add (e_mul (e_var 2) e_int) (e_mod (e_var 3) e_int)) e_int) e_int)))) (fun _ => trivial)) (ss_one (s_retNew (n_lst (a_cons (e_var 1) (a_cons (e_var 2) (a_cons e_int a_nil)))))))))
theorem has__law_draw (T : Tx K mg) : Has P w K mg base "_law_draw" 1 ["spring", "many"] (spIO K 1 m__law_draw_k15) := has_io T.d__law_draw sc__law_draw (by rfl) (by decide) fun f cdv A outer s H E hr =>
  (ss_cons (s_if (t_gt (e_ixO 0 e_int) e_int) (ss_cons (s_set 2 sc__law_draw.nd (e_mod (e_ixO 0 e_int) (e_var 1))) (ss_cons (s_setO 0 e_int (e_div (e_ixO 0 e_int) (e_var 1))) (ss_one (s_ret (e_var 2))))) ss_nil) (ss_cons (s_setO 0 e_int (e_add (e_ixO 0 e_int) e_int)) (ss_cons (s_set 3 sc__law_draw.nd (e_mod (e_mul (e_ixO 0 e_int) (e_ixO 0 e_int)) e_int)) (ss_cons (s_setO 0 e_int (e_mod (e_add (e_add (e_var 3) (e_mul (e_mul e_int (e_ixO 0 e_int)) (e_ixO 0 e_int))) e_int) e_int)) (ss_one (s_ret (e_mod (e_div (e_ixO 0 e_int) e_int) (e_var 1))))))))
theorem has__law_circle (T : Tx K mg) : Has P w K mg base "_law_circle" 2 ["spring", "many", "places", "first"] (spIO K 3 m__law_circle) := has_io T.d__law_circle sc__law_circle (by rfl) (by decide) fun f cdv A outer s H E hr =>
  (ss_cons (s_setLc (lc1 4 [("k", 6)] sc__law_circle.nd (i_range1 T.z_range (a_cons (e_var 1) a_nil)) (blkOk_by (N := ["spring", "many", "places", "first", "spots", "signs", "k", "some", "left", "lines", "ends", "number", "side", "pair", "sign"]) (sc := defScope s__law_circle) (by decide +kernel)) (fun _ _ _ _ _ => (g_name 6 sc__law_circle.nd)) (fun _ _ _ _ _ => ts_nil) (fun _ _ _ _ _ => (e_callHIO 0 (has__law_draw T) (hr.mono (by decide)) (a_cons (e_var 2) a_nil))))) (ss_cons (s_own 5 sc__law_circle.nd (n_lst a_nil)) (ss_cons (s_for0 PassesOwn.never (i0_range1 T.z_range (a_cons (e_var 1) a_nil)) (g_name 6 sc__law_circle.nd) (ss_cons (s_setLc (lc1 7 [("sign", 14)] sc__law_circle.nd (i_any e_str) (blkOk_by (N := ["spring", "many", "places", "first", "spots", "signs", "k", "some", "left", "lines", "ends", "number", "side", "pair", "sign"]) (sc := defScope s__law_circle) (by decide +kernel)) (fun _ _ _ _ _ => (g_name 14 sc__law_circle.nd)) (fun _ _ _ _ _ => (ts_one (t_w (w_or (t_eqO 5 hr.units (e_lst a_nil)) (w_or1 (t_ne hr.units (e_var 14) (e_ixO 5 (e_neg e_int)))))))) (fun _ _ _ _ _ => (e_var 14)))) (ss_cons (s_if (t_eq hr.units (e_var 6) (e_sub (e_var 1) e_int)) (ss_one (s_setLc (lc1 7 [("sign", 14)] sc__law_circle.nd (i_any (e_var 7)) (blkOk_by (N := ["spring", "many", "places", "first", "spots", "signs", "k", "some", "left", "lines", "ends", "number", "side", "pair", "sign"]) (sc := defScope s__law_circle) (by decide +kernel)) (fun _ _ _ _ _ => (g_name 14 sc__law_circle.nd)) (fun _ _ _ _ _ => (ts_one (t_ne hr.units (e_var 14) (e_ixO 5 e_int)))) (fun _ _ _ _ _ => (e_var 14))))) ss_nil) (ss_one (s_expr (e_append 5 (e_ix (e_var 7) (e_callHIO 0 (has__law_draw T) (hr.mono (by decide)) (a_cons (e_len T.z_len (a_cons (e_var 7) a_nil)) a_nil))))))))) (ss_cons (s_own 8 sc__law_circle.nd (n_listRng1 T.z_list T.z_range (e_var 1))) (ss_cons (s_own 9 sc__law_circle.nd (n_rep (e_lst (a_cons e_non a_nil)) (e_var 1))) (ss_cons (s_own 10 sc__law_circle.nd (n_lst a_nil)) (ss_cons (s_for0 PassesOwn.never (i0_range1 T.z_range (a_cons (e_var 1) a_nil)) (g_name 6 sc__law_circle.nd) (ss_cons (s_set 11 sc__law_circle.nd (e_popAt 8 (e_callHIO 0 (has__law_draw T) (hr.mono (by decide)) (a_cons (e_lenO 8 T.z_len) a_nil)))) (ss_cons (s_set 12 sc__law_circle.nd (e_callHIO 0 (has__law_draw T) (hr.mono (by decide)) (a_cons e_int a_nil))) (ss_cons (s_set 13 sc__law_circle.nd (e_lst (a_cons (e_ix (e_var 4) (e_var 6)) (a_cons (e_ix (e_var 4) (e_mod (e_add (e_var 6) e_int) (e_var 1))) a_nil)))) (ss_cons (s_setO 9 (e_var 11) (e_tup (a_cons (e_ix (e_var 13) (e_var 12)) (a_cons (e_ix (e_var 13) (e_sub e_int (e_var 12))) (a_cons (e_ixO 5 (e_var 6)) a_nil))))) (ss_one (s_expr (e_append 10 (e_tup (a_cons (e_add (e_var 3) (e_var 11)) (a_cons (e_var 12) a_nil))))))))))) (ss_one (s_ret (e_tup (a_cons (e_var 9) (a_cons (e_var 10) a_nil))))))))))))
theorem has__law_planted (T : Tx K mg) : Has P w K mg base "_law_planted" 3 ["spring", "most"] (spIO K 1 m__law_planted) := has_io T.d__law_planted sc__law_planted (by rfl) (by decide) fun f cdv A outer s H E hr =>
  (ss_cons (s_set 2 sc__law_planted.nd (e_add e_int (e_callHIO 0 (has__law_draw T) (hr.mono (by decide)) (a_cons (e_ix (e_lst (a_cons e_int (a_cons e_int (a_cons e_int a_nil)))) (e_callHIO 0 (has__law_draw T) (hr.mono (by decide)) (a_cons e_int a_nil))) a_nil)))) (ss_cons (s_asg (g_tup (gs_cons (g_name 3 sc__law_planted.nd) (gs_cons (g_name 4 sc__law_planted.nd) gs_nil))) (e_callHIO 0 (has__law_circle T) (hr.mono (by decide)) (a_cons (e_add e_int (e_callHIO 0 (has__law_draw T) (hr.mono (by decide)) (a_cons (e_sub (e_var 1) e_int) a_nil))) (a_cons (e_var 2) (a_cons e_int a_nil))))) (ss_cons (s_setLc (lc1 5 [("k", 6)] sc__law_planted.nd (i_range1 T.z_range (a_cons (e_callHIO 0 (has__law_draw T) (hr.mono (by decide)) (a_cons e_int a_nil)) a_nil)) (blkOk_by (N := ["spring", "most", "places", "lines", "ends", "more", "k"]) (sc := defScope s__law_planted) (by decide +kernel)) (fun _ _ _ _ _ => (g_name 6 sc__law_planted.nd)) (fun _ _ _ _ _ => ts_nil) (fun _ _ _ _ _ => (e_tup (a_cons (e_callHIO 0 (has__law_draw T) (hr.mono (by decide)) (a_cons (e_var 2) a_nil)) (a_cons (e_callHIO 0 (has__law_draw T) (hr.mono (by decide)) (a_cons (e_var 2) a_nil)) (a_cons (e_ix e_str (e_callHIO 0 (has__law_draw T) (hr.mono (by decide)) (a_cons e_int a_nil))) a_nil))))))) (ss_one (s_ret (e_tup (a_cons (e_tup (a_cons (e_var 2) (a_cons (e_tuple T.z_tuple (a_cons (e_add (e_var 3) (e_var 5)) a_nil)) a_nil))) (a_cons (e_var 4) a_nil))))))))
theorem has__law_is_end (T : Tx K mg) : Has P w K mg base "_law_is_end" 1 ["web", "thing"] (spF K 2 m__law_is_end_k15) := has_pure T.d__law_is_end sc__law_is_end (by rfl) (by decide) fun f cdv A outer s H E hr =>
  (ss_cons (s_if (t_w (w_or (t_not (t_val (e_isi2 T.z_isinstance T.z_list (by decide +kernel) kit_list T.z_tuple (by decide +kernel) kit_tuple (e_var 1)))) (w_or1 (t_ne hr.units (e_len T.z_len (a_cons (e_var 1) a_nil)) e_int)))) (ss_one (s_ret e_bl)) ss_nil) (ss_cons (s_if (t_ne hr.units (n_lc [("number", 2)] sc__law_is_end.nd (i_any (e_var 1)) (blkOk_by (N := ["web", "thing", "number"]) (sc := defScope s__law_is_end) (by decide +kernel)) (fun _ _ _ _ _ => (g_name 2 sc__law_is_end.nd)) (fun _ _ _ _ _ => (ts_one (t_w (w_or (t_val (e_isi T.z_isinstance T.z_bool (by decide +kernel) kit_bool (e_var 2))) (w_or1 (t_not (t_val (e_isi T.z_isinstance T.z_int (by decide +kernel) kit_int (e_var 2))))))))) (fun _ _ _ _ _ => (e_var 2))).e (e_lst a_nil)) (ss_one (s_ret e_bl)) ss_nil) (ss_one (s_ret (e_and (e_chain op_le op_lt (rd_cmp _) (rd_cmp _) e_int (e_ix (e_var 1) e_int) (e_len T.z_len (a_cons (e_ix (e_var 0) e_int) a_nil))) (e_one (e_chain op_le op_le (rd_cmp _) (rd_cmp _) e_int (e_ix (e_var 1) e_int) e_int)))))))
theorem has__law_at (T : Tx K mg) : Has P w K mg base "_law_at" 1 ["web", "end"] (spF K 2 m__law_at) := has_pure T.d__law_at sc__law_at (by rfl) (by decide) fun f cdv A outer s H E hr =>
  (ss_one (s_ret (e_ix (e_ix (e_ix (e_var 0) e_int) (e_ix (e_var 1) e_int)) (e_ix (e_var 1) e_int))))
theorem has__law_other (T : Tx K mg) : Has P w K mg base "_law_other" 1 ["end"] (spF K 1 m__law_other) := has_pure T.d__law_other sc__law_other (by rfl) (by decide) fun f cdv A outer s H E hr =>
  (ss_one (s_ret (e_tup (a_cons (e_ix (e_var 0) e_int) (a_cons (e_sub e_int (e_ix (e_var 0) e_int)) a_nil)))))
theorem has__law_goes (T : Tx K mg) : Has P w K mg base "_law_goes" 2 ["web", "end", "later"] (spF K 3 m__law_goes) := has_pure T.d__law_goes sc__law_goes (by rfl) (by decide) fun f cdv A outer s H E hr =>
  (ss_cons (s_if (t_ne hr.units (e_callH (has__law_at T) (hr.mono (by decide)) (a_cons (e_var 0) (a_cons (e_callH (has__law_other T) (hr.mono (by decide)) (a_cons (e_var 1) a_nil)) a_nil))) (e_callH (has__law_at T) (hr.mono (by decide)) (a_cons (e_var 0) (a_cons (e_var 2) a_nil)))) (ss_one (s_ret e_bl)) ss_nil) (ss_one (s_ret (e_ne hr.units (e_ix (e_ix (e_ix (e_var 0) e_int) (e_ix (e_var 1) e_int)) e_int) (e_ix (e_ix (e_ix (e_var 0) e_int) (e_ix (e_var 2) e_int)) e_int)))))
theorem has__law_is_ride (T : Tx K mg) : Has P w K mg base "_law_is_ride" 3 ["web", "thing"] (spF K 2 m__law_is_ride) := has_pure T.d__law_is_ride sc__law_is_ride (by rfl) (by decide) fun f cdv A outer s H E hr =>
  (ss_cons (s_if (t_w (w_or (t_not (t_val (e_isi2 T.z_isinstance T.z_list (by decide +kernel) kit_list T.z_tuple (by decide +kernel) kit_tuple (e_var 1)))) (w_or1 (t_eq hr.units (e_len T.z_len (a_cons (e_var 1) a_nil)) e_int)))) (ss_one (s_ret e_bl)) ss_nil) (ss_cons (s_if (t_ne hr.units (n_lc [("end", 3)] sc__law_is_ride.nd (i_any (e_var 1)) (blkOk_by (N := ["web", "thing", "lines", "end", "line", "k"]) (sc := defScope s__law_is_ride) (by decide +kernel)) (fun _ _ _ _ _ => (g_name 3 sc__law_is_ride.nd)) (fun _ _ _ _ _ => (ts_one (t_not (t_val (e_callH (has__law_is_end T) (hr.mono (by decide)) (a_cons (e_var 0) (a_cons (e_var 3) a_nil))))))) (fun _ _ _ _ _ => (e_var 3))).e (e_lst a_nil)) (ss_one (s_ret e_bl)) ss_nil) (ss_cons (s_set 2 sc__law_is_ride.nd (n_lc [("end", 3)] sc__law_is_ride.nd (i_any (e_var 1)) (blkOk_by (N := ["web", "thing", "lines", "end", "line", "k"]) (sc := defScope s__law_is_ride) (by decide +kernel)) (fun _ _ _ _ _ => (g_name 3 sc__law_is_ride.nd)) (fun _ _ _ _ _ => ts_nil) (fun _ _ _ _ _ => (e_ix (e_var 3) e_int))).e) (ss_cons (s_if (t_ne hr.units (n_lc [("line", 4)] sc__law_is_ride.nd (i_any (e_var 2)) (blkOk_by (N := ["web", "thing", "lines", "end", "line", "k"]) (sc := defScope s__law_is_ride) (by decide +kernel)) (fun _ _ _ _ _ => (g_name 4 sc__law_is_ride.nd)) (fun _ _ _ _ _ => (ts_one (t_gt (e_count hr (e_var 2) (e_var 4)) e_int))) (fun _ _ _ _ _ => (e_var 4))).e (e_lst a_nil)) (ss_one (s_ret e_bl)) ss_nil) (ss_one (s_ret (e_eq hr.units (n_lc [("k", 5)] sc__law_is_ride.nd (i_range2 T.z_range (a_cons e_int (a_cons (e_len T.z_len (a_cons (e_var 1) a_nil)) a_nil))) (blkOk_by (N := ["web", "thing", "lines", "end", "line", "k"]) (sc := defScope s__law_is_ride) (by decide +kernel)) (fun _ _ _ _ _ => (g_name 5 sc__law_is_ride.nd)) (fun _ _ _ _ _ => (ts_one (t_not (t_val (e_callH (has__law_goes T) (hr.mono (by decide)) (a_cons (e_var 0) (a_cons (e_ix (e_var 1) (e_sub (e_var 5) e_int)) (a_cons (e_ix (e_var 1) (e_var 5)) a_nil)))))))) (fun _ _ _ _ _ => (e_var 5))).e (e_lst a_nil))))))))
theorem has__law_is_round (T : Tx K mg) : Has P w K mg base "_law_is_round" 4 ["web", "thing"] (spF K 2 m__law_is_round) := has_pure T.d__law_is_round sc__law_is_round (by rfl) (by decide) fun f cdv A outer s H E hr =>
  (ss_one (s_ret (e_and (e_callH (has__law_is_ride T) (hr.mono (by decide)) (a_cons (e_var 0) (a_cons (e_var 1) a_nil))) (e_one (e_callH (has__law_goes T) (hr.mono (by decide)) (a_cons (e_var 0) (a_cons (e_ix (e_var 1) (e_neg e_int)) (a_cons (e_ix (e_var 1) e_int) a_nil))))))))
theorem has__law_word (T : Tx K mg) : Has P w K mg base "_law_word" 1 ["caught"] (spX K m__law_word_k21) := has_exc T.d__law_word sc__law_word (by rfl) (by decide) fun f cdv A outer s H E hr =>
  (ss_cons (s_if (t_not (t_val (e_isEB 0 ["NoRide", "NoNumber"] T.z_isinstance T.z_ValueError (by decide +kernel) T.b_ValueError))) (ss_one (s_ret e_str)) ss_nil) (ss_cons (s_set 1 sc__law_word.nd (e_lst (a_cons (e_isET 0 T.z_isinstance T.i_NoRide) (a_cons (e_isET 0 T.z_isinstance T.i_NoNumber) a_nil)))) (ss_cons (s_if (t_val (e_isAny 0 T.z_isinstance (any_cons T.i_NoCompany (any_cons T.i_NoEnd (any_cons T.i_NoForm (any_cons T.i_NoLine (any_cons T.i_NoPlace (any_cons T.i_NoText (any_cons T.i_NoTurning (any_cons T.i_NoWeb (any_cons T.i_NoneYet (any_cons T.i_TooMany any_nil)))))))))) T.xc)) (ss_one (s_ret e_str)) ss_nil) (ss_one (s_ret (e_if (t_eq hr.units (e_count hr (e_var 1) e_bl) e_int) (e_ix (e_lst (a_cons e_str (a_cons e_str a_nil))) (e_index hr (e_var 1) e_bl)) e_str))))))
theorem has_place_of (T : Tx K mg) : Has P w K mg base "place_of" 1 ["web", "end"] (spF K 2 m_place_of) := has_pure T.d_place_of sc_place_of (by rfl) (by decide) fun f cdv A outer s H E hr =>
  (ss_one (s_ret (e_ix (e_ix (e_ix (e_var 0) e_int) (e_ix (e_var 1) e_int)) (e_ix (e_var 1) e_int))))
theorem has_company_of (T : Tx K mg) : Has P w K mg base "company_of" 1 ["web", "end"] (spF K 2 m_company_of) := has_pure T.d_company_of sc_company_of (by rfl) (by decide) fun f cdv A outer s H E hr =>
  (ss_one (s_ret (e_ix (e_ix (e_ix (e_var 0) e_int) (e_ix (e_var 1) e_int)) e_int)))
theorem has_far_end (T : Tx K mg) : Has P w K mg base "far_end" 1 ["end"] (spF K 1 m_far_end) := has_pure T.d_far_end sc_far_end (by rfl) (by decide) fun f cdv A outer s H E hr =>
  (ss_one (s_ret (e_tup (a_cons (e_ix (e_var 0) e_int) (a_cons (e_sub e_int (e_ix (e_var 0) e_int)) a_nil)))))
theorem has_can_go_on (T : Tx K mg) : Has P w K mg base "can_go_on" 2 ["web", "end", "later"] (spF K 3 m_can_go_on) := has_pure T.d_can_go_on sc_can_go_on (by rfl) (by decide) fun f cdv A outer s H E hr =>
  (ss_cons (s_if (t_ne hr.units (e_callH (has_place_of T) (hr.mono (by decide)) (a_cons (e_var 0) (a_cons (e_callH (has_far_end T) (hr.mono (by decide)) (a_cons (e_var 1) a_nil)) a_nil))) (e_callH (has_place_of T) (hr.mono (by decide)) (a_cons (e_var 0) (a_cons (e_var 2) a_nil)))) (ss_one (s_ret e_bl)) ss_nil) (ss_one (s_ret (e_ne hr.units (e_callH (has_company_of T) (hr.mono (by decide)) (a_cons (e_var 0) (a_cons (e_var 1) a_nil))) (e_callH (has_company_of T) (hr.mono (by decide)) (a_cons (e_var 0) (a_cons (e_var 2) a_nil)))))))
theorem has_is_row (T : Tx K mg) : Has P w K mg base "is_row" 1 ["thing", "size"] (spF K 2 m_is_row) := has_pure T.d_is_row sc_is_row (by rfl) (by decide) fun f cdv A outer s H E hr =>
  (ss_one (s_ret (e_and (e_isi2 T.z_isinstance T.z_list (by decide +kernel) kit_list T.z_tuple (by decide +kernel) kit_tuple (e_var 0)) (e_one (e_eq hr.units (e_len T.z_len (a_cons (e_var 0) a_nil)) (e_var 1))))))
theorem has_is_whole (T : Tx K mg) : Has P w K mg base "is_whole" 1 ["thing"] (spF K 1 m_is_whole) := has_pure T.d_is_whole sc_is_whole (by rfl) (by decide) fun f cdv A outer s H E hr =>
  (ss_one (s_ret (e_and (e_isi T.z_isinstance T.z_int (by decide +kernel) kit_int (e_var 0)) (e_and (e_not (e_isi T.z_isinstance T.z_bool (by decide +kernel) kit_bool (e_var 0))) (e_one (e_ge (e_var 0) e_int))))))
theorem has_is_end (T : Tx K mg) : Has P w K mg base "is_end" 2 ["web", "thing"] (spF K 2 m_is_end) := has_pure T.d_is_end sc_is_end (by rfl) (by decide) fun f cdv A outer s H E hr =>
  (ss_cons (s_if (t_w (w_or (t_not (t_val (e_callH (has_is_row T) (hr.mono (by decide)) (a_cons (e_var 1) (a_cons e_int a_nil))))) (w_or (t_not (t_val (e_callH (has_is_whole T) (hr.mono (by decide)) (a_cons (e_ix (e_var 1) e_int) a_nil)))) (w_or1 (t_not (t_val (e_callH (has_is_whole T) (hr.mono (by decide)) (a_cons (e_ix (e_var 1) e_int) a_nil)))))))) (ss_one (s_ret e_bl)) ss_nil) (ss_one (s_ret (e_and (e_lt (e_ix (e_var 1) e_int) (e_len T.z_len (a_cons (e_ix (e_var 0) e_int) a_nil))) (e_one (e_lt (e_ix (e_var 1) e_int) (e_gintE T.c_SIDES)))))))
theorem has_ride_is (T : Tx K mg) : Has P w K mg base "ride_is" 3 ["web", "ride"] (spF K 2 m_ride_is) := has_pure T.d_ride_is sc_ride_is (by rfl) (by decide) fun f cdv A outer s H E hr =>
  (ss_cons (s_if (t_w (w_or (t_not (t_val (e_isi2 T.z_isinstance T.z_list (by decide +kernel) kit_list T.z_tuple (by decide +kernel) kit_tuple (e_var 1)))) (w_or (t_eq hr.units (e_len T.z_len (a_cons (e_var 1) a_nil)) e_int) (w_or1 (t_not (t_val (e_all T.z_all (a_cons (n_lc [("end", 2)] sc_ride_is.nd (i_any (e_var 1)) (blkOk_by (N := ["web", "ride", "end", "later"]) (sc := defScope s_ride_is) (by decide +kernel)) (fun _ _ _ _ _ => (g_name 2 sc_ride_is.nd)) (fun _ _ _ _ _ => ts_nil) (fun _ _ _ _ _ => (e_callH (has_is_end T) (hr.mono (by decide)) (a_cons (e_var 0) (a_cons (e_var 2) a_nil))))).e a_nil)))))))) (ss_one (s_ret e_bl)) ss_nil) (ss_cons (s_if (t_ne hr.units (e_lenSet T.z_len T.z_set (n_lc [("end", 2)] sc_ride_is.nd (i_any (e_var 1)) (blkOk_by (N := ["web", "ride", "end", "later"]) (sc := defScope s_ride_is) (by decide +kernel)) (fun _ _ _ _ _ => (g_name 2 sc_ride_is.nd)) (fun _ _ _ _ _ => ts_nil) (fun _ _ _ _ _ => (e_ix (e_var 2) e_int))).e) (e_len T.z_len (a_cons (e_var 1) a_nil))) (ss_one (s_ret e_bl)) ss_nil) (ss_one (s_ret (e_all T.z_all (a_cons (n_lc [("end", 2), ("later", 3)] sc_ride_is.nd (i_zip T.z_zip (a_cons (e_var 1) (a_cons (e_sl (e_var 1) (o_some e_int) o_none) a_nil))) (blkOk_by (N := ["web", "ride", "end", "later"]) (sc := defScope s_ride_is) (by decide +kernel)) (fun _ _ _ _ _ => (g_tup (gs_cons (g_name 2 sc_ride_is.nd) (gs_cons (g_name 3 sc_ride_is.nd) gs_nil)))) (fun _ _ _ _ _ => ts_nil) (fun _ _ _ _ _ => (e_callH (has_can_go_on T) (hr.mono (by decide)) (a_cons (e_var 0) (a_cons (e_var 2) (a_cons (e_var 3) a_nil)))))).e a_nil))))))
theorem has_round_is (T : Tx K mg) : Has P w K mg base "round_is" 4 ["web", "ride"] (spF K 2 m_round_is) := has_pure T.d_round_is sc_round_is (by rfl) (by decide) fun f cdv A outer s H E hr =>
  (ss_one (s_ret (e_and (e_callH (has_ride_is T) (hr.mono (by decide)) (a_cons (e_var 0) (a_cons (e_var 1) a_nil))) (e_one (e_callH (has_can_go_on T) (hr.mono (by decide)) (a_cons (e_var 0) (a_cons (e_ix (e_var 1) (e_neg e_int)) (a_cons (e_ix (e_var 1) e_int) a_nil))))))))
theorem hasz_need_round (T : Tx K mg) : HasZ P w K mg base "need_round" 5 ["web", "ride"] (spZ K 2 m_need_round_Z) := has_z T.d_need_round sc_need_round (by rfl) (by decide) fun f cdv A outer s H E hr tk =>
  (zs_cons (z_if (t_not (t_val (e_callH (has_round_is T) (hr.mono (by decide)) (a_cons (e_var 0) (a_cons (e_var 1) a_nil))))) (zs_one (z_raise T.x_NoRide tk)) (zs_of ss_nil)) (zs_of (ss_one (s_ret (n_lc [("end", 2)] sc_need_round.nd (i_any (e_var 1)) (blkOk_by (N := ["web", "ride", "end"]) (sc := defScope s_need_round) (by decide +kernel)) (fun _ _ _ _ _ => (g_name 2 sc_need_round.nd)) (fun _ _ _ _ _ => ts_nil) (fun _ _ _ _ _ => (e_tuple T.z_tuple (a_cons (e_var 2) a_nil)))).e))))
theorem hasz_begun_at (T : Tx K mg) : HasZ P w K mg base "begun_at" 6 ["web", "ride", "number"] (spZ K 3 m_begun_at_Z) := has_z T.d_begun_at sc_begun_at (by rfl) (by decide) fun f cdv A outer s H E hr tk =>
  (zs_cons (z_set 3 sc_begun_at.nd (ez_call (hasz_need_round T) (hr.mono (by decide)) tk (a_cons (e_var 0) (a_cons (e_var 1) a_nil)))) (zs_cons (z_if (t_w (w_or (t_not (t_val (e_callH (has_is_whole T) (hr.mono (by decide)) (a_cons (e_var 2) a_nil)))) (w_or1 (t_ge (e_var 2) (e_len T.z_len (a_cons (e_var 3) a_nil)))))) (zs_one (z_raise T.x_NoNumber tk)) (zs_of ss_nil)) (zs_of (ss_one (s_ret (e_add (e_sl (e_var 3) (o_some (e_var 2)) o_none) (e_sl (e_var 3) o_none (o_some (e_var 2)))))))))
theorem has_faced_about (T : Tx K mg) : Has P w K mg base "faced_about" 2 ["ends"] (spF K 1 m_faced_about) := has_pure T.d_faced_about sc_faced_about (by rfl) (by decide) fun f cdv A outer s H E hr =>
  (ss_one (s_ret (n_lc [("end", 1)] sc_faced_about.nd (i_any (n_revL (e_var 0)).e) (blkOk_by (N := ["ends", "end"]) (sc := defScope s_faced_about) (by decide +kernel)) (fun _ _ _ _ _ => (g_name 1 sc_faced_about.nd)) (fun _ _ _ _ _ => ts_nil) (fun _ _ _ _ _ => (e_callH (has_far_end T) (hr.mono (by decide)) (a_cons (e_var 1) a_nil)))).e))
theorem has_all_ways (T : Tx K mg) : Has P w K mg base "all_ways" 3 ["ends"] (spF K 1 m_all_ways) := has_pure T.d_all_ways sc_all_ways (by rfl) (by decide) fun f cdv A outer s H E hr =>
  (ss_cons (s_own 1 sc_all_ways.nd (n_lst a_nil)) (ss_cons (s_for PassesOwn.never (i_any (e_tup (a_cons (e_var 0) (a_cons (e_callH (has_faced_about T) (hr.mono (by decide)) (a_cons (e_var 0) a_nil)) a_nil)))) (g_name 2 sc_all_ways.nd) (ss_one (s_expr (e_extend 1 (n_lc [("at", 3)] sc_all_ways.nd (i_range1 T.z_range (a_cons (e_len T.z_len (a_cons (e_var 2) a_nil)) a_nil)) (blkOk_by (N := ["ends", "found", "one", "at"]) (sc := defScope s_all_ways) (by decide +kernel)) (fun _ _ _ _ _ => (g_name 3 sc_all_ways.nd)) (fun _ _ _ _ _ => ts_nil) (fun _ _ _ _ _ => (e_add (e_sl (e_var 2) (o_some (e_var 3)) o_none) (e_sl (e_var 2) o_none (o_some (e_var 3)))))).e))) (fun _ => trivial)) (ss_one (s_ret (e_var 1)))))
theorem hasz_least_round (T : Tx K mg) : HasZ P w K mg base "least_round" 6 ["web", "ride"] (spZ K 2 m_least_round_Z) := has_z T.d_least_round sc_least_round (by rfl) (by decide) fun f cdv A outer s H E hr tk =>
  (zs_one (z_ret (ez_min hr T.z_min (az_one (ez_callF (has_all_ways T) (hr.mono (by decide)) (az_one (ez_call (hasz_need_round T) (hr.mono (by decide)) tk (a_cons (e_var 0) (a_cons (e_var 1) a_nil)))))))))
theorem hasz_need_ride (T : Tx K mg) : HasZ P w K mg base "need_ride" 4 ["web", "ride"] (spZ K 2 m_need_ride_Z) := has_z T.d_need_ride sc_need_ride (by rfl) (by decide) fun f cdv A outer s H E hr tk =>
  (zs_cons (z_if (t_not (t_val (e_callH (has_ride_is T) (hr.mono (by decide)) (a_cons (e_var 0) (a_cons (e_var 1) a_nil))))) (zs_one (z_raise T.x_NoRide tk)) (zs_of ss_nil)) (zs_of (ss_one (s_ret (n_lc [("end", 2)] sc_need_ride.nd (i_any (e_var 1)) (blkOk_by (N := ["web", "ride", "end"]) (sc := defScope s_need_ride) (by decide +kernel)) (fun _ _ _ _ _ => (g_name 2 sc_need_ride.nd)) (fun _ _ _ _ _ => ts_nil) (fun _ _ _ _ _ => (e_tuple T.z_tuple (a_cons (e_var 2) a_nil)))).e))))
theorem hasz_about (T : Tx K mg) : HasZ P w K mg base "about" 5 ["web", "ride"] (spZ K 2 m_about_Z_k21) := has_z T.d_about sc_about (by rfl) (by decide) fun f cdv A outer s H E hr tk =>
  (zs_one (z_ret (ez_callF (has_faced_about T) (hr.mono (by decide)) (az_one (ez_call (hasz_need_ride T) (hr.mono (by decide)) tk (a_cons (e_var 0) (a_cons (e_var 1) a_nil)))))))
theorem has_places_along (T : Tx K mg) : Has P w K mg base "places_along" 2 ["web", "ends"] (spF K 2 m_places_along) := has_pure T.d_places_along sc_places_along (by rfl) (by decide) fun f cdv A outer s H E hr =>
  (ss_one (s_ret (e_add (n_lc [("end", 2)] sc_places_along.nd (i_any (e_var 1)) (blkOk_by (N := ["web", "ends", "end"]) (sc := defScope s_places_along) (by decide +kernel)) (fun _ _ _ _ _ => (g_name 2 sc_places_along.nd)) (fun _ _ _ _ _ => ts_nil) (fun _ _ _ _ _ => (e_callH (has_place_of T) (hr.mono (by decide)) (a_cons (e_var 0) (a_cons (e_var 2) a_nil))))).e (e_lst (a_cons (e_callH (has_place_of T) (hr.mono (by decide)) (a_cons (e_var 0) (a_cons (e_callH (has_far_end T) (hr.mono (by decide)) (a_cons (e_ix (e_var 1) (e_neg e_int)) a_nil)) a_nil))) a_nil)))))
theorem hasz_places_of (T : Tx K mg) : HasZ P w K mg base "places_of" 5 ["web", "ride"] (spZ K 2 m_places_of_Z_k21) := has_z T.d_places_of sc_places_of (by rfl) (by decide) fun f cdv A outer s H E hr tk =>
  (zs_one (z_ret (ez_callF (has_places_along T) (hr.mono (by decide)) (az_cons (e_var 0) (az_one (ez_call (hasz_need_ride T) (hr.mono (by decide)) tk (a_cons (e_var 0) (a_cons (e_var 1) a_nil))))))))
theorem has__law_asked (T : Tx K mg) : Has P w K mg base "_law_asked" 7 ["ask", "web", "thing", "number"] (spF K 4 m__law_asked_k21) := has_pure T.d__law_asked sc__law_asked (by rfl) (by decide) fun f cdv A outer s H E hr =>
  (ss_cons (s_set 4 sc__law_asked.nd e_non) (ss_cons (s_tryT 5 4 sc__law_asked.nd T.t_RideError fun W pn xe tk => (zs_one (z_if (t_eq hr.units (e_var 0) e_int) (zs_one (z_expr (ez_call (hasz_begun_at T) (hr.mono (by decide)) tk (a_cons (e_var 1) (a_cons (e_var 2) (a_cons (e_var 3) a_nil)))))) (zs_one (z_if (t_eq hr.units (e_var 0) e_int) (zs_one (z_expr (ez_call (hasz_least_round T) (hr.mono (by decide)) tk (a_cons (e_var 1) (a_cons (e_var 2) a_nil))))) (zs_one (z_if (t_eq hr.units (e_var 0) e_int) (zs_one (z_expr (ez_call (hasz_about T) (hr.mono (by decide)) tk (a_cons (e_var 1) (a_cons (e_var 2) a_nil))))) (zs_one (z_expr (ez_call (hasz_places_of T) (hr.mono (by decide)) tk (a_cons (e_var 1) (a_cons (e_var 2) a_nil)))))))))))) (ss_one (s_ret (e_if (t_isN 4) e_str (e_callX 4 (has__law_word T) (hr.mono (by decide))))))))
theorem law_body (T : Tx K mg) : BodyG P w K mg base ["script", "spring", "turn", "web", "ends", "many", "at", "numbers", "number", "cut", "odd", "thing", "spot", "stays", "due", "ask"] "law" s_law 7 AnyB g_law := fun f cdv A outer s H E hr hgd =>
  (ss_cons (s_own 1 sc_law.nd (n_callScr 0 (has__law_spring T) (hr.mono (by decide)))) (ss_cons (s_for0 PassesOwn.never (i0_range1 T.z_range (a_cons (e_add e_int (e_min2 T.z_min (a_cons (e_scrLen 0 T.z_len) (a_cons e_int a_nil)))) a_nil)) (g_name 2 sc_law.nd) (ss_cons (s_asg (g_tup (gs_cons (g_name 3 sc_law.nd) (gs_cons (g_name 4 sc_law.nd) gs_nil))) (e_callHIO 1 (has__law_planted T) (hr.mono (by decide)) (a_cons e_int a_nil))) (ss_cons (s_set 5 sc_law.nd (e_len T.z_len (a_cons (e_var 4) a_nil))) (ss_cons (s_set 6 sc_law.nd (e_callHIO 1 (has__law_draw T) (hr.mono (by decide)) (a_cons (e_var 5) a_nil))) (ss_cons (s_set 7 sc_law.nd (e_lst (a_cons (e_neg e_int) (a_cons (e_var 5) (a_cons (e_add (e_var 5) e_int) (a_cons (e_pow e_int e_int) (a_cons e_bl (a_cons e_bl (a_cons e_non (a_cons e_str (a_cons (e_lst (a_cons e_int a_nil)) (a_cons (e_tup (a_cons e_int a_nil)) a_nil)))))))))))) (ss_cons (s_set 8 sc_law.nd (e_ix (e_var 7) (e_callHIO 1 (has__law_draw T) (hr.mono (by decide)) (a_cons e_int a_nil)))) (ss_cons (s_set 9 sc_law.nd (e_sl (e_add (e_var 4) (e_var 4)) (o_some (e_var 6)) (o_some (e_add (e_add (e_var 6) e_int) (e_callHIO 1 (has__law_draw T) (hr.mono (by decide)) (a_cons (e_var 5) a_nil)))))) (ss_cons (s_set 10 sc_law.nd (e_ix (e_lst (a_cons e_non (a_cons (e_lst a_nil) (a_cons (e_tup a_nil) (a_cons e_int (a_cons e_str (a_cons (e_add (n_revL (e_var 4)).e (e_lst (a_cons (e_tup (a_cons e_int (a_cons e_int a_nil))) a_nil))) (a_cons (e_add (e_var 4) (e_sl (e_var 4) o_none (o_some e_int))) (a_cons (e_lst (a_cons (e_tup (a_cons e_int (a_cons e_int (a_cons e_int a_nil)))) a_nil)) (a_cons e_dict0 a_nil)))))))))) (e_callHIO 1 (has__law_draw T) (hr.mono (by decide)) (a_cons e_int a_nil)))) (ss_one (s_for PassesOwn.never (i_any (e_lst (a_cons (e_tup (a_cons (e_var 4) (a_cons (e_var 6) a_nil))) (a_cons (e_tup (a_cons (e_var 4) (a_cons (e_var 8) a_nil))) (a_cons (e_tup (a_cons (e_var 9) (a_cons e_int a_nil))) (a_cons (e_tup (a_cons (e_var 9) (a_cons (e_var 8) a_nil))) (a_cons (e_tup (a_cons (e_var 10) (a_cons e_int a_nil))) (a_cons (e_tup (a_cons (e_var 10) (a_cons (e_var 8) a_nil))) a_nil)))))))) (g_tup (gs_cons (g_name 11 sc_law.nd) (gs_cons (g_name 12 sc_law.nd) gs_nil))) (ss_cons (s_set 13 sc_law.nd (e_repr hr hgd T.z_repr (a_cons (e_var 11) a_nil))) (ss_cons (s_set 14 sc_law.nd (e_mul (e_lst (a_cons e_str a_nil)) e_int)) (ss_cons (s_if (t_not (t_val (e_callH (has__law_is_ride T) (hr.mono (by decide)) (a_cons (e_var 3) (a_cons (e_var 11) a_nil))))) (ss_one (s_set 14 sc_law.nd (e_mul (e_lst (a_cons e_str a_nil)) e_int))) (ss_one (s_if (t_not (t_val (e_callH (has__law_is_round T) (hr.mono (by decide)) (a_cons (e_var 3) (a_cons (e_var 11) a_nil))))) (ss_one (s_set 14 sc_law.nd (e_lst (a_cons e_str (a_cons e_str (a_cons e_str (a_cons e_str a_nil))))))) (ss_one (s_if (t_w (w_or (t_val (e_isi T.z_isinstance T.z_bool (by decide +kernel) kit_bool (e_var 12))) (w_or (t_not (t_val (e_isi T.z_isinstance T.z_int (by decide +kernel) kit_int (e_var 12)))) (w_or1 (t_not (t_chain op_le op_lt (rd_cmp _) (rd_cmp _) e_int (e_var 12) (e_len T.z_len (a_cons (e_var 11) a_nil)))))))) (ss_one (s_set 14 sc_law.nd (e_lst (a_cons e_str (a_cons e_str (a_cons e_str (a_cons e_str a_nil))))))) ss_nil))))) (ss_one (s_if (t_w (w_or (t_ne hr.units (n_lc [("ask", 15)] sc_law.nd (i_range1 T.z_range (a_cons e_int a_nil)) (blkOk_by (N := ["script", "spring", "turn", "web", "ends", "many", "at", "numbers", "number", "cut", "odd", "thing", "spot", "stays", "due", "ask"]) (sc := defScope s_law) (by decide +kernel)) (fun _ _ _ _ _ => (g_name 15 sc_law.nd)) (fun _ _ _ _ _ => ts_nil) (fun _ _ _ _ _ => (e_callH (has__law_asked T) (hr.mono (by decide)) (a_cons (e_var 15) (a_cons (e_var 3) (a_cons (e_var 11) (a_cons (e_var 12) a_nil))))))).e (e_var 14)) (w_or1 (t_ne hr.units (e_repr hr hgd T.z_repr (a_cons (e_var 11) a_nil)) (e_var 13))))) (ss_one (s_ret e_bl)) ss_nil))))) (fun _ => trivial))))))))))) (ss_one (s_ret e_bl))))
end
end Lw.k21

set_option maxHeartbeats 4000000
namespace Lw.k21
open PySem Fu Lw
local macro_rules | `(tactic| walk_at "e1") => `(tactic| first
  | with_reducible refine eo_seq ?_ | (with_reducible refine then_nx' ?_; refine ⟨?_, ?_, ?_⟩; rotate_left; · (try dsimp only [List.set, List.length_cons, List.length_nil, List.cons_append, List.nil_append, Nat.zero_add, Nat.reduceAdd]); exact rfl) | with_reducible refine then_rt ?_ | with_reducible refine eo_if ?_ | with_reducible refine eo_ret ?_ | with_reducible refine eo_set ?_ | with_reducible refine eo_asg ?_ | with_reducible refine eo_drop ?_ | with_reducible refine eo_nx ?_ | with_reducible refine eo_par ?_ | with_reducible refine eo_own ?_ | with_reducible refine eo_retN ?_ | with_reducible refine eo_for ?_ | with_reducible refine eo_retO ?_
  | with_reducible refine ev_c ?_ | (with_reducible refine ev_var ?_; refine ⟨_, rfl, ?_⟩) | with_reducible refine ev_bin ?_ | with_reducible refine ev_un ?_ | with_reducible refine ev_nil ?_ | with_reducible refine ev_cons ?_
  | with_reducible refine ev_tup ?_ | with_reducible refine ev_lst ?_ | with_reducible refine ev_call ?_ | with_reducible refine ev_callF ?_ | with_reducible refine ev_isi ?_ | with_reducible refine ev_isi2 ?_ | with_reducible refine ev_andV ?_ | with_reducible refine ev_orV ?_ | with_reducible refine ev_notV ?_
  | with_reducible refine ev_B ?_ | with_reducible refine ev_and ?_ | with_reducible refine ev_or ?_ | with_reducible refine ev_not ?_ | with_reducible refine ev_yes ?_ | with_reducible refine ev_if ?_ | with_reducible refine ev_no ?_ | with_reducible refine ev_so ?_ | with_reducible refine ev_sl ?_ | with_reducible refine ev_items ?_
  | (with_reducible refine ev_ixO ?_; refine ⟨_, _, rfl, rfl, ?_⟩) | (with_reducible refine ev_varO ?_; refine ⟨_, _, rfl, rfl, ?_⟩) | (with_reducible refine ev_lenO ?_; refine ⟨_, _, rfl, rfl, ?_⟩) | (with_reducible refine ev_scrSl ?_; refine ⟨_, rfl, ?_⟩) | (with_reducible refine ev_scrLen ?_; refine ⟨_, rfl, ?_⟩) | (with_reducible refine ev_callScr ?_; refine ⟨_, rfl, ?_⟩) | (with_reducible refine ev_OL ?_; refine ⟨_, _, rfl, rfl, ?_⟩) | with_reducible refine ev_OR ?_ | with_reducible refine ev_rep ?_ | with_reducible refine ev_listRng1 ?_ | with_reducible refine eo_setO ?_
  | with_reducible refine es_name ?_ | with_reducible refine es_tup2 ?_ | with_reducible refine es_tup3 ?_
  | with_reducible refine ed_addI ?_ | with_reducible refine ed_subI ?_ | with_reducible refine ed_cmp ?_ | with_reducible refine ed_eqI ?_ | with_reducible refine ed_neI ?_ | with_reducible refine ed_slT ?_ | with_reducible refine ed_slL ?_ | with_reducible refine ed_lenT ?_ | with_reducible refine ed_lenL ?_ | with_reducible refine ed_lenS ?_ | with_reducible refine ed_inS ?_ | with_reducible refine ed_itT ?_ | with_reducible refine ed_itL ?_ | with_reducible refine ed_tupL ?_ | with_reducible refine ed_tupT ?_ | with_reducible refine ed_listL ?_ | with_reducible refine ed_listT ?_ | with_reducible refine ed_neg ?_ | with_reducible refine ed_max ?_ | with_reducible refine ed_min ?_ | with_reducible refine ed_intB ?_
  | with_reducible refine ev_rng1 ?_ | with_reducible refine ev_rng2 ?_)
local macro_rules | `(tactic| walk_at "sd") => `(tactic| first | rfl | assumption | (simp only [decide_eq_true_eq, decide_eq_false_iff_not, Bool.not_eq_true', Bool.not_eq_false', Bool.and_eq_true, Bool.or_eq_true, List.length_map, List.length_cons, List.length_nil, List.length_append, List.length_range] at *; omega))
local macro_rules | `(tactic| walk_at "e2") => `(tactic| first
  | walk_at "e1" | with_reducible refine ⟨_, rfl, ?_⟩ | with_reducible refine ⟨_, _, rfl, ?_⟩
  | with_reducible refine And.intro (Eq.refl (List.length _)) ?_ | with_reducible refine And.intro (Nat.le_of_ble_eq_true (n := List.length _) rfl) ?_
  | with_reducible refine And.intro (Eq.refl (_ : Sx)) (?_ : Ed _ _)
  | ((with_reducible refine And.intro ?_ (And.intro ?_ (?_ : Ev _ _))); (· rfl); (· rfl))
  | ((with_reducible refine ed_ixT ?_ ?_ ?_); (· decide); (· rfl)) | ((with_reducible refine ed_ixL ?_ ?_ ?_); (· decide); (· rfl)) | ((with_reducible refine ed_at ?_ ?_ ?_); (· decide); (· rfl))
  | ((with_reducible refine ed_modI ?_ ?_); (· first | decide | omega))
  | with_reducible exact gives_nx | ((with_reducible refine gives_rt ?_); (· rfl)) | ((with_reducible refine And.intro ?_ ?_); (· exact rfl); (· with_reducible exact Eq.refl (_ : Sx))))
local macro_rules | `(tactic| walk_at "e") => `(tactic| repeat walk_at "e2")
/-- begin a def's spec -/
local macro_rules | `(tactic| walk_at "i") => `(tactic| simp only [initS, List.map_cons, List.map_nil, List.length_cons, List.length_nil, Nat.reduceAdd, Nat.reduceSub, List.replicate, List.cons_append, List.nil_append])
/-- a known truth decides -/
local macro_rules | `(tactic| walk_at "t") => `(tactic| first | ((with_reducible refine split_t ?_ ?_); (· walk_at "sd")) | ((with_reducible refine split_t' ?_ ?_); (· walk_at "sd")))
local macro_rules | `(tactic| walk_at "f") => `(tactic| first | ((with_reducible refine split_f ?_ ?_); (· walk_at "sd")) | ((with_reducible refine split_f' ?_ ?_); (· walk_at "sd")))
/-- all that is seen in a look -/
local macro_rules | `(tactic| walk_at "v") => `(tactic| (rw [sealAll_mk (by (simp only [List.set_cons_zero, List.set_cons_succ, List.map_cons, List.map_nil, sealS_none, sealS_dat, sealS_scr, sealS_own, List.getElem?_cons_zero, List.getElem?_cons_succ, sealC_lst]; rfl)) (by (simp only [List.set_cons_zero, List.set_cons_succ, List.map_cons, List.map_nil]; rfl))]))
open Lw.Sp
def thingsOf (x4 x6 x8 x9 x10 : D) : List (D × D) := [(x4, x6), (x4, x8), (x9, .int 0), (x9, x8), (x10, .int 0), (x10, x8)]
def pairE (q : D × D) : D := .tuple [q.1, q.2]
theorem spot_law {n : Nat} (d : D) : (isT "bool" d = true → placeD n d = false) ∧ (isT "bool" d = false → isT "int" d = false → placeD n d = false) ∧ (isT "bool" d = false → isT "int" d = true → ∃ i, d = .int i) := by
  cases d <;> simp [isT, dTy, placeD]
theorem mul4 (x : D) : dMul (.list [x]) (.int 4) = some (.list [x, x, x, x]) := by
  have h : -(2 ^ 63) ≤ (4 : Int) ∧ (4 : Int) < 2 ^ 63 ∧ [x].length * (4 : Int).toNat ≤ sizeLine := ⟨by decide, by decide, Nat.le_of_ble_eq_true rfl⟩
  show (if -(2 ^ 63) ≤ (4 : Int) ∧ (4 : Int) < 2 ^ 63 ∧ [x].length * (4 : Int).toNat ≤ sizeLine then some (PyData.list (List.replicate (4 : Int).toNat [x]).flatten) else none) = _
  rw [if_pos h]
  rfl
theorem repr_str {x : Str} (h : (reprText x).length ≤ sizeLine) : dRepr [.str x] = some (.str (reprText x)) := by
  show (if (reprText x).length ≤ sizeLine then _ else none) = _
  rw [if_pos h]
theorem repr_int {i : Int} (h : i.natAbs.log2 < 1920 ∧ (Str.ofString (toString i)).length ≤ sizeLine) : dRepr [.int i] = some (.str (Str.ofString (toString i))) := by
  show (if i.natAbs.log2 < 1920 ∧ (Str.ofString (toString i)).length ≤ sizeLine then _ else none) = _
  rw [if_pos h]
theorem place_nat0 {n : Nat} {i : Int} (h0 : 0 ≤ i) (h1 : i < n) : placeD n (.int i) = true := by simp [placeD]; omega
theorem place_not {n : Nat} {i : Int} (h : i < 0 ∨ (n : Int) ≤ i) : placeD n (.int i) = false := by simp [placeD]; omega
theorem law_true : ∀ ns : List Int, ns.length ≤ 63 → mScr 16 g_law ns = some (.bool true) := by
  intro ns hns
  refine mScr_of ?_; walk_at "i"; unfold g_law
  walk_at "e"
  obtain ⟨cs, e, hR⟩ := x_spring hns
  refine Ed.of e ?_
  walk_at "e"
  refine ⟨by omega, by omega, ?_⟩
  refine eo_loop (fun i S => ∃ x2 x3 x4 x5 x6 x7 x8 x9 x10 x11 x12 x13 x14 x15 cs, S = ⟨[some (.scr ns), some (.own 0), x2, x3, x4, x5, x6, x7, x8, x9, x10, x11, x12, x13, x14, x15], [some (.lst cs)]⟩ ∧ Reel (4294967296 - 1000 * i) cs) ⟨_, _, _, _, _, _, _, _, _, _, _, _, _, _, _, rfl, hR⟩ ?_ ?_
  · rintro i z S hz ⟨x2, x3, x4, x5, x6, x7, x8, x9, x10, x11, x12, x13, x14, x15, cs, rfl, hR⟩
    obtain ⟨hi, rfl⟩ := rng_at hz
    have hi : i < 10 := by omega
    walk_at "e"
    refine ev_IO ⟨_, rfl, ?_⟩
    walk_at "e"
    have hR : Reel ((4294967296 - 1000 * i - 200) + 4 * 20 + 30) cs := hR.mono (by omega)
    obtain ⟨d, cs', e, p, ls, es, rfl, hw, p0, p1, hr, l0, l1, l2, hR⟩ := x_planted (most := 20) (by decide) (by decide) hR
    refine ⟨_, _, e, ?_⟩
    have hall := (rideB_iff.mp (roundB_iff.mp hr).1).2.1
    have hsm := ends_small hw hall
    have hW := web_wb p ls
    walk_at "e"
    refine ev_drawR ⟨_, rfl, ?_⟩
    walk_at "e"
    rw [List.length_map] at *
    refine ⟨_, _, _, rfl, rfl, hR, by omega, by omega, by omega, fun at_ cs a0 a1 hR => ?_⟩
    walk_at "e"
    refine ed_powI (by decide) ?_
    walk_at "e"
    refine ev_drawR ⟨_, rfl, ?_⟩
    walk_at "e"
    refine ⟨_, _, _, rfl, rfl, hR, by omega, by decide, by decide, fun v1 cs b0 b1 hR => ?_⟩
    refine ed_pick (P := fun _ => True) b0 b1 (fun d hd => trivial) ?_
    intro num _
    walk_at "e"
    refine ed_addL (by simp; omega) ?_
    walk_at "e"
    refine ev_drawR ⟨_, rfl, ?_⟩
    walk_at "e"
    refine ⟨_, _, _, rfl, rfl, hR, by omega, by omega, by omega, fun v2 cs c0 c1 hR => ?_⟩
    walk_at "e"
    refine ed_rev ?_
    walk_at "e"
    refine ed_addL (by simp; omega) ?_
    walk_at "e"
    refine ed_addL (by rw [cut_to (by decide)]; simp; omega) ?_
    walk_at "e"
    refine ⟨_, _, rfl, ?_⟩
    walk_at "e"
    refine ev_drawR ⟨_, rfl, ?_⟩
    walk_at "e"
    refine ⟨_, _, _, rfl, rfl, hR, by omega, by decide, by decide, fun v3 cs d0 d1 hR => ?_⟩
    refine ed_pick (P := fun d => ∃ b1 b2 n, Thing (wb p ls) d b1 b2 n) d0 d1 (fun d hd => ?_) ?_
    · simp only [List.mem_cons, List.not_mem_nil, or_false] at hd
      rcases hd with rfl | rfl | rfl | rfl | rfl | rfl | rfl | rfl | rfl
      · exact ⟨_, _, _, thing_odd hW hw (Nat.zero_le _) rfl rfl (law_noseq rfl) ⟨_, rfl⟩ false 0⟩
      · exact ⟨_, _, _, thing_R hW hw (ride_lE []) (by simp) (fun _ h => nomatch h)⟩
      · exact ⟨_, _, _, thing_R (es := []) hW hw (ride_of (sq_t _)) (by simp) (fun _ h => nomatch h)⟩
      · exact ⟨_, _, _, thing_odd hW hw (Nat.zero_le _) rfl rfl (law_noseq rfl) ⟨_, repr_int (by decide +kernel)⟩ false 0⟩
      · exact ⟨_, _, _, thing_odd hW hw (Nat.zero_le _) rfl rfl (law_noseq rfl) ⟨_, repr_str (by decide +kernel)⟩ false 0⟩
      · rw [show (es.map en).reverse ++ [PyData.tuple [.int 0, .int 2]] = (es.reverse ++ [((0 : Int), (2 : Int))]).map en from by rw [List.map_append, List.map_reverse]; rfl]
        refine ⟨_, _, _, thing_R hW hw (ride_lE _) (by simp; omega) fun e he => ?_⟩
        rcases List.mem_append.mp he with he | he
        · exact hsm e (List.mem_reverse.mp he)
        · rw [List.mem_singleton.mp he]; exact ⟨by decide, by decide⟩
      · rw [cut_to (by decide), ← List.map_take, ← List.map_append]
        refine ⟨_, _, _, thing_R hW hw (ride_lE _) (by simp; omega) fun e he => ?_⟩
        rcases List.mem_append.mp he with he | he
        · exact hsm e he
        · exact hsm e (List.mem_of_mem_take he)
      · exact ⟨_, _, _, thing_odd hW hw (by decide) (by simp [rideD, seqOf, endD]) (by simp [roundD, seqOf, endD]) (law_triple hW) (by
          obtain ⟨z, e, q⟩ := ed_repr (Q := fun z => ∃ t, z = .str t) (sq_l _) (shw_list (n := 1) (m := 200) (ds := [.tuple [.int 0, .int 0, .int 0]]) fun d hd => by
            rw [List.mem_singleton.mp hd]
            exact (shw_tup (n := 0) (m := 40) (ds := [.int 0, .int 0, .int 0]) fun d hd => by
              simp only [List.mem_cons, List.not_mem_nil, or_false] at hd
              rcases hd with rfl | rfl | rfl <;> exact shw_int (by decide)).mono (by decide) (by decide)) ⟨_, rfl⟩ (by decide) (by decide)
          obtain ⟨t, rfl⟩ := q
          exact ⟨t, e⟩) false 0⟩
      · exact ⟨_, _, _, thing_odd hW hw (Nat.zero_le _) rfl rfl (law_noseq rfl) ⟨_, rfl⟩ false 0⟩
    intro odd hodd
    walk_at "e"
    have hcut : ∃ fs : List (Int × Int), cutL (es.map en ++ es.map en) (some at_) (some (at_ + 1 + v2)) = fs.map en ∧ fs.length ≤ 100 ∧ ∀ e ∈ fs, e.1.natAbs < 10 ^ 12 ∧ e.2.natAbs < 10 ^ 12 := by
      rw [← List.map_append, cut_map]
      refine ⟨_, rfl, ?_, fun e he => ?_⟩
      · rw [Bg.cut_mid (by omega) (by omega)]
        simp; omega
      · rw [Bg.cut_mid (by omega) (by omega)] at he
        rcases List.mem_append.mp (List.mem_of_mem_take (List.mem_of_mem_drop he)) with he | he
        · exact hsm e he
        · exact hsm e he
    obtain ⟨fs, hf, hfl, hfs⟩ := hcut
    rw [hf]
    have hth : ∀ q ∈ thingsOf (.list (es.map en)) (.int at_) num (.list (fs.map en)) odd, ∃ b1 b2 n, Thing (wb p ls) q.1 b1 b2 n := by
      have t1 : ∃ b1 b2 n, Thing (wb p ls) (.list (es.map en)) b1 b2 n := ⟨_, _, _, thing_R hW hw (ride_lE es) (by omega) hsm⟩
      have t2 : ∃ b1 b2 n, Thing (wb p ls) (.list (fs.map en)) b1 b2 n := ⟨_, _, _, thing_R hW hw (ride_lE fs) (by omega) hfs⟩
      intro q hq
      unfold thingsOf at hq
      simp only [List.mem_cons, List.not_mem_nil, or_false] at hq
      rcases hq with rfl | rfl | rfl | rfl | rfl | rfl
      · exact t1
      · exact t1
      · exact t2
      · exact t2
      · exact hodd
      · exact hodd
    refine eo_loopX (xs := thingsOf (.list (es.map en)) (.int at_) num (.list (fs.map en)) odd) (enc := pairE) (fun t S => ∃ y5 y6 y7 y8 y9 y10 y11 y12 y13 y14 y15, S = ⟨[some (.scr ns), some (.own 0), some (.dat (.int (0 + (i : Int)))), some (.dat (wb p ls)), some (.dat (.list (es.map en))), y5, y6, y7, y8, y9, y10, y11, y12, y13, y14, y15], [some (.lst cs)]⟩) ⟨_, _, _, _, _, _, _, _, _, _, _, rfl⟩ ?_ ?_
    · rintro t q S hx ⟨y5, y6, y7, y8, y9, y10, y11, y12, y13, y14, y15, rfl⟩
      obtain ⟨b1, b2, n, th⟩ := hth q (List.mem_of_getElem? hx)
      obtain ⟨d, s⟩ := q
      obtain ⟨sh, hsh⟩ := th.sh
      refine es_tup2 ?_
      walk_at "e"
      refine Ed.of hsh ?_
      walk_at "e"
      refine Ed.of (mul4 _) ?_
      refine then_nx' ⟨_, rfl, ?_⟩
      refine eo_mid (fun S => S = ⟨[some (.scr ns), some (.own 0), some (.dat (.int (0 + (i : Int)))), some (.dat (wb p ls)), some (.dat (.list (es.map en))), y5, y6, y7, y8, y9, y10, some (.dat d), some (.dat s), some (.dat (.str sh)), some (.dat (.list (dueOf b1 b2 (placeD n s)))), y15], [some (.lst cs)]⟩) ?_ ?_
      · walk_at "e"
        refine Ed.of th.l1 ?_
        walk_at "e"
        cases b1 with
        | false =>
          refine split_t rfl ?_
          walk_at "e"
          refine Ed.of (mul4 _) ?_
          walk_at "e"
          rfl
        | true =>
          refine split_f rfl ?_
          walk_at "e"
          refine Ed.of (th.l2 rfl) ?_
          walk_at "e"
          cases b2 with
          | false =>
            refine split_t rfl ?_
            walk_at "e"
            rfl
          | true =>
            refine split_f rfl ?_
            walk_at "e"
            obtain ⟨g1, g2, g3⟩ := spot_law (n := n) s
            obtain ⟨xs, sx, hxl⟩ := th.ll rfl rfl
            cases hb : isT "bool" s with
            | true =>
              rw [g1 hb]
              refine ⟨(fun z => nomatch z), fun _ => ?_⟩
              refine split_t rfl ?_
              walk_at "e"
              rfl
            | false =>
              refine ⟨fun _ => ?_, (fun z => nomatch z)⟩
              walk_at "e"
              cases hi2 : isT "int" s with
              | false =>
                rw [g2 hb hi2]
                refine ⟨(fun z => nomatch z), fun _ => ?_⟩
                refine split_t rfl ?_
                walk_at "e"
                rfl
              | true =>
                obtain ⟨i2, rfl⟩ := g3 hb hi2
                refine ⟨fun _ => ?_, (fun z => nomatch z)⟩
                walk_at "e"
                refine ev_chain ?_
                walk_at "e"
                by_cases h0 : 0 ≤ i2
                · refine split_t (by simpa using h0) ?_
                  walk_at "e"
                  refine ed_lenQ sx ?_
                  walk_at "e"
                  rw [hxl]
                  by_cases h1 : i2 < n
                  · refine split_f (by simpa using h1) ?_
                    walk_at "e"
                    rw [place_nat0 h0 h1]
                    rfl
                  · refine split_t (by simpa using h1) ?_
                    walk_at "e"
                    rw [place_not (.inr (by omega))]
                    rfl
                · refine split_f (by simpa using h0) ?_
                  refine ⟨false, rfl, ?_⟩
                  refine split_t rfl ?_
                  walk_at "e"
                  rw [place_not (.inl (by omega))]
                  rfl
      · rintro S rfl
        walk_at "e"
        refine ev_map (fun z => match z with | .int k => (dueOf b1 b2 (placeD n s)).getD k.toNat .none | z => z) ?_
        walk_at "e"
        refine ⟨by decide, by decide, fun z hz => ?_, ?_⟩
        · obtain ⟨k, hk, rfl⟩ := rng_mem hz
          rw [show Int.toNat 4 = 4 from rfl] at hk
          walk_at "e"
          refine Ed.of (th.q s (0 + (k : Int)) (by omega) (by omega)) ?_
          exact ⟨rfl, rfl⟩
        · rw [show (rng 0 (Int.toNat 4)).map (fun z => match z with | .int k => (dueOf b1 b2 (placeD n s)).getD k.toNat .none | z => z) = dueOf b1 b2 (placeD n s) from by
            cases b1 <;> cases b2 <;> cases placeD n s <;> rfl]
          walk_at "e"
          refine Ed.of (dNe_self (by cases b1 <;> cases b2 <;> cases placeD n s <;> decide +kernel)) ?_
          refine ⟨false, rfl, ⟨fun _ => ?_, (fun z => nomatch z)⟩⟩
          walk_at "e"
          refine Ed.of hsh ?_
          walk_at "e"
          refine Ed.of (dNe_str_self _) ?_
          refine ⟨false, rfl, ?_⟩
          walk_at "e"
          refine split_f rfl ?_
          walk_at "e"
          exact ⟨_, _, _, _, _, _, _, _, _, _, _, rfl⟩
    · rintro S ⟨y5, y6, y7, y8, y9, y10, y11, y12, y13, y14, y15, rfl⟩
      walk_at "e"
      exact ⟨_, _, _, _, _, _, _, _, _, _, _, _, _, _, _, rfl, hR.mono (by omega)⟩
  · rintro S ⟨x2, x3, x4, x5, x6, x7, x8, x9, x10, x11, x12, x13, x14, x15, cs, rfl, hR⟩
    walk_at "e"
    exact ⟨_, rfl⟩
end Lw.k21

set_option maxHeartbeats 16000000
namespace Lw.k21
open PySem PySem.Spec PyProof.Rows L2 RZ Fu Lw
theorem all_mk {l : PySem.W.OpenLaw} {w : World} {K : PySem.W.Frag} {h : Heap} {mg : Str → Option Value} {fa : Addr} (X : K.In h) (G : h.Ns mainGlobals mg) (hfa : mg "law" = some (.ref fa))
    {f__law_spring : Addr} {od__law_spring an__law_spring : Option Addr} {sl__law_spring : Array (Option Value)} {oc__law_spring kV__law_spring dc__law_spring pm__law_spring cd__law_spring ct__law_spring : Value}
    (a__law_spring : PySem.W.nsIn K mainGlobals "_law_spring" = some (some (.ref f__law_spring)))
    (l__law_spring : K.lookup f__law_spring = some ⟨oc__law_spring, od__law_spring, .func (PySem.W.fnOf "_law_spring" "_law_spring" (defArgs s__law_spring) (defBody s__law_spring) (defScope s__law_spring) .none kV__law_spring dc__law_spring pm__law_spring an__law_spring cd__law_spring ct__law_spring), sl__law_spring⟩)
    (c__law_spring : PySem.W.codeIn K cd__law_spring "_law_spring" = true)
    (k__law_spring : PySem.W.keepIn K (.ref f__law_spring) = true)
    {f__law_draw : Addr} {od__law_draw an__law_draw : Option Addr} {sl__law_draw : Array (Option Value)} {oc__law_draw kV__law_draw dc__law_draw pm__law_draw cd__law_draw ct__law_draw : Value}
    (a__law_draw : PySem.W.nsIn K mainGlobals "_law_draw" = some (some (.ref f__law_draw)))
    (l__law_draw : K.lookup f__law_draw = some ⟨oc__law_draw, od__law_draw, .func (PySem.W.fnOf "_law_draw" "_law_draw" (defArgs s__law_draw) (defBody s__law_draw) (defScope s__law_draw) .none kV__law_draw dc__law_draw pm__law_draw an__law_draw cd__law_draw ct__law_draw), sl__law_draw⟩)
    (c__law_draw : PySem.W.codeIn K cd__law_draw "_law_draw" = true)
    (k__law_draw : PySem.W.keepIn K (.ref f__law_draw) = true)
    {f__law_circle : Addr} {od__law_circle an__law_circle : Option Addr} {sl__law_circle : Array (Option Value)} {oc__law_circle kV__law_circle dc__law_circle pm__law_circle cd__law_circle ct__law_circle : Value}
    (a__law_circle : PySem.W.nsIn K mainGlobals "_law_circle" = some (some (.ref f__law_circle)))
    (l__law_circle : K.lookup f__law_circle = some ⟨oc__law_circle, od__law_circle, .func (PySem.W.fnOf "_law_circle" "_law_circle" (defArgs s__law_circle) (defBody s__law_circle) (defScope s__law_circle) .none kV__law_circle dc__law_circle pm__law_circle an__law_circle cd__law_circle ct__law_circle), sl__law_circle⟩)
    (c__law_circle : PySem.W.codeIn K cd__law_circle "_law_circle" = true)
    (k__law_circle : PySem.W.keepIn K (.ref f__law_circle) = true)
    {f__law_planted : Addr} {od__law_planted an__law_planted : Option Addr} {sl__law_planted : Array (Option Value)} {oc__law_planted kV__law_planted dc__law_planted pm__law_planted cd__law_planted ct__law_planted : Value}
    (a__law_planted : PySem.W.nsIn K mainGlobals "_law_planted" = some (some (.ref f__law_planted)))
    (l__law_planted : K.lookup f__law_planted = some ⟨oc__law_planted, od__law_planted, .func (PySem.W.fnOf "_law_planted" "_law_planted" (defArgs s__law_planted) (defBody s__law_planted) (defScope s__law_planted) .none kV__law_planted dc__law_planted pm__law_planted an__law_planted cd__law_planted ct__law_planted), sl__law_planted⟩)
    (c__law_planted : PySem.W.codeIn K cd__law_planted "_law_planted" = true)
    (k__law_planted : PySem.W.keepIn K (.ref f__law_planted) = true)
    {f__law_is_end : Addr} {od__law_is_end an__law_is_end : Option Addr} {sl__law_is_end : Array (Option Value)} {oc__law_is_end kV__law_is_end dc__law_is_end pm__law_is_end cd__law_is_end ct__law_is_end : Value}
    (a__law_is_end : PySem.W.nsIn K mainGlobals "_law_is_end" = some (some (.ref f__law_is_end)))
    (l__law_is_end : K.lookup f__law_is_end = some ⟨oc__law_is_end, od__law_is_end, .func (PySem.W.fnOf "_law_is_end" "_law_is_end" (defArgs s__law_is_end) (defBody s__law_is_end) (defScope s__law_is_end) .none kV__law_is_end dc__law_is_end pm__law_is_end an__law_is_end cd__law_is_end ct__law_is_end), sl__law_is_end⟩)
    (c__law_is_end : PySem.W.codeIn K cd__law_is_end "_law_is_end" = true)
    (k__law_is_end : PySem.W.keepIn K (.ref f__law_is_end) = true)
    {f__law_at : Addr} {od__law_at an__law_at : Option Addr} {sl__law_at : Array (Option Value)} {oc__law_at kV__law_at dc__law_at pm__law_at cd__law_at ct__law_at : Value}
    (a__law_at : PySem.W.nsIn K mainGlobals "_law_at" = some (some (.ref f__law_at)))
    (l__law_at : K.lookup f__law_at = some ⟨oc__law_at, od__law_at, .func (PySem.W.fnOf "_law_at" "_law_at" (defArgs s__law_at) (defBody s__law_at) (defScope s__law_at) .none kV__law_at dc__law_at pm__law_at an__law_at cd__law_at ct__law_at), sl__law_at⟩)
    (c__law_at : PySem.W.codeIn K cd__law_at "_law_at" = true)
    (k__law_at : PySem.W.keepIn K (.ref f__law_at) = true)
    {f__law_other : Addr} {od__law_other an__law_other : Option Addr} {sl__law_other : Array (Option Value)} {oc__law_other kV__law_other dc__law_other pm__law_other cd__law_other ct__law_other : Value}
    (a__law_other : PySem.W.nsIn K mainGlobals "_law_other" = some (some (.ref f__law_other)))
    (l__law_other : K.lookup f__law_other = some ⟨oc__law_other, od__law_other, .func (PySem.W.fnOf "_law_other" "_law_other" (defArgs s__law_other) (defBody s__law_other) (defScope s__law_other) .none kV__law_other dc__law_other pm__law_other an__law_other cd__law_other ct__law_other), sl__law_other⟩)
    (c__law_other : PySem.W.codeIn K cd__law_other "_law_other" = true)
    (k__law_other : PySem.W.keepIn K (.ref f__law_other) = true)
    {f__law_goes : Addr} {od__law_goes an__law_goes : Option Addr} {sl__law_goes : Array (Option Value)} {oc__law_goes kV__law_goes dc__law_goes pm__law_goes cd__law_goes ct__law_goes : Value}
    (a__law_goes : PySem.W.nsIn K mainGlobals "_law_goes" = some (some (.ref f__law_goes)))
    (l__law_goes : K.lookup f__law_goes = some ⟨oc__law_goes, od__law_goes, .func (PySem.W.fnOf "_law_goes" "_law_goes" (defArgs s__law_goes) (defBody s__law_goes) (defScope s__law_goes) .none kV__law_goes dc__law_goes pm__law_goes an__law_goes cd__law_goes ct__law_goes), sl__law_goes⟩)
    (c__law_goes : PySem.W.codeIn K cd__law_goes "_law_goes" = true)
    (k__law_goes : PySem.W.keepIn K (.ref f__law_goes) = true)
    {f__law_is_ride : Addr} {od__law_is_ride an__law_is_ride : Option Addr} {sl__law_is_ride : Array (Option Value)} {oc__law_is_ride kV__law_is_ride dc__law_is_ride pm__law_is_ride cd__law_is_ride ct__law_is_ride : Value}
    (a__law_is_ride : PySem.W.nsIn K mainGlobals "_law_is_ride" = some (some (.ref f__law_is_ride)))
    (l__law_is_ride : K.lookup f__law_is_ride = some ⟨oc__law_is_ride, od__law_is_ride, .func (PySem.W.fnOf "_law_is_ride" "_law_is_ride" (defArgs s__law_is_ride) (defBody s__law_is_ride) (defScope s__law_is_ride) .none kV__law_is_ride dc__law_is_ride pm__law_is_ride an__law_is_ride cd__law_is_ride ct__law_is_ride), sl__law_is_ride⟩)
    (c__law_is_ride : PySem.W.codeIn K cd__law_is_ride "_law_is_ride" = true)
    (k__law_is_ride : PySem.W.keepIn K (.ref f__law_is_ride) = true)
    {f__law_is_round : Addr} {od__law_is_round an__law_is_round : Option Addr} {sl__law_is_round : Array (Option Value)} {oc__law_is_round kV__law_is_round dc__law_is_round pm__law_is_round cd__law_is_round ct__law_is_round : Value}
    (a__law_is_round : PySem.W.nsIn K mainGlobals "_law_is_round" = some (some (.ref f__law_is_round)))
    (l__law_is_round : K.lookup f__law_is_round = some ⟨oc__law_is_round, od__law_is_round, .func (PySem.W.fnOf "_law_is_round" "_law_is_round" (defArgs s__law_is_round) (defBody s__law_is_round) (defScope s__law_is_round) .none kV__law_is_round dc__law_is_round pm__law_is_round an__law_is_round cd__law_is_round ct__law_is_round), sl__law_is_round⟩)
    (c__law_is_round : PySem.W.codeIn K cd__law_is_round "_law_is_round" = true)
    (k__law_is_round : PySem.W.keepIn K (.ref f__law_is_round) = true)
    {f__law_word : Addr} {od__law_word an__law_word : Option Addr} {sl__law_word : Array (Option Value)} {oc__law_word kV__law_word dc__law_word pm__law_word cd__law_word ct__law_word : Value}
    (a__law_word : PySem.W.nsIn K mainGlobals "_law_word" = some (some (.ref f__law_word)))
    (l__law_word : K.lookup f__law_word = some ⟨oc__law_word, od__law_word, .func (PySem.W.fnOf "_law_word" "_law_word" (defArgs s__law_word) (defBody s__law_word) (defScope s__law_word) .none kV__law_word dc__law_word pm__law_word an__law_word cd__law_word ct__law_word), sl__law_word⟩)
    (c__law_word : PySem.W.codeIn K cd__law_word "_law_word" = true)
    (k__law_word : PySem.W.keepIn K (.ref f__law_word) = true)
    {f_place_of : Addr} {od_place_of an_place_of : Option Addr} {sl_place_of : Array (Option Value)} {oc_place_of kV_place_of dc_place_of pm_place_of cd_place_of ct_place_of : Value}
    (a_place_of : PySem.W.nsIn K mainGlobals "place_of" = some (some (.ref f_place_of)))
    (l_place_of : K.lookup f_place_of = some ⟨oc_place_of, od_place_of, .func (PySem.W.fnOf "place_of" "place_of" (defArgs s_place_of) (defBody s_place_of) (defScope s_place_of) .none kV_place_of dc_place_of pm_place_of an_place_of cd_place_of ct_place_of), sl_place_of⟩)
    (c_place_of : PySem.W.codeIn K cd_place_of "place_of" = true)
    (k_place_of : PySem.W.keepIn K (.ref f_place_of) = true)
    {f_company_of : Addr} {od_company_of an_company_of : Option Addr} {sl_company_of : Array (Option Value)} {oc_company_of kV_company_of dc_company_of pm_company_of cd_company_of ct_company_of : Value}
    (a_company_of : PySem.W.nsIn K mainGlobals "company_of" = some (some (.ref f_company_of)))
    (l_company_of : K.lookup f_company_of = some ⟨oc_company_of, od_company_of, .func (PySem.W.fnOf "company_of" "company_of" (defArgs s_company_of) (defBody s_company_of) (defScope s_company_of) .none kV_company_of dc_company_of pm_company_of an_company_of cd_company_of ct_company_of), sl_company_of⟩)
    (c_company_of : PySem.W.codeIn K cd_company_of "company_of" = true)
    (k_company_of : PySem.W.keepIn K (.ref f_company_of) = true)
    {f_far_end : Addr} {od_far_end an_far_end : Option Addr} {sl_far_end : Array (Option Value)} {oc_far_end kV_far_end dc_far_end pm_far_end cd_far_end ct_far_end : Value}
    (a_far_end : PySem.W.nsIn K mainGlobals "far_end" = some (some (.ref f_far_end)))
    (l_far_end : K.lookup f_far_end = some ⟨oc_far_end, od_far_end, .func (PySem.W.fnOf "far_end" "far_end" (defArgs s_far_end) (defBody s_far_end) (defScope s_far_end) .none kV_far_end dc_far_end pm_far_end an_far_end cd_far_end ct_far_end), sl_far_end⟩)
    (c_far_end : PySem.W.codeIn K cd_far_end "far_end" = true)
    (k_far_end : PySem.W.keepIn K (.ref f_far_end) = true)
    {f_can_go_on : Addr} {od_can_go_on an_can_go_on : Option Addr} {sl_can_go_on : Array (Option Value)} {oc_can_go_on kV_can_go_on dc_can_go_on pm_can_go_on cd_can_go_on ct_can_go_on : Value}
    (a_can_go_on : PySem.W.nsIn K mainGlobals "can_go_on" = some (some (.ref f_can_go_on)))
    (l_can_go_on : K.lookup f_can_go_on = some ⟨oc_can_go_on, od_can_go_on, .func (PySem.W.fnOf "can_go_on" "can_go_on" (defArgs s_can_go_on) (defBody s_can_go_on) (defScope s_can_go_on) .none kV_can_go_on dc_can_go_on pm_can_go_on an_can_go_on cd_can_go_on ct_can_go_on), sl_can_go_on⟩)
    (c_can_go_on : PySem.W.codeIn K cd_can_go_on "can_go_on" = true)
    (k_can_go_on : PySem.W.keepIn K (.ref f_can_go_on) = true)
    {f_is_row : Addr} {od_is_row an_is_row : Option Addr} {sl_is_row : Array (Option Value)} {oc_is_row kV_is_row dc_is_row pm_is_row cd_is_row ct_is_row : Value}
    (a_is_row : PySem.W.nsIn K mainGlobals "is_row" = some (some (.ref f_is_row)))
    (l_is_row : K.lookup f_is_row = some ⟨oc_is_row, od_is_row, .func (PySem.W.fnOf "is_row" "is_row" (defArgs s_is_row) (defBody s_is_row) (defScope s_is_row) .none kV_is_row dc_is_row pm_is_row an_is_row cd_is_row ct_is_row), sl_is_row⟩)
    (c_is_row : PySem.W.codeIn K cd_is_row "is_row" = true)
    (k_is_row : PySem.W.keepIn K (.ref f_is_row) = true)
    {f_is_whole : Addr} {od_is_whole an_is_whole : Option Addr} {sl_is_whole : Array (Option Value)} {oc_is_whole kV_is_whole dc_is_whole pm_is_whole cd_is_whole ct_is_whole : Value}
    (a_is_whole : PySem.W.nsIn K mainGlobals "is_whole" = some (some (.ref f_is_whole)))
    (l_is_whole : K.lookup f_is_whole = some ⟨oc_is_whole, od_is_whole, .func (PySem.W.fnOf "is_whole" "is_whole" (defArgs s_is_whole) (defBody s_is_whole) (defScope s_is_whole) .none kV_is_whole dc_is_whole pm_is_whole an_is_whole cd_is_whole ct_is_whole), sl_is_whole⟩)
    (c_is_whole : PySem.W.codeIn K cd_is_whole "is_whole" = true)
    (k_is_whole : PySem.W.keepIn K (.ref f_is_whole) = true)
    {f_is_end : Addr} {od_is_end an_is_end : Option Addr} {sl_is_end : Array (Option Value)} {oc_is_end kV_is_end dc_is_end pm_is_end cd_is_end ct_is_end : Value}
    (a_is_end : PySem.W.nsIn K mainGlobals "is_end" = some (some (.ref f_is_end)))
    (l_is_end : K.lookup f_is_end = some ⟨oc_is_end, od_is_end, .func (PySem.W.fnOf "is_end" "is_end" (defArgs s_is_end) (defBody s_is_end) (defScope s_is_end) .none kV_is_end dc_is_end pm_is_end an_is_end cd_is_end ct_is_end), sl_is_end⟩)
    (c_is_end : PySem.W.codeIn K cd_is_end "is_end" = true)
    (k_is_end : PySem.W.keepIn K (.ref f_is_end) = true)
    {f_ride_is : Addr} {od_ride_is an_ride_is : Option Addr} {sl_ride_is : Array (Option Value)} {oc_ride_is kV_ride_is dc_ride_is pm_ride_is cd_ride_is ct_ride_is : Value}
    (a_ride_is : PySem.W.nsIn K mainGlobals "ride_is" = some (some (.ref f_ride_is)))
    (l_ride_is : K.lookup f_ride_is = some ⟨oc_ride_is, od_ride_is, .func (PySem.W.fnOf "ride_is" "ride_is" (defArgs s_ride_is) (defBody s_ride_is) (defScope s_ride_is) .none kV_ride_is dc_ride_is pm_ride_is an_ride_is cd_ride_is ct_ride_is), sl_ride_is⟩)
    (c_ride_is : PySem.W.codeIn K cd_ride_is "ride_is" = true)
    (k_ride_is : PySem.W.keepIn K (.ref f_ride_is) = true)
    {f_round_is : Addr} {od_round_is an_round_is : Option Addr} {sl_round_is : Array (Option Value)} {oc_round_is kV_round_is dc_round_is pm_round_is cd_round_is ct_round_is : Value}
    (a_round_is : PySem.W.nsIn K mainGlobals "round_is" = some (some (.ref f_round_is)))
    (l_round_is : K.lookup f_round_is = some ⟨oc_round_is, od_round_is, .func (PySem.W.fnOf "round_is" "round_is" (defArgs s_round_is) (defBody s_round_is) (defScope s_round_is) .none kV_round_is dc_round_is pm_round_is an_round_is cd_round_is ct_round_is), sl_round_is⟩)
    (c_round_is : PySem.W.codeIn K cd_round_is "round_is" = true)
    (k_round_is : PySem.W.keepIn K (.ref f_round_is) = true)
    {f_need_round : Addr} {od_need_round an_need_round : Option Addr} {sl_need_round : Array (Option Value)} {oc_need_round kV_need_round dc_need_round pm_need_round cd_need_round ct_need_round : Value}
    (a_need_round : PySem.W.nsIn K mainGlobals "need_round" = some (some (.ref f_need_round)))
    (l_need_round : K.lookup f_need_round = some ⟨oc_need_round, od_need_round, .func (PySem.W.fnOf "need_round" "need_round" (defArgs s_need_round) (defBody s_need_round) (defScope s_need_round) .none kV_need_round dc_need_round pm_need_round an_need_round cd_need_round ct_need_round), sl_need_round⟩)
    (c_need_round : PySem.W.codeIn K cd_need_round "need_round" = true)
    (k_need_round : PySem.W.keepIn K (.ref f_need_round) = true)
    {f_begun_at : Addr} {od_begun_at an_begun_at : Option Addr} {sl_begun_at : Array (Option Value)} {oc_begun_at kV_begun_at dc_begun_at pm_begun_at cd_begun_at ct_begun_at : Value}
    (a_begun_at : PySem.W.nsIn K mainGlobals "begun_at" = some (some (.ref f_begun_at)))
    (l_begun_at : K.lookup f_begun_at = some ⟨oc_begun_at, od_begun_at, .func (PySem.W.fnOf "begun_at" "begun_at" (defArgs s_begun_at) (defBody s_begun_at) (defScope s_begun_at) .none kV_begun_at dc_begun_at pm_begun_at an_begun_at cd_begun_at ct_begun_at), sl_begun_at⟩)
    (c_begun_at : PySem.W.codeIn K cd_begun_at "begun_at" = true)
    (k_begun_at : PySem.W.keepIn K (.ref f_begun_at) = true)
    {f_faced_about : Addr} {od_faced_about an_faced_about : Option Addr} {sl_faced_about : Array (Option Value)} {oc_faced_about kV_faced_about dc_faced_about pm_faced_about cd_faced_about ct_faced_about : Value}
    (a_faced_about : PySem.W.nsIn K mainGlobals "faced_about" = some (some (.ref f_faced_about)))
    (l_faced_about : K.lookup f_faced_about = some ⟨oc_faced_about, od_faced_about, .func (PySem.W.fnOf "faced_about" "faced_about" (defArgs s_faced_about) (defBody s_faced_about) (defScope s_faced_about) .none kV_faced_about dc_faced_about pm_faced_about an_faced_about cd_faced_about ct_faced_about), sl_faced_about⟩)
    (c_faced_about : PySem.W.codeIn K cd_faced_about "faced_about" = true)
    (k_faced_about : PySem.W.keepIn K (.ref f_faced_about) = true)
    {f_all_ways : Addr} {od_all_ways an_all_ways : Option Addr} {sl_all_ways : Array (Option Value)} {oc_all_ways kV_all_ways dc_all_ways pm_all_ways cd_all_ways ct_all_ways : Value}
    (a_all_ways : PySem.W.nsIn K mainGlobals "all_ways" = some (some (.ref f_all_ways)))
    (l_all_ways : K.lookup f_all_ways = some ⟨oc_all_ways, od_all_ways, .func (PySem.W.fnOf "all_ways" "all_ways" (defArgs s_all_ways) (defBody s_all_ways) (defScope s_all_ways) .none kV_all_ways dc_all_ways pm_all_ways an_all_ways cd_all_ways ct_all_ways), sl_all_ways⟩)
    (c_all_ways : PySem.W.codeIn K cd_all_ways "all_ways" = true)
    (k_all_ways : PySem.W.keepIn K (.ref f_all_ways) = true)
    {f_least_round : Addr} {od_least_round an_least_round : Option Addr} {sl_least_round : Array (Option Value)} {oc_least_round kV_least_round dc_least_round pm_least_round cd_least_round ct_least_round : Value}
    (a_least_round : PySem.W.nsIn K mainGlobals "least_round" = some (some (.ref f_least_round)))
    (l_least_round : K.lookup f_least_round = some ⟨oc_least_round, od_least_round, .func (PySem.W.fnOf "least_round" "least_round" (defArgs s_least_round) (defBody s_least_round) (defScope s_least_round) .none kV_least_round dc_least_round pm_least_round an_least_round cd_least_round ct_least_round), sl_least_round⟩)
    (c_least_round : PySem.W.codeIn K cd_least_round "least_round" = true)
    (k_least_round : PySem.W.keepIn K (.ref f_least_round) = true)
    {f_need_ride : Addr} {od_need_ride an_need_ride : Option Addr} {sl_need_ride : Array (Option Value)} {oc_need_ride kV_need_ride dc_need_ride pm_need_ride cd_need_ride ct_need_ride : Value}
    (a_need_ride : PySem.W.nsIn K mainGlobals "need_ride" = some (some (.ref f_need_ride)))
    (l_need_ride : K.lookup f_need_ride = some ⟨oc_need_ride, od_need_ride, .func (PySem.W.fnOf "need_ride" "need_ride" (defArgs s_need_ride) (defBody s_need_ride) (defScope s_need_ride) .none kV_need_ride dc_need_ride pm_need_ride an_need_ride cd_need_ride ct_need_ride), sl_need_ride⟩)
    (c_need_ride : PySem.W.codeIn K cd_need_ride "need_ride" = true)
    (k_need_ride : PySem.W.keepIn K (.ref f_need_ride) = true)
    {f_about : Addr} {od_about an_about : Option Addr} {sl_about : Array (Option Value)} {oc_about kV_about dc_about pm_about cd_about ct_about : Value}
    (a_about : PySem.W.nsIn K mainGlobals "about" = some (some (.ref f_about)))
    (l_about : K.lookup f_about = some ⟨oc_about, od_about, .func (PySem.W.fnOf "about" "about" (defArgs s_about) (defBody s_about) (defScope s_about) .none kV_about dc_about pm_about an_about cd_about ct_about), sl_about⟩)
    (c_about : PySem.W.codeIn K cd_about "about" = true)
    (k_about : PySem.W.keepIn K (.ref f_about) = true)
    {f_places_along : Addr} {od_places_along an_places_along : Option Addr} {sl_places_along : Array (Option Value)} {oc_places_along kV_places_along dc_places_along pm_places_along cd_places_along ct_places_along : Value}
    (a_places_along : PySem.W.nsIn K mainGlobals "places_along" = some (some (.ref f_places_along)))
    (l_places_along : K.lookup f_places_along = some ⟨oc_places_along, od_places_along, .func (PySem.W.fnOf "places_along" "places_along" (defArgs s_places_along) (defBody s_places_along) (defScope s_places_along) .none kV_places_along dc_places_along pm_places_along an_places_along cd_places_along ct_places_along), sl_places_along⟩)
    (c_places_along : PySem.W.codeIn K cd_places_along "places_along" = true)
    (k_places_along : PySem.W.keepIn K (.ref f_places_along) = true)
    {f_places_of : Addr} {od_places_of an_places_of : Option Addr} {sl_places_of : Array (Option Value)} {oc_places_of kV_places_of dc_places_of pm_places_of cd_places_of ct_places_of : Value}
    (a_places_of : PySem.W.nsIn K mainGlobals "places_of" = some (some (.ref f_places_of)))
    (l_places_of : K.lookup f_places_of = some ⟨oc_places_of, od_places_of, .func (PySem.W.fnOf "places_of" "places_of" (defArgs s_places_of) (defBody s_places_of) (defScope s_places_of) .none kV_places_of dc_places_of pm_places_of an_places_of cd_places_of ct_places_of), sl_places_of⟩)
    (c_places_of : PySem.W.codeIn K cd_places_of "places_of" = true)
    (k_places_of : PySem.W.keepIn K (.ref f_places_of) = true)
    {f__law_asked : Addr} {od__law_asked an__law_asked : Option Addr} {sl__law_asked : Array (Option Value)} {oc__law_asked kV__law_asked dc__law_asked pm__law_asked cd__law_asked ct__law_asked : Value}
    (a__law_asked : PySem.W.nsIn K mainGlobals "_law_asked" = some (some (.ref f__law_asked)))
    (l__law_asked : K.lookup f__law_asked = some ⟨oc__law_asked, od__law_asked, .func (PySem.W.fnOf "_law_asked" "_law_asked" (defArgs s__law_asked) (defBody s__law_asked) (defScope s__law_asked) .none kV__law_asked dc__law_asked pm__law_asked an__law_asked cd__law_asked ct__law_asked), sl__law_asked⟩)
    (c__law_asked : PySem.W.codeIn K cd__law_asked "_law_asked" = true)
    (k__law_asked : PySem.W.keepIn K (.ref f__law_asked) = true)
    {f_law : Addr} {od_law an_law : Option Addr} {sl_law : Array (Option Value)} {oc_law kV_law dc_law pm_law cd_law ct_law : Value}
    (a_law : PySem.W.nsIn K mainGlobals "law" = some (some (.ref f_law)))
    (l_law : K.lookup f_law = some ⟨oc_law, od_law, .func (PySem.W.fnOf "law" "law" (defArgs s_law) (defBody s_law) (defScope s_law) .none kV_law dc_law pm_law an_law cd_law ct_law), sl_law⟩)
    (c_law : PySem.W.codeIn K cd_law "law" = true)
    (k_law : PySem.W.keepIn K (.ref f_law) = true)
    (z_ValueError : PySem.W.nsIn K mainGlobals "ValueError" = some none)
    (z_abs : PySem.W.nsIn K mainGlobals "abs" = some none)
    (z_all : PySem.W.nsIn K mainGlobals "all" = some none)
    (z_bool : PySem.W.nsIn K mainGlobals "bool" = some none)
    (z_int : PySem.W.nsIn K mainGlobals "int" = some none)
    (z_isinstance : PySem.W.nsIn K mainGlobals "isinstance" = some none)
    (z_len : PySem.W.nsIn K mainGlobals "len" = some none)
    (z_list : PySem.W.nsIn K mainGlobals "list" = some none)
    (z_min : PySem.W.nsIn K mainGlobals "min" = some none)
    (z_range : PySem.W.nsIn K mainGlobals "range" = some none)
    (z_repr : PySem.W.nsIn K mainGlobals "repr" = some none)
    (z_set : PySem.W.nsIn K mainGlobals "set" = some none)
    (z_tuple : PySem.W.nsIn K mainGlobals "tuple" = some none)
    (z_zip : PySem.W.nsIn K mainGlobals "zip" = some none)
    {t_SIDES : Tok}
    (n_SIDES : PySem.W.nsIn K mainGlobals "SIDES" = some (some (.int 2 t_SIDES)))
    {fc_NoCompany : Addr}
    (ac_NoCompany : PySem.W.nsIn K mainGlobals "NoCompany" = some (some (.ref fc_NoCompany)))
    {fc_NoEnd : Addr}
    (ac_NoEnd : PySem.W.nsIn K mainGlobals "NoEnd" = some (some (.ref fc_NoEnd)))
    {fc_NoForm : Addr}
    (ac_NoForm : PySem.W.nsIn K mainGlobals "NoForm" = some (some (.ref fc_NoForm)))
    {fc_NoLine : Addr}
    (ac_NoLine : PySem.W.nsIn K mainGlobals "NoLine" = some (some (.ref fc_NoLine)))
    {fc_NoNumber : Addr}
    (ac_NoNumber : PySem.W.nsIn K mainGlobals "NoNumber" = some (some (.ref fc_NoNumber)))
    {fc_NoPlace : Addr}
    (ac_NoPlace : PySem.W.nsIn K mainGlobals "NoPlace" = some (some (.ref fc_NoPlace)))
    {fc_NoRide : Addr}
    (ac_NoRide : PySem.W.nsIn K mainGlobals "NoRide" = some (some (.ref fc_NoRide)))
    {fc_NoText : Addr}
    (ac_NoText : PySem.W.nsIn K mainGlobals "NoText" = some (some (.ref fc_NoText)))
    {fc_NoTurning : Addr}
    (ac_NoTurning : PySem.W.nsIn K mainGlobals "NoTurning" = some (some (.ref fc_NoTurning)))
    {fc_NoWeb : Addr}
    (ac_NoWeb : PySem.W.nsIn K mainGlobals "NoWeb" = some (some (.ref fc_NoWeb)))
    {fc_NoneYet : Addr}
    (ac_NoneYet : PySem.W.nsIn K mainGlobals "NoneYet" = some (some (.ref fc_NoneYet)))
    {fc_RideError : Addr}
    (ac_RideError : PySem.W.nsIn K mainGlobals "RideError" = some (some (.ref fc_RideError)))
    {fc_TooMany : Addr}
    (ac_TooMany : PySem.W.nsIn K mainGlobals "TooMany" = some (some (.ref fc_TooMany)))
    (xx_NoRide : PySem.W.excIn K fc_NoRide [.type "ValueError", .type "Exception", .type "BaseException", .type "object"] "ValueError.__new__" = true)
    (xk_NoRide : PySem.W.keepIn K (.ref fc_NoRide) = true)
    (xe_NoRide : ExcC K fc_NoRide)
    (xx_NoNumber : PySem.W.excIn K fc_NoNumber [.type "ValueError", .type "Exception", .type "BaseException", .type "object"] "ValueError.__new__" = true)
    (xk_NoNumber : PySem.W.keepIn K (.ref fc_NoNumber) = true)
    (xe_NoNumber : ExcC K fc_NoNumber)
    (xb_NoCompany : PySem.W.subIn K (.ref fc_NoCompany) (.type "BaseException") = some true)
    (xt_NoCompany : PySem.W.typeIn K (.ref fc_NoCompany) = some (.type "type"))
    (xi_NoCompany : PySem.W.isClsIn K fc_NoCompany = true)
    (xb_NoEnd : PySem.W.subIn K (.ref fc_NoEnd) (.type "BaseException") = some true)
    (xt_NoEnd : PySem.W.typeIn K (.ref fc_NoEnd) = some (.type "type"))
    (xi_NoEnd : PySem.W.isClsIn K fc_NoEnd = true)
    (xb_NoForm : PySem.W.subIn K (.ref fc_NoForm) (.type "BaseException") = some true)
    (xt_NoForm : PySem.W.typeIn K (.ref fc_NoForm) = some (.type "type"))
    (xi_NoForm : PySem.W.isClsIn K fc_NoForm = true)
    (xb_NoLine : PySem.W.subIn K (.ref fc_NoLine) (.type "BaseException") = some true)
    (xt_NoLine : PySem.W.typeIn K (.ref fc_NoLine) = some (.type "type"))
    (xi_NoLine : PySem.W.isClsIn K fc_NoLine = true)
    (xb_NoNumber : PySem.W.subIn K (.ref fc_NoNumber) (.type "BaseException") = some true)
    (xt_NoNumber : PySem.W.typeIn K (.ref fc_NoNumber) = some (.type "type"))
    (xi_NoNumber : PySem.W.isClsIn K fc_NoNumber = true)
    (xb_NoPlace : PySem.W.subIn K (.ref fc_NoPlace) (.type "BaseException") = some true)
    (xt_NoPlace : PySem.W.typeIn K (.ref fc_NoPlace) = some (.type "type"))
    (xi_NoPlace : PySem.W.isClsIn K fc_NoPlace = true)
    (xb_NoRide : PySem.W.subIn K (.ref fc_NoRide) (.type "BaseException") = some true)
    (xt_NoRide : PySem.W.typeIn K (.ref fc_NoRide) = some (.type "type"))
    (xi_NoRide : PySem.W.isClsIn K fc_NoRide = true)
    (xb_NoText : PySem.W.subIn K (.ref fc_NoText) (.type "BaseException") = some true)
    (xt_NoText : PySem.W.typeIn K (.ref fc_NoText) = some (.type "type"))
    (xi_NoText : PySem.W.isClsIn K fc_NoText = true)
    (xb_NoTurning : PySem.W.subIn K (.ref fc_NoTurning) (.type "BaseException") = some true)
    (xt_NoTurning : PySem.W.typeIn K (.ref fc_NoTurning) = some (.type "type"))
    (xi_NoTurning : PySem.W.isClsIn K fc_NoTurning = true)
    (xb_NoWeb : PySem.W.subIn K (.ref fc_NoWeb) (.type "BaseException") = some true)
    (xt_NoWeb : PySem.W.typeIn K (.ref fc_NoWeb) = some (.type "type"))
    (xi_NoWeb : PySem.W.isClsIn K fc_NoWeb = true)
    (xb_NoneYet : PySem.W.subIn K (.ref fc_NoneYet) (.type "BaseException") = some true)
    (xt_NoneYet : PySem.W.typeIn K (.ref fc_NoneYet) = some (.type "type"))
    (xi_NoneYet : PySem.W.isClsIn K fc_NoneYet = true)
    (xb_RideError : PySem.W.subIn K (.ref fc_RideError) (.type "BaseException") = some true)
    (xt_RideError : PySem.W.typeIn K (.ref fc_RideError) = some (.type "type"))
    (xi_RideError : PySem.W.isClsIn K fc_RideError = true)
    (xb_TooMany : PySem.W.subIn K (.ref fc_TooMany) (.type "BaseException") = some true)
    (xt_TooMany : PySem.W.typeIn K (.ref fc_TooMany) = some (.type "type"))
    (xi_TooMany : PySem.W.isClsIn K fc_TooMany = true)
    (xs_NoRide_NoCompany : PySem.W.subIn K (.ref fc_NoRide) (.ref fc_NoCompany) = some false)
    (xs_NoRide_NoEnd : PySem.W.subIn K (.ref fc_NoRide) (.ref fc_NoEnd) = some false)
    (xs_NoRide_NoForm : PySem.W.subIn K (.ref fc_NoRide) (.ref fc_NoForm) = some false)
    (xs_NoRide_NoLine : PySem.W.subIn K (.ref fc_NoRide) (.ref fc_NoLine) = some false)
    (xs_NoRide_NoNumber : PySem.W.subIn K (.ref fc_NoRide) (.ref fc_NoNumber) = some false)
    (xs_NoRide_NoPlace : PySem.W.subIn K (.ref fc_NoRide) (.ref fc_NoPlace) = some false)
    (xs_NoRide_NoRide : PySem.W.subIn K (.ref fc_NoRide) (.ref fc_NoRide) = some true)
    (xs_NoRide_NoText : PySem.W.subIn K (.ref fc_NoRide) (.ref fc_NoText) = some false)
    (xs_NoRide_NoTurning : PySem.W.subIn K (.ref fc_NoRide) (.ref fc_NoTurning) = some false)
    (xs_NoRide_NoWeb : PySem.W.subIn K (.ref fc_NoRide) (.ref fc_NoWeb) = some false)
    (xs_NoRide_NoneYet : PySem.W.subIn K (.ref fc_NoRide) (.ref fc_NoneYet) = some false)
    (xs_NoRide_RideError : PySem.W.subIn K (.ref fc_NoRide) (.ref fc_RideError) = some true)
    (xs_NoRide_TooMany : PySem.W.subIn K (.ref fc_NoRide) (.ref fc_TooMany) = some false)
    (xv_NoRide_ValueError : PySem.W.subIn K (.ref fc_NoRide) (.type "ValueError") = some true)
    (xs_NoNumber_NoCompany : PySem.W.subIn K (.ref fc_NoNumber) (.ref fc_NoCompany) = some false)
    (xs_NoNumber_NoEnd : PySem.W.subIn K (.ref fc_NoNumber) (.ref fc_NoEnd) = some false)
    (xs_NoNumber_NoForm : PySem.W.subIn K (.ref fc_NoNumber) (.ref fc_NoForm) = some false)
    (xs_NoNumber_NoLine : PySem.W.subIn K (.ref fc_NoNumber) (.ref fc_NoLine) = some false)
    (xs_NoNumber_NoNumber : PySem.W.subIn K (.ref fc_NoNumber) (.ref fc_NoNumber) = some true)
    (xs_NoNumber_NoPlace : PySem.W.subIn K (.ref fc_NoNumber) (.ref fc_NoPlace) = some false)
    (xs_NoNumber_NoRide : PySem.W.subIn K (.ref fc_NoNumber) (.ref fc_NoRide) = some false)
    (xs_NoNumber_NoText : PySem.W.subIn K (.ref fc_NoNumber) (.ref fc_NoText) = some false)
    (xs_NoNumber_NoTurning : PySem.W.subIn K (.ref fc_NoNumber) (.ref fc_NoTurning) = some false)
    (xs_NoNumber_NoWeb : PySem.W.subIn K (.ref fc_NoNumber) (.ref fc_NoWeb) = some false)
    (xs_NoNumber_NoneYet : PySem.W.subIn K (.ref fc_NoNumber) (.ref fc_NoneYet) = some false)
    (xs_NoNumber_RideError : PySem.W.subIn K (.ref fc_NoNumber) (.ref fc_RideError) = some true)
    (xs_NoNumber_TooMany : PySem.W.subIn K (.ref fc_NoNumber) (.ref fc_TooMany) = some false)
    (xv_NoNumber_ValueError : PySem.W.subIn K (.ref fc_NoNumber) (.type "ValueError") = some true)
    : ∃ fd : FuncData, (∀ (s : Shared) (v : Value), BindsTo s fd ⟨[v], []⟩ [("script", v)]) ∧ ∀ base : Heap, K.In base → base.Ns mainGlobals mg → FnG l.prog w K mg base 8 fa fd ["script"] (spLaw K (mScr 16 g_law)) := by
  have e := hfa.symm.trans (PySem.W.mg_of X G a_law)
  cases e
  have T : Tx K mg := {
    d__law_spring := ⟨_, _, PySem.W.mg_of X G a__law_spring, fun_mk (st := s__law_spring) l__law_spring c__law_spring k__law_spring, (fun_mk (st := s__law_spring) l__law_spring c__law_spring k__law_spring).binds (ps := ["script"]) fun _ _ _ _ _ _ us hl => match us, hl with | [_], _ => rfl⟩
    d__law_draw := ⟨_, _, PySem.W.mg_of X G a__law_draw, fun_mk (st := s__law_draw) l__law_draw c__law_draw k__law_draw, (fun_mk (st := s__law_draw) l__law_draw c__law_draw k__law_draw).binds (ps := ["spring", "many"]) fun _ _ _ _ _ _ us hl => match us, hl with | [_, _], _ => rfl⟩
    d__law_circle := ⟨_, _, PySem.W.mg_of X G a__law_circle, fun_mk (st := s__law_circle) l__law_circle c__law_circle k__law_circle, (fun_mk (st := s__law_circle) l__law_circle c__law_circle k__law_circle).binds (ps := ["spring", "many", "places", "first"]) fun _ _ _ _ _ _ us hl => match us, hl with | [_, _, _, _], _ => rfl⟩
    d__law_planted := ⟨_, _, PySem.W.mg_of X G a__law_planted, fun_mk (st := s__law_planted) l__law_planted c__law_planted k__law_planted, (fun_mk (st := s__law_planted) l__law_planted c__law_planted k__law_planted).binds (ps := ["spring", "most"]) fun _ _ _ _ _ _ us hl => match us, hl with | [_, _], _ => rfl⟩
    d__law_is_end := ⟨_, _, PySem.W.mg_of X G a__law_is_end, fun_mk (st := s__law_is_end) l__law_is_end c__law_is_end k__law_is_end, (fun_mk (st := s__law_is_end) l__law_is_end c__law_is_end k__law_is_end).binds (ps := ["web", "thing"]) fun _ _ _ _ _ _ us hl => match us, hl with | [_, _], _ => rfl⟩
    d__law_at := ⟨_, _, PySem.W.mg_of X G a__law_at, fun_mk (st := s__law_at) l__law_at c__law_at k__law_at, (fun_mk (st := s__law_at) l__law_at c__law_at k__law_at).binds (ps := ["web", "end"]) fun _ _ _ _ _ _ us hl => match us, hl with | [_, _], _ => rfl⟩
    d__law_other := ⟨_, _, PySem.W.mg_of X G a__law_other, fun_mk (st := s__law_other) l__law_other c__law_other k__law_other, (fun_mk (st := s__law_other) l__law_other c__law_other k__law_other).binds (ps := ["end"]) fun _ _ _ _ _ _ us hl => match us, hl with | [_], _ => rfl⟩
    d__law_goes := ⟨_, _, PySem.W.mg_of X G a__law_goes, fun_mk (st := s__law_goes) l__law_goes c__law_goes k__law_goes, (fun_mk (st := s__law_goes) l__law_goes c__law_goes k__law_goes).binds (ps := ["web", "end", "later"]) fun _ _ _ _ _ _ us hl => match us, hl with | [_, _, _], _ => rfl⟩
    d__law_is_ride := ⟨_, _, PySem.W.mg_of X G a__law_is_ride, fun_mk (st := s__law_is_ride) l__law_is_ride c__law_is_ride k__law_is_ride, (fun_mk (st := s__law_is_ride) l__law_is_ride c__law_is_ride k__law_is_ride).binds (ps := ["web", "thing"]) fun _ _ _ _ _ _ us hl => match us, hl with | [_, _], _ => rfl⟩
    d__law_is_round := ⟨_, _, PySem.W.mg_of X G a__law_is_round, fun_mk (st := s__law_is_round) l__law_is_round c__law_is_round k__law_is_round, (fun_mk (st := s__law_is_round) l__law_is_round c__law_is_round k__law_is_round).binds (ps := ["web", "thing"]) fun _ _ _ _ _ _ us hl => match us, hl with | [_, _], _ => rfl⟩
    d__law_word := ⟨_, _, PySem.W.mg_of X G a__law_word, fun_mk (st := s__law_word) l__law_word c__law_word k__law_word, (fun_mk (st := s__law_word) l__law_word c__law_word k__law_word).binds (ps := ["caught"]) fun _ _ _ _ _ _ us hl => match us, hl with | [_], _ => rfl⟩
    d_place_of := ⟨_, _, PySem.W.mg_of X G a_place_of, fun_mk (st := s_place_of) l_place_of c_place_of k_place_of, (fun_mk (st := s_place_of) l_place_of c_place_of k_place_of).binds (ps := ["web", "end"]) fun _ _ _ _ _ _ us hl => match us, hl with | [_, _], _ => rfl⟩
    d_company_of := ⟨_, _, PySem.W.mg_of X G a_company_of, fun_mk (st := s_company_of) l_company_of c_company_of k_company_of, (fun_mk (st := s_company_of) l_company_of c_company_of k_company_of).binds (ps := ["web", "end"]) fun _ _ _ _ _ _ us hl => match us, hl with | [_, _], _ => rfl⟩
    d_far_end := ⟨_, _, PySem.W.mg_of X G a_far_end, fun_mk (st := s_far_end) l_far_end c_far_end k_far_end, (fun_mk (st := s_far_end) l_far_end c_far_end k_far_end).binds (ps := ["end"]) fun _ _ _ _ _ _ us hl => match us, hl with | [_], _ => rfl⟩
    d_can_go_on := ⟨_, _, PySem.W.mg_of X G a_can_go_on, fun_mk (st := s_can_go_on) l_can_go_on c_can_go_on k_can_go_on, (fun_mk (st := s_can_go_on) l_can_go_on c_can_go_on k_can_go_on).binds (ps := ["web", "end", "later"]) fun _ _ _ _ _ _ us hl => match us, hl with | [_, _, _], _ => rfl⟩
    d_is_row := ⟨_, _, PySem.W.mg_of X G a_is_row, fun_mk (st := s_is_row) l_is_row c_is_row k_is_row, (fun_mk (st := s_is_row) l_is_row c_is_row k_is_row).binds (ps := ["thing", "size"]) fun _ _ _ _ _ _ us hl => match us, hl with | [_, _], _ => rfl⟩
    d_is_whole := ⟨_, _, PySem.W.mg_of X G a_is_whole, fun_mk (st := s_is_whole) l_is_whole c_is_whole k_is_whole, (fun_mk (st := s_is_whole) l_is_whole c_is_whole k_is_whole).binds (ps := ["thing"]) fun _ _ _ _ _ _ us hl => match us, hl with | [_], _ => rfl⟩
    d_is_end := ⟨_, _, PySem.W.mg_of X G a_is_end, fun_mk (st := s_is_end) l_is_end c_is_end k_is_end, (fun_mk (st := s_is_end) l_is_end c_is_end k_is_end).binds (ps := ["web", "thing"]) fun _ _ _ _ _ _ us hl => match us, hl with | [_, _], _ => rfl⟩
    d_ride_is := ⟨_, _, PySem.W.mg_of X G a_ride_is, fun_mk (st := s_ride_is) l_ride_is c_ride_is k_ride_is, (fun_mk (st := s_ride_is) l_ride_is c_ride_is k_ride_is).binds (ps := ["web", "ride"]) fun _ _ _ _ _ _ us hl => match us, hl with | [_, _], _ => rfl⟩
    d_round_is := ⟨_, _, PySem.W.mg_of X G a_round_is, fun_mk (st := s_round_is) l_round_is c_round_is k_round_is, (fun_mk (st := s_round_is) l_round_is c_round_is k_round_is).binds (ps := ["web", "ride"]) fun _ _ _ _ _ _ us hl => match us, hl with | [_, _], _ => rfl⟩
    d_need_round := ⟨_, _, PySem.W.mg_of X G a_need_round, fun_mk (st := s_need_round) l_need_round c_need_round k_need_round, (fun_mk (st := s_need_round) l_need_round c_need_round k_need_round).binds (ps := ["web", "ride"]) fun _ _ _ _ _ _ us hl => match us, hl with | [_, _], _ => rfl⟩
    d_begun_at := ⟨_, _, PySem.W.mg_of X G a_begun_at, fun_mk (st := s_begun_at) l_begun_at c_begun_at k_begun_at, (fun_mk (st := s_begun_at) l_begun_at c_begun_at k_begun_at).binds (ps := ["web", "ride", "number"]) fun _ _ _ _ _ _ us hl => match us, hl with | [_, _, _], _ => rfl⟩
    d_faced_about := ⟨_, _, PySem.W.mg_of X G a_faced_about, fun_mk (st := s_faced_about) l_faced_about c_faced_about k_faced_about, (fun_mk (st := s_faced_about) l_faced_about c_faced_about k_faced_about).binds (ps := ["ends"]) fun _ _ _ _ _ _ us hl => match us, hl with | [_], _ => rfl⟩
    d_all_ways := ⟨_, _, PySem.W.mg_of X G a_all_ways, fun_mk (st := s_all_ways) l_all_ways c_all_ways k_all_ways, (fun_mk (st := s_all_ways) l_all_ways c_all_ways k_all_ways).binds (ps := ["ends"]) fun _ _ _ _ _ _ us hl => match us, hl with | [_], _ => rfl⟩
    d_least_round := ⟨_, _, PySem.W.mg_of X G a_least_round, fun_mk (st := s_least_round) l_least_round c_least_round k_least_round, (fun_mk (st := s_least_round) l_least_round c_least_round k_least_round).binds (ps := ["web", "ride"]) fun _ _ _ _ _ _ us hl => match us, hl with | [_, _], _ => rfl⟩
    d_need_ride := ⟨_, _, PySem.W.mg_of X G a_need_ride, fun_mk (st := s_need_ride) l_need_ride c_need_ride k_need_ride, (fun_mk (st := s_need_ride) l_need_ride c_need_ride k_need_ride).binds (ps := ["web", "ride"]) fun _ _ _ _ _ _ us hl => match us, hl with | [_, _], _ => rfl⟩
    d_about := ⟨_, _, PySem.W.mg_of X G a_about, fun_mk (st := s_about) l_about c_about k_about, (fun_mk (st := s_about) l_about c_about k_about).binds (ps := ["web", "ride"]) fun _ _ _ _ _ _ us hl => match us, hl with | [_, _], _ => rfl⟩
    d_places_along := ⟨_, _, PySem.W.mg_of X G a_places_along, fun_mk (st := s_places_along) l_places_along c_places_along k_places_along, (fun_mk (st := s_places_along) l_places_along c_places_along k_places_along).binds (ps := ["web", "ends"]) fun _ _ _ _ _ _ us hl => match us, hl with | [_, _], _ => rfl⟩
    d_places_of := ⟨_, _, PySem.W.mg_of X G a_places_of, fun_mk (st := s_places_of) l_places_of c_places_of k_places_of, (fun_mk (st := s_places_of) l_places_of c_places_of k_places_of).binds (ps := ["web", "ride"]) fun _ _ _ _ _ _ us hl => match us, hl with | [_, _], _ => rfl⟩
    d__law_asked := ⟨_, _, PySem.W.mg_of X G a__law_asked, fun_mk (st := s__law_asked) l__law_asked c__law_asked k__law_asked, (fun_mk (st := s__law_asked) l__law_asked c__law_asked k__law_asked).binds (ps := ["ask", "web", "thing", "number"]) fun _ _ _ _ _ _ us hl => match us, hl with | [_, _, _, _], _ => rfl⟩
    d_law := ⟨_, _, PySem.W.mg_of X G a_law, fun_mk (st := s_law) l_law c_law k_law, (fun_mk (st := s_law) l_law c_law k_law).binds (ps := ["script"]) fun _ _ _ _ _ _ us hl => match us, hl with | [_], _ => rfl⟩
    z_ValueError := PySem.W.mg_none_of X G z_ValueError
    z_abs := PySem.W.mg_none_of X G z_abs
    z_all := PySem.W.mg_none_of X G z_all
    z_bool := PySem.W.mg_none_of X G z_bool
    z_int := PySem.W.mg_none_of X G z_int
    z_isinstance := PySem.W.mg_none_of X G z_isinstance
    z_len := PySem.W.mg_none_of X G z_len
    z_list := PySem.W.mg_none_of X G z_list
    z_min := PySem.W.mg_none_of X G z_min
    z_range := PySem.W.mg_none_of X G z_range
    z_repr := PySem.W.mg_none_of X G z_repr
    z_set := PySem.W.mg_none_of X G z_set
    z_tuple := PySem.W.mg_none_of X G z_tuple
    z_zip := PySem.W.mg_none_of X G z_zip
    c_SIDES := ⟨_, PySem.W.mg_of X G n_SIDES⟩
    x_NoNumber := ⟨_, ac_NoNumber, PySem.W.mg_of X G ac_NoNumber, xx_NoNumber, xk_NoNumber, xb_NoNumber, xt_NoNumber⟩
    x_NoRide := ⟨_, ac_NoRide, PySem.W.mg_of X G ac_NoRide, xx_NoRide, xk_NoRide, xb_NoRide, xt_NoRide⟩
    i_NoCompany := ⟨_, PySem.W.mg_of X G ac_NoCompany, (alls_cons (ExcIs.mk ac_NoRide xe_NoRide (kit_own xx_NoRide xi_NoCompany xt_NoCompany xs_NoRide_NoCompany) (by decide +kernel)) (alls_cons (ExcIs.mk ac_NoNumber xe_NoNumber (kit_own xx_NoNumber xi_NoCompany xt_NoCompany xs_NoNumber_NoCompany) (by decide +kernel)) alls_nil))⟩
    i_NoEnd := ⟨_, PySem.W.mg_of X G ac_NoEnd, (alls_cons (ExcIs.mk ac_NoRide xe_NoRide (kit_own xx_NoRide xi_NoEnd xt_NoEnd xs_NoRide_NoEnd) (by decide +kernel)) (alls_cons (ExcIs.mk ac_NoNumber xe_NoNumber (kit_own xx_NoNumber xi_NoEnd xt_NoEnd xs_NoNumber_NoEnd) (by decide +kernel)) alls_nil))⟩
    i_NoForm := ⟨_, PySem.W.mg_of X G ac_NoForm, (alls_cons (ExcIs.mk ac_NoRide xe_NoRide (kit_own xx_NoRide xi_NoForm xt_NoForm xs_NoRide_NoForm) (by decide +kernel)) (alls_cons (ExcIs.mk ac_NoNumber xe_NoNumber (kit_own xx_NoNumber xi_NoForm xt_NoForm xs_NoNumber_NoForm) (by decide +kernel)) alls_nil))⟩
    i_NoLine := ⟨_, PySem.W.mg_of X G ac_NoLine, (alls_cons (ExcIs.mk ac_NoRide xe_NoRide (kit_own xx_NoRide xi_NoLine xt_NoLine xs_NoRide_NoLine) (by decide +kernel)) (alls_cons (ExcIs.mk ac_NoNumber xe_NoNumber (kit_own xx_NoNumber xi_NoLine xt_NoLine xs_NoNumber_NoLine) (by decide +kernel)) alls_nil))⟩
    i_NoNumber := ⟨_, PySem.W.mg_of X G ac_NoNumber, (alls_cons (ExcIs.mk ac_NoRide xe_NoRide (kit_own xx_NoRide xi_NoNumber xt_NoNumber xs_NoRide_NoNumber) (by decide +kernel)) (alls_cons (ExcIs.mk ac_NoNumber xe_NoNumber (kit_own xx_NoNumber xi_NoNumber xt_NoNumber xs_NoNumber_NoNumber) (by decide +kernel)) alls_nil))⟩
    i_NoPlace := ⟨_, PySem.W.mg_of X G ac_NoPlace, (alls_cons (ExcIs.mk ac_NoRide xe_NoRide (kit_own xx_NoRide xi_NoPlace xt_NoPlace xs_NoRide_NoPlace) (by decide +kernel)) (alls_cons (ExcIs.mk ac_NoNumber xe_NoNumber (kit_own xx_NoNumber xi_NoPlace xt_NoPlace xs_NoNumber_NoPlace) (by decide +kernel)) alls_nil))⟩
    i_NoRide := ⟨_, PySem.W.mg_of X G ac_NoRide, (alls_cons (ExcIs.mk ac_NoRide xe_NoRide (kit_own xx_NoRide xi_NoRide xt_NoRide xs_NoRide_NoRide) (by decide +kernel)) (alls_cons (ExcIs.mk ac_NoNumber xe_NoNumber (kit_own xx_NoNumber xi_NoRide xt_NoRide xs_NoNumber_NoRide) (by decide +kernel)) alls_nil))⟩
    i_NoText := ⟨_, PySem.W.mg_of X G ac_NoText, (alls_cons (ExcIs.mk ac_NoRide xe_NoRide (kit_own xx_NoRide xi_NoText xt_NoText xs_NoRide_NoText) (by decide +kernel)) (alls_cons (ExcIs.mk ac_NoNumber xe_NoNumber (kit_own xx_NoNumber xi_NoText xt_NoText xs_NoNumber_NoText) (by decide +kernel)) alls_nil))⟩
    i_NoTurning := ⟨_, PySem.W.mg_of X G ac_NoTurning, (alls_cons (ExcIs.mk ac_NoRide xe_NoRide (kit_own xx_NoRide xi_NoTurning xt_NoTurning xs_NoRide_NoTurning) (by decide +kernel)) (alls_cons (ExcIs.mk ac_NoNumber xe_NoNumber (kit_own xx_NoNumber xi_NoTurning xt_NoTurning xs_NoNumber_NoTurning) (by decide +kernel)) alls_nil))⟩
    i_NoWeb := ⟨_, PySem.W.mg_of X G ac_NoWeb, (alls_cons (ExcIs.mk ac_NoRide xe_NoRide (kit_own xx_NoRide xi_NoWeb xt_NoWeb xs_NoRide_NoWeb) (by decide +kernel)) (alls_cons (ExcIs.mk ac_NoNumber xe_NoNumber (kit_own xx_NoNumber xi_NoWeb xt_NoWeb xs_NoNumber_NoWeb) (by decide +kernel)) alls_nil))⟩
    i_NoneYet := ⟨_, PySem.W.mg_of X G ac_NoneYet, (alls_cons (ExcIs.mk ac_NoRide xe_NoRide (kit_own xx_NoRide xi_NoneYet xt_NoneYet xs_NoRide_NoneYet) (by decide +kernel)) (alls_cons (ExcIs.mk ac_NoNumber xe_NoNumber (kit_own xx_NoNumber xi_NoneYet xt_NoneYet xs_NoNumber_NoneYet) (by decide +kernel)) alls_nil))⟩
    i_TooMany := ⟨_, PySem.W.mg_of X G ac_TooMany, (alls_cons (ExcIs.mk ac_NoRide xe_NoRide (kit_own xx_NoRide xi_TooMany xt_TooMany xs_NoRide_TooMany) (by decide +kernel)) (alls_cons (ExcIs.mk ac_NoNumber xe_NoNumber (kit_own xx_NoNumber xi_TooMany xt_TooMany xs_NoNumber_TooMany) (by decide +kernel)) alls_nil))⟩
    b_ValueError := (alls_cons (ExcIs.mk ac_NoRide xe_NoRide (kit_bt (by decide +kernel) xv_NoRide_ValueError) rfl) (alls_cons (ExcIs.mk ac_NoNumber xe_NoNumber (kit_bt (by decide +kernel) xv_NoNumber_ValueError) rfl) alls_nil))
    t_RideError := ⟨_, PySem.W.mg_of X G ac_RideError, (alls_cons (cls_one ac_NoRide (exm_own xb_RideError xi_RideError xt_RideError xs_NoRide_RideError)) (alls_cons (cls_one ac_NoNumber (exm_own xb_RideError xi_RideError xt_RideError xs_NoNumber_RideError)) alls_nil))⟩
    xc := (alls_cons (fun D d => cls_same ac_NoRide d ▸ xe_NoRide) (alls_cons (fun D d => cls_same ac_NoNumber d ▸ xe_NoNumber) alls_nil))
  }
  exact ⟨PySem.W.fnOf "law" "law" (defArgs s_law) (defBody s_law) (defScope s_law) .none kV_law dc_law pm_law an_law cd_law ct_law, fun s v => .of_eq rfl, fun base _ _ => fn_lawG (fun B hB => trivial) (fun_mk (st := s_law) l_law c_law k_law) sc_law rfl (by decide) (law_body T _)⟩
end Lw.k21
open PySem PySem.W PyProof.Rows
set_option maxHeartbeats 0 in
theorem PySem.Challenge.cw_changeride_k21_rides_refused_holds : PySem.Challenge.rw_changeride_k21_rides_refused.Holds := by
  w_on; o_law; k_head; (case hw => w_witness2)
  k_fill
  refine Fu.walk_ofG (l := PySem.Challenge.rw_changeride_k21_rides_refused) (n := 63) (k := 8) (x := "script") (sp := fun w => Fu.spLaw _ (Fu.mScr 16 Lw.k21.g_law)) rfl (by decide) rfl ⟨rfl, by decide, by decide⟩ (fun w h Y => PySem.W.kIn_of Y) ?F (fun _ H a ns hl ho hS => ⟨a, ns, rfl, hS, hl, fun b xs e => (by rcases ho b with z | ⟨o, ys, z⟩ <;> rw [e] at z <;> cases z), Lw.k21.law_true ns hl, fun _ => rfl⟩)
  case F =>
    intro w mg fa h KX G hmg
    refine' Lw.k21.all_mk KX G hmg ?a__law_spring ?l__law_spring ?c__law_spring ?k__law_spring ?a__law_draw ?l__law_draw ?c__law_draw ?k__law_draw ?a__law_circle ?l__law_circle ?c__law_circle ?k__law_circle ?a__law_planted ?l__law_planted ?c__law_planted ?k__law_planted ?a__law_is_end ?l__law_is_end ?c__law_is_end ?k__law_is_end ?a__law_at ?l__law_at ?c__law_at ?k__law_at ?a__law_other ?l__law_other ?c__law_other ?k__law_other ?a__law_goes ?l__law_goes ?c__law_goes ?k__law_goes ?a__law_is_ride ?l__law_is_ride ?c__law_is_ride ?k__law_is_ride ?a__law_is_round ?l__law_is_round ?c__law_is_round ?k__law_is_round ?a__law_word ?l__law_word ?c__law_word ?k__law_word ?a_place_of ?l_place_of ?c_place_of ?k_place_of ?a_company_of ?l_company_of ?c_company_of ?k_company_of ?a_far_end ?l_far_end ?c_far_end ?k_far_end ?a_can_go_on ?l_can_go_on ?c_can_go_on ?k_can_go_on ?a_is_row ?l_is_row ?c_is_row ?k_is_row ?a_is_whole ?l_is_whole ?c_is_whole ?k_is_whole ?a_is_end ?l_is_end ?c_is_end ?k_is_end ?a_ride_is ?l_ride_is ?c_ride_is ?k_ride_is ?a_round_is ?l_round_is ?c_round_is ?k_round_is ?a_need_round ?l_need_round ?c_need_round ?k_need_round ?a_begun_at ?l_begun_at ?c_begun_at ?k_begun_at ?a_faced_about ?l_faced_about ?c_faced_about ?k_faced_about ?a_all_ways ?l_all_ways ?c_all_ways ?k_all_ways ?a_least_round ?l_least_round ?c_least_round ?k_least_round ?a_need_ride ?l_need_ride ?c_need_ride ?k_need_ride ?a_about ?l_about ?c_about ?k_about ?a_places_along ?l_places_along ?c_places_along ?k_places_along ?a_places_of ?l_places_of ?c_places_of ?k_places_of ?a__law_asked ?l__law_asked ?c__law_asked ?k__law_asked ?a_law ?l_law ?c_law ?k_law ?z_ValueError ?z_abs ?z_all ?z_bool ?z_int ?z_isinstance ?z_len ?z_list ?z_min ?z_range ?z_repr ?z_set ?z_tuple ?z_zip ?n_SIDES ?ac_NoCompany ?ac_NoEnd ?ac_NoForm ?ac_NoLine ?ac_NoNumber ?ac_NoPlace ?ac_NoRide ?ac_NoText ?ac_NoTurning ?ac_NoWeb ?ac_NoneYet ?ac_RideError ?ac_TooMany ?xx_NoRide ?xk_NoRide ?xe_NoRide ?xx_NoNumber ?xk_NoNumber ?xe_NoNumber ?xb_NoCompany ?xt_NoCompany ?xi_NoCompany ?xb_NoEnd ?xt_NoEnd ?xi_NoEnd ?xb_NoForm ?xt_NoForm ?xi_NoForm ?xb_NoLine ?xt_NoLine ?xi_NoLine ?xb_NoNumber ?xt_NoNumber ?xi_NoNumber ?xb_NoPlace ?xt_NoPlace ?xi_NoPlace ?xb_NoRide ?xt_NoRide ?xi_NoRide ?xb_NoText ?xt_NoText ?xi_NoText ?xb_NoTurning ?xt_NoTurning ?xi_NoTurning ?xb_NoWeb ?xt_NoWeb ?xi_NoWeb ?xb_NoneYet ?xt_NoneYet ?xi_NoneYet ?xb_RideError ?xt_RideError ?xi_RideError ?xb_TooMany ?xt_TooMany ?xi_TooMany ?xs_NoRide_NoCompany ?xs_NoRide_NoEnd ?xs_NoRide_NoForm ?xs_NoRide_NoLine ?xs_NoRide_NoNumber ?xs_NoRide_NoPlace ?xs_NoRide_NoRide ?xs_NoRide_NoText ?xs_NoRide_NoTurning ?xs_NoRide_NoWeb ?xs_NoRide_NoneYet ?xs_NoRide_RideError ?xs_NoRide_TooMany ?xv_NoRide_ValueError ?xs_NoNumber_NoCompany ?xs_NoNumber_NoEnd ?xs_NoNumber_NoForm ?xs_NoNumber_NoLine ?xs_NoNumber_NoNumber ?xs_NoNumber_NoPlace ?xs_NoNumber_NoRide ?xs_NoNumber_NoText ?xs_NoNumber_NoTurning ?xs_NoNumber_NoWeb ?xs_NoNumber_NoneYet ?xs_NoNumber_RideError ?xs_NoNumber_TooMany ?xv_NoNumber_ValueError
    (case a__law_spring => k_is)
    (case l__law_spring => k_is)
    (case c__law_spring => k_is)
    (case k__law_spring => k_is)
    (case a__law_draw => k_is)
    (case l__law_draw => k_is)
    (case c__law_draw => k_is)
    (case k__law_draw => k_is)
    (case a__law_circle => k_is)
    (case l__law_circle => k_is)
    (case c__law_circle => k_is)
    (case k__law_circle => k_is)
    (case a__law_planted => k_is)
    (case l__law_planted => k_is)
    (case c__law_planted => k_is)
    (case k__law_planted => k_is)
    (case a__law_is_end => k_is)
    (case l__law_is_end => k_is)
    (case c__law_is_end => k_is)
    (case k__law_is_end => k_is)
    (case a__law_at => k_is)
    (case l__law_at => k_is)
    (case c__law_at => k_is)
    (case k__law_at => k_is)
    (case a__law_other => k_is)
    (case l__law_other => k_is)
    (case c__law_other => k_is)
    (case k__law_other => k_is)
    (case a__law_goes => k_is)
    (case l__law_goes => k_is)
    (case c__law_goes => k_is)
    (case k__law_goes => k_is)
    (case a__law_is_ride => k_is)
    (case l__law_is_ride => k_is)
    (case c__law_is_ride => k_is)
    (case k__law_is_ride => k_is)
    (case a__law_is_round => k_is)
    (case l__law_is_round => k_is)
    (case c__law_is_round => k_is)
    (case k__law_is_round => k_is)
    (case a__law_word => k_is)
    (case l__law_word => k_is)
    (case c__law_word => k_is)
    (case k__law_word => k_is)
    (case a_place_of => k_is)
    (case l_place_of => k_is)
    (case c_place_of => k_is)
    (case k_place_of => k_is)
    (case a_company_of => k_is)
    (case l_company_of => k_is)
    (case c_company_of => k_is)
    (case k_company_of => k_is)
    (case a_far_end => k_is)
    (case l_far_end => k_is)
    (case c_far_end => k_is)
    (case k_far_end => k_is)
    (case a_can_go_on => k_is)
    (case l_can_go_on => k_is)
    (case c_can_go_on => k_is)
    (case k_can_go_on => k_is)
    (case a_is_row => k_is)
    (case l_is_row => k_is)
    (case c_is_row => k_is)
    (case k_is_row => k_is)
    (case a_is_whole => k_is)
    (case l_is_whole => k_is)
    (case c_is_whole => k_is)
    (case k_is_whole => k_is)
    (case a_is_end => k_is)
    (case l_is_end => k_is)
    (case c_is_end => k_is)
    (case k_is_end => k_is)
    (case a_ride_is => k_is)
    (case l_ride_is => k_is)
    (case c_ride_is => k_is)
    (case k_ride_is => k_is)
    (case a_round_is => k_is)
    (case l_round_is => k_is)
    (case c_round_is => k_is)
    (case k_round_is => k_is)
    (case a_need_round => k_is)
    (case l_need_round => k_is)
    (case c_need_round => k_is)
    (case k_need_round => k_is)
    (case a_begun_at => k_is)
    (case l_begun_at => k_is)
    (case c_begun_at => k_is)
    (case k_begun_at => k_is)
    (case a_faced_about => k_is)
    (case l_faced_about => k_is)
    (case c_faced_about => k_is)
    (case k_faced_about => k_is)
    (case a_all_ways => k_is)
    (case l_all_ways => k_is)
    (case c_all_ways => k_is)
    (case k_all_ways => k_is)
    (case a_least_round => k_is)
    (case l_least_round => k_is)
    (case c_least_round => k_is)
    (case k_least_round => k_is)
    (case a_need_ride => k_is)
    (case l_need_ride => k_is)
    (case c_need_ride => k_is)
    (case k_need_ride => k_is)
    (case a_about => k_is)
    (case l_about => k_is)
    (case c_about => k_is)
    (case k_about => k_is)
    (case a_places_along => k_is)
    (case l_places_along => k_is)
    (case c_places_along => k_is)
    (case k_places_along => k_is)
    (case a_places_of => k_is)
    (case l_places_of => k_is)
    (case c_places_of => k_is)
    (case k_places_of => k_is)
    (case a__law_asked => k_is)
    (case l__law_asked => k_is)
    (case c__law_asked => k_is)
    (case k__law_asked => k_is)
    (case a_law => k_is)
    (case l_law => k_is)
    (case c_law => k_is)
    (case k_law => k_is)
    (case z_ValueError => k_is)
    (case z_abs => k_is)
    (case z_all => k_is)
    (case z_bool => k_is)
    (case z_int => k_is)
    (case z_isinstance => k_is)
    (case z_len => k_is)
    (case z_list => k_is)
    (case z_min => k_is)
    (case z_range => k_is)
    (case z_repr => k_is)
    (case z_set => k_is)
    (case z_tuple => k_is)
    (case z_zip => k_is)
    (case n_SIDES => k_is)
    (case ac_NoCompany => k_is)
    (case ac_NoEnd => k_is)
    (case ac_NoForm => k_is)
    (case ac_NoLine => k_is)
    (case ac_NoNumber => k_is)
    (case ac_NoPlace => k_is)
    (case ac_NoRide => k_is)
    (case ac_NoText => k_is)
    (case ac_NoTurning => k_is)
    (case ac_NoWeb => k_is)
    (case ac_NoneYet => k_is)
    (case ac_RideError => k_is)
    (case ac_TooMany => k_is)
    (case xx_NoRide => k_exc)
    (case xk_NoRide => k_is)
    (case xe_NoRide => constructor <;> k_is)
    (case xx_NoNumber => k_exc)
    (case xk_NoNumber => k_is)
    (case xe_NoNumber => constructor <;> k_is)
    (case xb_NoCompany => k_is)
    (case xt_NoCompany => k_is)
    (case xi_NoCompany => k_is)
    (case xb_NoEnd => k_is)
    (case xt_NoEnd => k_is)
    (case xi_NoEnd => k_is)
    (case xb_NoForm => k_is)
    (case xt_NoForm => k_is)
    (case xi_NoForm => k_is)
    (case xb_NoLine => k_is)
    (case xt_NoLine => k_is)
    (case xi_NoLine => k_is)
    (case xb_NoNumber => k_is)
    (case xt_NoNumber => k_is)
    (case xi_NoNumber => k_is)
    (case xb_NoPlace => k_is)
    (case xt_NoPlace => k_is)
    (case xi_NoPlace => k_is)
    (case xb_NoRide => k_is)
    (case xt_NoRide => k_is)
    (case xi_NoRide => k_is)
    (case xb_NoText => k_is)
    (case xt_NoText => k_is)
    (case xi_NoText => k_is)
    (case xb_NoTurning => k_is)
    (case xt_NoTurning => k_is)
    (case xi_NoTurning => k_is)
    (case xb_NoWeb => k_is)
    (case xt_NoWeb => k_is)
    (case xi_NoWeb => k_is)
    (case xb_NoneYet => k_is)
    (case xt_NoneYet => k_is)
    (case xi_NoneYet => k_is)
    (case xb_RideError => k_is)
    (case xt_RideError => k_is)
    (case xi_RideError => k_is)
    (case xb_TooMany => k_is)
    (case xt_TooMany => k_is)
    (case xi_TooMany => k_is)
    (case xs_NoRide_NoCompany => k_is)
    (case xs_NoRide_NoEnd => k_is)
    (case xs_NoRide_NoForm => k_is)
    (case xs_NoRide_NoLine => k_is)
    (case xs_NoRide_NoNumber => k_is)
    (case xs_NoRide_NoPlace => k_is)
    (case xs_NoRide_NoRide => k_is)
    (case xs_NoRide_NoText => k_is)
    (case xs_NoRide_NoTurning => k_is)
    (case xs_NoRide_NoWeb => k_is)
    (case xs_NoRide_NoneYet => k_is)
    (case xs_NoRide_RideError => k_is)
    (case xs_NoRide_TooMany => k_is)
    (case xv_NoRide_ValueError => k_is)
    (case xs_NoNumber_NoCompany => k_is)
    (case xs_NoNumber_NoEnd => k_is)
    (case xs_NoNumber_NoForm => k_is)
    (case xs_NoNumber_NoLine => k_is)
    (case xs_NoNumber_NoNumber => k_is)
    (case xs_NoNumber_NoPlace => k_is)
    (case xs_NoNumber_NoRide => k_is)
    (case xs_NoNumber_NoText => k_is)
    (case xs_NoNumber_NoTurning => k_is)
    (case xs_NoNumber_NoWeb => k_is)
    (case xs_NoNumber_NoneYet => k_is)
    (case xs_NoNumber_RideError => k_is)
    (case xs_NoNumber_TooMany => k_is)
    (case xv_NoNumber_ValueError => k_is)
