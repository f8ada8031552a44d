import PyProof.Rows.All
import Wide.All
import OpenK.AllK
import Wide.FinOn
import HandS.ForMost
import HandS.Flow
import HandS.Deep
import HandS.TupAny
import HandS.Codes
import HandS.IsInst
import HandS.Style
import HandS.Wide
import HandS.Zip
import HandS.Rev
import HandS.Exc
import HandS.TupLe
import KE.DataMinMax
import KE.SortData
import HandS.Conv
import HandS.Ends
import KE.DataFind
import HandS.Flt
import PySem.Challenge.RW_changeride_k46_turnings_told
set_option Elab.async false
set_option linter.all false
set_option maxRecDepth 100000

set_option maxHeartbeats 4000000
namespace Fu
open PySem PySem.Spec PyProof.Rows L2

/-! ### the frame: what may be forgotten for the time of a call -/
def Loose : HO → Prop
  | .lst _ => True
  | .dK _ => True
  | .dT _ => True
  | .set _ _ => True
  | _ => False
def lpins (H G : Hp) (h : Heap) : List (Addr × Obj) :=
  (List.range h.objs.size).filterMap fun a => if (H a).isSome = true ∧ (G a).isNone = true then (h.get? a).map fun o => (a, o) else none
theorem mem_lpins {H G : Hp} {h : Heap} {a : Addr} {o : Obj} {u : HO} (h1 : H a = some u) (h2 : G a = none) (h3 : h.get? a = some o) : (a, o) ∈ lpins H G h :=
  List.mem_filterMap.mpr ⟨a, List.mem_range.mpr (Heap.lt_size h3), by simp [h1, h2, h3]⟩
theorem of_lpins {H G : Hp} {h : Heap} {p : Addr × Obj} (hp : p ∈ lpins H G h) : (∃ u, H p.1 = some u) ∧ G p.1 = none ∧ h.get? p.1 = some p.2 := by
  obtain ⟨b, _, e⟩ := List.mem_filterMap.mp hp
  split at e
  · rename_i hc
    cases q : h.get? b with
    | none => rw [q] at e; cases e
    | some u =>
      rw [q] at e
      have e' : (b, u) = p := Option.some.inj e
      subst e'
      exact ⟨Option.isSome_iff_exists.mp hc.1, Option.isNone_iff_eq_none.mp hc.2, q⟩
  · cases e
/-- G within H: what is over may be forgotten -/
structure Sub (G H : Hp) : Prop where
  same : Same G H
  loose : ∀ a o, H a = some o → G a = none → Loose o
theorem Sub.none {G H : Hp} (S : Sub G H) {b : Addr} (e : H b = none) : G b = none := S.same.free e
theorem Sub.keep {G H : Hp} (S : Sub G H) {b : Addr} {o : HO} (e : H b = some o) (n : ¬ Loose o) : G b = some o := by
  cases q : G b with
  | none => exact absurd (S.loose b o e q) n
  | some u => rw [S.same b u q] at e; exact e
theorem Sub.refl (H : Hp) : Sub H H := ⟨Same.refl H, fun a o e n => by rw [e] at n; cases n⟩
def mixH (G H G' : Hp) : Hp := fun a => match G a, H a with
  | none, some o => some o
  | _, _ => G' a
theorem mix_lost {G H G' : Hp} {a : Addr} {o : HO} (h1 : G a = none) (h2 : H a = some o) : mixH G H G' a = some o := by unfold mixH; rw [h1, h2]
theorem mix_held {G H G' : Hp} {a : Addr} {o : HO} (h1 : G a = some o) : mixH G H G' a = G' a := by unfold mixH; rw [h1]
theorem mix_free {G H G' : Hp} {a : Addr} (h2 : H a = none) : mixH G H G' a = G' a := by unfold mixH; rw [h2]; cases G a <;> rfl

section
variable {X : Cx} {pins : List (Addr × Obj)} {σ : L2.St} {H G G' : Hp} {s s' : Shared}
theorem fs_none (I : Inv X pins σ H s) {b : Addr} (hb : b ∈ X.fs) : H b = none := by
  obtain ⟨_, o, ho, _⟩ := I.ok.funs.mem hb
  exact I.base.free b o ho (I.ok.frf b hb) fun z => I.ok.exfs b z hb
theorem loose_cell {P : Program} {w : World} {h : Heap} {a : Addr} {u : HO} {o : Obj} (x : ObjOk P w H h a u) (l : Loose u) (e : h.get? a = some o) : ∀ v, o.data ≠ .cell v := by
  intro v z
  cases u with
  | lst xs => obtain ⟨_, its, n, _, e1⟩ := x; rw [e] at e1; cases e1; cases z
  | dK kvs => obtain ⟨_, _, vs, _, ob, es, ep, e1, _, d, _⟩ := x; rw [e] at e1; cases e1; rw [d] at z; cases z
  | dT kvs => obtain ⟨_, _, vs, _, ob, es, ep, e1, _, d, _⟩ := x; rw [e] at e1; cases e1; rw [d] at z; cases z
  | set S n => obtain ⟨ob, es, ep, t, e1, _, d, _⟩ := x; rw [e] at e1; cases e1; rw [d] at z; cases z
  | _ => exact l
theorem loose_there {P : Program} {w : World} {h : Heap} {a : Addr} {u : HO} (x : ObjOk P w H h a u) (l : Loose u) : ∃ o, h.get? a = some o := by
  cases u with
  | lst xs => obtain ⟨_, its, n, _, e1⟩ := x; exact ⟨_, e1⟩
  | dK kvs => obtain ⟨_, _, vs, _, ob, es, ep, e1, _⟩ := x; exact ⟨_, e1⟩
  | dT kvs => obtain ⟨_, _, vs, _, ob, es, ep, e1, _⟩ := x; exact ⟨_, e1⟩
  | set S n => obtain ⟨ob, es, ep, t, e1, _⟩ := x; exact ⟨_, e1⟩
  | _ => exact l.elim
theorem forget (I : Inv X pins σ H s) (S : Sub G H) : Inv X (pins ++ lpins H G s.heap) σ G s where
  ok := I.ok
  os := I.os
  bare := I.bare
  base := ⟨I.base.keep, I.base.slot, fun b o e n hx => S.none (I.base.free b o e n hx), I.base.there,
    fun b xs q => S.keep (I.base.tups b xs q) (fun z => z), fun b o u q => S.keep (I.base.frzs b o u q) (fun z => z),
    fun b ps q => by obtain ⟨m, e⟩ := I.base.tbls b ps q; exact ⟨m, S.keep e (fun z => z)⟩⟩
  loc := I.loc
  cell := I.cell
  free := S.none I.free
  freeC := fun x c e => S.none (I.freeC x c e)
  pin := fun p hp => by
    rcases List.mem_append.mp hp with hp | hp
    · obtain ⟨e, n, r⟩ := I.pin p (List.mem_append_left _ hp)
      exact ⟨e, S.none n, r⟩
    · rcases List.mem_append.mp hp with hp | hp
      · obtain ⟨e, n, r⟩ := I.pin p (List.mem_append_right _ hp)
        exact ⟨e, S.none n, r⟩
      · obtain ⟨⟨u, hu⟩, hg, he⟩ := of_lpins hp
        refine ⟨he, hg, fun z => ?_, fun z => ?_, loose_cell (I.hok p.1 u hu) (S.loose _ _ hu hg) he⟩
        · rw [z, I.free] at hu; cases hu
        · rw [fs_none I z] at hu; cases hu
  hok := fun a o e => (I.hok a o (S.same a o e)).stay (fun b u _ q => q) (fun b q => S.keep q (fun z => z)) (fun b xs q => S.keep q (fun z => z))
  len := I.len
theorem lost_of {τ : L2.St} (I : Inv X pins σ H s) (S : Sub G H) (J : Inv X (pins ++ lpins H G s.heap) τ G' s') : ∀ b o, H b = some o → G b = none → G' b = none := fun b o hb hg => by
  obtain ⟨ob, hob⟩ : ∃ ob, s.heap.get? b = some ob := loose_there (I.hok b o hb) (S.loose b o hb hg)
  exact (J.pin (b, ob) (List.mem_append_right _ (List.mem_append_right _ (mem_lpins hb hg hob)))).2.1
theorem remember {τ : L2.St} (I : Inv X pins σ H s) (S : Sub G H) (J : Inv X (pins ++ lpins H G s.heap) τ G' s') (ht : ∀ b xs, G b = some (.tup xs) → G' b = some (.tup xs)) :
    Inv X pins τ (mixH G H G') s' := by
  have lost : ∀ b o, H b = some o → G b = none → G' b = none ∧ ∀ ob, s.heap.get? b = some ob → s'.heap.get? b = some ob := fun b o hb hg => by
    obtain ⟨ob, hob⟩ : ∃ ob, s.heap.get? b = some ob := loose_there (I.hok b o hb) (S.loose b o hb hg)
    obtain ⟨e1, e2, _⟩ := J.pin (b, ob) (List.mem_append_right _ (List.mem_append_right _ (mem_lpins hb hg hob)))
    exact ⟨e2, fun ob' h' => by rw [hob] at h'; cases h'; exact e1⟩
  have up : ∀ b o, G' b = some o → mixH G H G' b = some o := fun b o e => by
    cases q : G b with
    | some u => rw [mix_held q]; exact e
    | none =>
      cases r : H b with
      | none => rw [mix_free r]; exact e
      | some u => rw [(lost b u r q).1] at e; cases e
  have nn : ∀ b, G' b = none → H b = none → mixH G H G' b = none := fun b e r => by rw [mix_free r]; exact e
  refine ⟨J.ok, J.os, J.bare, ⟨J.base.keep, J.base.slot, fun b o e n hx => nn b (J.base.free b o e n hx) (I.base.free b o e n hx), J.base.there,
    fun b xs q => up _ _ (J.base.tups b xs q), fun b o u q => up _ _ (J.base.frzs b o u q), fun b ps q => ?_⟩, J.loc, J.cell, nn _ J.free I.free, fun x c e => nn _ (J.freeC x c e) (I.freeC x c e), fun p hp => ?_, fun a o e => ?_, J.len⟩
  · obtain ⟨m, e⟩ := J.base.tbls b ps q
    exact ⟨m, up _ _ e⟩
  · have hp' : p ∈ X.pn ++ (pins ++ lpins H G s.heap) := (List.mem_append.mp hp).elim (fun z => List.mem_append_left _ z) fun z => List.mem_append_right _ (List.mem_append_left _ z)
    obtain ⟨e, n, r⟩ := J.pin p hp'
    exact ⟨e, nn _ n (I.pin p hp).2.1, r⟩
  · cases q : G a with
    | some u =>
      rw [mix_held q] at e
      exact (J.hok a o e).stay (fun b u _ q => q) (fun b q => up _ _ q) (fun b xs q => up _ _ q)
    | none =>
      cases r : H a with
      | none =>
        rw [mix_free r] at e
        exact (J.hok a o e).stay (fun b u _ q => q) (fun b q => up _ _ q) (fun b xs q => up _ _ q)
      | some u =>
        rw [mix_lost q r] at e
        cases e
        have k := (lost a o r q).2
        have x := I.hok a o r
        have l := S.loose a o r q
        cases o with
        | lst xs => obtain ⟨z, its, n, rv, e1⟩ := x; exact ⟨z, its, n, rv, k _ e1⟩
        | dK kvs => obtain ⟨z, y, vs, rv, ob, es, ep, e1, c⟩ := x; exact ⟨z, y, vs, rv, ob, es, ep, k _ e1, c⟩
        | dT kvs =>
          obtain ⟨z, y, xs, rv, ob, es, ep, e1, c⟩ := x
          exact ⟨z, y, xs, Paired.mapP rv fun p q z => ⟨z.1, up _ _ (ht _ _ (S.keep z.2.1 (fun z => z))), z.2.2⟩, ob, es, ep, k _ e1, c⟩
        | set T n => obtain ⟨ob, es, ep, t, e1, c⟩ := x; exact ⟨ob, es, ep, t, k _ e1, c⟩
        | _ => exact l.elim
end

section
variable {X : Cx} {CX : CXT} {k : Nat} {f C : Addr} {fd : FuncData} {ps : List Str} {sp : Sp} {dvs : List V} {ds : List Value} {E : XK} {x m : Str} {p pos apos : Pos} {e o : Expr} {es : List Expr} {ta : TE} {t : TA}
theorem run_fnF {pins : List (Addr × Obj)} {σ : L2.St} {H G : Hp} {s : Shared} {Q : VK} {us : List Value} {vs : List V} (F : FnOk X.prog X.w X.K X.mg X.base CX k f fd ps sp) (hr : Room k X.A) (hb : Binds X.K fd ps ds) (hd : Vals dvs ds) (hx : Passes CX X E)
    (I : Inv X pins σ H s) (r : Vals vs us) (S : Sub G H) (h : sp (vs ++ dvs) G (fun v G' => (∀ b xs, G b = some (.tup xs) → G' b = some (.tup xs)) ∧ ((∀ b o, H b = some o → G b = none → G' b = none) → Q v (mixH G H G'))) E) :
    wpAny (model X.prog X.w) X.A (call (.ref f) us) (EP X pins σ Q) X.xe s := by
  refine thn (run_fn F hr hb hd hx (forget I S) r h) fun u s' ⟨v, G', I', rv, ht, q⟩ => ⟨v, mixH G H G', remember I S I' ht, rv, q (lost_of I S I')⟩
/-- f(..) called over a part of the heap -/
def tCallF (sp : Sp) (dvs : List V) (E : XK) (t : TA) : TE := fun σ H Q => t σ H fun vs H1 => ∃ G, Sub G H1 ∧ sp (vs ++ dvs) G (fun v G' => (∀ b xs, G b = some (.tup xs) → G' b = some (.tup xs)) ∧ ((∀ b o, H1 b = some o → G b = none → G' b = none) → Q v (mixH G H1 G'))) E
theorem pe_callF (F : FnOk X.prog X.w X.K X.mg X.base CX k f fd ps sp) (hr : Room k X.A) (hg : Gl X x) (hm : X.mg x = some (.ref f)) (hk : PySem.W.keepIn X.K (.ref f) = true) (hb : Binds X.K fd ps ds) (hd : Vals dvs ds) (hx : Passes CX X E)
    (ha : PA X (e :: es) t) (hdb : (x == ("__debug__" : Str)) = false := by decide) (he : starEach (e :: es) X.env = (false, eval e X.env) :: starEach es X.env := by rfl) (hpl : (backTo pos (starEach es X.env)).any (·.1) = false := by rfl) :
    PE X (.Call (.Name x p) (e :: es) [] pos) (tCallF sp dvs E t) := by
  refine ⟨fun pins s σ H Q I h => ?_⟩
  refine wpAny_Call_Name_kw (ld_glob I hg hm ?_ hdb)
  refine PySem.W.callWith_K (h₀ := X.base) I.ok.mod.kin hk (thn (ha.run pos pins s σ H _ I h) fun us s1 ⟨vs, H1, I1, r, G, S, q⟩ => ⟨I1.kIn, ?_⟩) he hpl
  exact run_fnF F hr hb hd hx I1 r S q
end

/-! ### any expression, test, target, over a part of the heap -/
def Back (G H : Hp) (Q : Hp → Prop) : Hp → Prop := fun G' => (∀ b xs, G b = some (.tup xs) → G' b = some (.tup xs)) ∧ ((∀ b o, H b = some o → G b = none → G' b = none) → Q (mixH G H G'))
def tFr (t : TE) : TE := fun σ H Q => ∃ G, Sub G H ∧ t σ G fun v => Back G H (Q v)
def tFrT (t : TT) : TT := fun σ H Q => ∃ G, Sub G H ∧ t σ G fun v => Back G H (Q v)
def gFr (t : TG) : TG := fun x σ H Q => ∃ G, Sub G H ∧ t x σ G fun σ' => Back G H (Q σ')
section
variable {X : Cx} {e : Expr}
theorem pe_fr {t : TE} (h : PE X e t) : PE X e (tFr t) := ⟨fun pins s σ H Q I ⟨G, S, q⟩ =>
  thn (h.run _ s σ G _ (forget I S) q) fun u s' ⟨v, G', J, r, ht, q⟩ => ⟨v, _, remember I S J ht, r, q (lost_of I S J)⟩⟩
theorem pts_fr {es : List Expr} {t : TT} (h : PTs X es t) : PTs X es (tFrT t) := ⟨fun pins s σ H Q I ⟨G, S, q⟩ =>
  thn (h.run _ s σ G _ (forget I S) q) fun u s' ⟨G', J, ht, q⟩ => ⟨_, remember I S J ht, q (lost_of I S J)⟩⟩
theorem pg_fr {t : TG} (h : PG X e t) : PG X e (gFr t) := ⟨fun pins s σ H v u Q I r ⟨G, S, q⟩ =>
  thn (h.run _ s σ G v u _ (forget I S) r q) fun _ s' ⟨σ', G', J, ht, q⟩ => ⟨σ', _, remember I S J ht, q (lost_of I S J)⟩⟩
end
end Fu

set_option maxHeartbeats 4000000
namespace Fu
open PySem PySem.Spec PyProof.Rows L2

abbrev D := PyData

/-! ### a value, down to what is within, in a heap that stays -/
mutual
inductive Rp (K : PySem.W.Frag) (H : Hp) : V → PyData → Prop
  | non : Rp K H .non .none
  | bl (b : Bool) : Rp K H (.bl b) (.bool b)
  | int (i : Int) : Rp K H (.int i) (.int i)
  | str {x : Str} : x.length ≤ sizeLine → Rp K H (.str x) (.str x)
  | lst {a : Addr} {xs : List V} {ds : List PyData} : H a = some (.lst xs) → Rps K H xs ds → ds.length ≤ sizeLine → Rp K H (.ref a) (.list ds)
  | tup {a : Addr} {xs : List V} {ds : List PyData} : SqT K H a xs → Rps K H xs ds → ds.length ≤ sizeLine → Rp K H (.ref a) (.tuple ds)
  | dct {a : Addr} {kvs : List (PyData × PyData)} : ((∃ es, H a = some (.dK es)) ∨ ∃ es, H a = some (.dT es)) → Rp K H (.ref a) (.dict kvs)
inductive Rps (K : PySem.W.Frag) (H : Hp) : List V → List PyData → Prop
  | nil : Rps K H [] []
  | cons {v : V} {vs : List V} {d : PyData} {ds : List PyData} : Rp K H v d → Rps K H vs ds → Rps K H (v :: vs) (d :: ds)
end
section
variable {K : PySem.W.Frag} {H H' : Hp}
theorem sqT_same {a : Addr} {xs : List V} (e : Same H H') (h : SqT K H a xs) : SqT K H' a xs := by
  rcases h with (h | ⟨o, h⟩) | h
  · exact .inl (.inl (e _ _ h))
  · exact .inl (.inr ⟨o, e _ _ h⟩)
  · exact .inr h
mutual
theorem Rp.mono (e : Same H H') : ∀ (d : PyData) (v : V), Rp K H v d → Rp K H' v d
  | .none, _, h => by cases h; exact .non
  | .bool b, _, h => by cases h; exact .bl b
  | .int i, _, h => by cases h; exact .int i
  | .str x, _, h => by
    cases h with
    | str hz => exact .str hz
  | .list ds, _, h => by
    cases h with
    | lst hs ha hz => exact .lst (e _ _ hs) (Rps.mono e ds _ ha) hz
  | .tuple ds, _, h => by
    cases h with
    | tup hs ha hz => exact .tup (sqT_same e hs) (Rps.mono e ds _ ha) hz
  | .dict kvs, _, h => by
    cases h with
    | dct hd =>
      refine .dct ?_
      rcases hd with ⟨es, hd⟩ | ⟨es, hd⟩
      · exact .inl ⟨es, e _ _ hd⟩
      · exact .inr ⟨es, e _ _ hd⟩
theorem Rps.mono (e : Same H H') : ∀ (ds : List PyData) (vs : List V), Rps K H vs ds → Rps K H' vs ds
  | [], _, h => by cases h; exact .nil
  | d :: ds, _, h => by
    cases h with
    | cons h1 h2 => exact .cons (Rp.mono e d _ h1) (Rps.mono e ds _ h2)
end
mutual
theorem Rp.dp : ∀ (d : PyData) (v : V), d.canLay0 = true → Rp K H v d → Dp K H v d
  | .none, _, _, h => by cases h; exact .non
  | .bool b, _, _, h => by cases h; exact .bl b
  | .int i, _, _, h => by cases h; exact .int i
  | .str x, _, _, h => by cases h; exact .str x
  | .list ds, _, c, h => by
    cases h with
    | lst hs ha hz => exact .lst (SqL.of hs) (Rps.dp ds _ (by simpa [PyData.canLay0] using c) ha)
  | .tuple ds, _, c, h => by
    cases h with
    | tup hs ha hz => exact .tup hs (Rps.dp ds _ (by simpa [PyData.canLay0] using c) ha)
  | .dict kvs, _, c, _ => by simp [PyData.canLay0] at c
theorem Rps.dp : ∀ (ds : List PyData) (vs : List V), PyData.canLayAll0 ds = true → Rps K H vs ds → DpAll K H vs ds
  | [], _, _, h => by cases h; exact .nil
  | d :: ds, _, c, h => by
    have c' : d.canLay0 = true ∧ PyData.canLayAll0 ds = true := by simpa [PyData.canLayAll0] using c
    cases h with
    | cons h1 h2 => exact .cons (Rp.dp d _ c'.1 h1) (Rps.dp ds _ c'.2 h2)
end
theorem Rps.length : ∀ {ds : List PyData} {vs : List V}, Rps K H vs ds → vs.length = ds.length
  | [], _, h => by cases h; rfl
  | d :: ds, _, h => by
    cases h with
    | cons _ h2 => rw [List.length_cons, List.length_cons, Rps.length h2]
theorem Rps.get : ∀ {ds : List PyData} {vs : List V} {i : Nat} {d : PyData}, Rps K H vs ds → ds[i]? = some d → ∃ v, vs[i]? = some v ∧ Rp K H v d
  | [], _, _, _, _, e => by simp at e
  | _ :: _, _, 0, _, h, e => by
    cases h with
    | cons h1 h2 =>
      simp at e; subst e
      exact ⟨_, rfl, h1⟩
  | _ :: ds, _, i + 1, _, h, e => by
    cases h with
    | cons h1 h2 =>
      obtain ⟨v, e1, r⟩ := Rps.get (i := i) h2 (by simpa using e)
      exact ⟨v, by simpa using e1, r⟩
theorem Rps.append : ∀ {ds es : List PyData} {vs us : List V}, Rps K H vs ds → Rps K H us es → Rps K H (vs ++ us) (ds ++ es)
  | [], _, _, _, h, g => by cases h; exact g
  | _ :: _, _, _, _, h, g => by
    cases h with
    | cons h1 h2 => exact .cons h1 (h2.append g)
theorem Rps.take : ∀ {ds : List PyData} {vs : List V} (n : Nat), Rps K H vs ds → Rps K H (vs.take n) (ds.take n)
  | _, _, 0, _ => .nil
  | [], _, n + 1, h => by cases h; exact .nil
  | _ :: _, _, n + 1, h => by
    cases h with
    | cons h1 h2 => exact .cons h1 (h2.take n)
theorem Rps.drop : ∀ {ds : List PyData} {vs : List V} (n : Nat), Rps K H vs ds → Rps K H (vs.drop n) (ds.drop n)
  | _, _, 0, h => h
  | [], _, n + 1, h => by cases h; exact .nil
  | _ :: _, _, n + 1, h => by
    cases h with
    | cons h1 h2 => exact h2.drop n
theorem Rps.set : ∀ {ds : List PyData} {vs : List V} {v : V} {d : PyData} (i : Nat), Rp K H v d → Rps K H vs ds → Rps K H (vs.set i v) (ds.set i d)
  | [], _, _, _, _, _, h => by cases h; exact .nil
  | _ :: _, _, _, _, 0, r, h => by
    cases h with
    | cons h1 h2 => exact .cons r h2
  | _ :: _, _, _, _, i + 1, r, h => by
    cases h with
    | cons h1 h2 => exact .cons h1 (Rps.set i r h2)
theorem Rps.erase : ∀ {ds : List PyData} {vs : List V} (i : Nat), Rps K H vs ds → Rps K H (vs.eraseIdx i) (ds.eraseIdx i)
  | [], _, _, h => by cases h; exact .nil
  | _ :: _, _, 0, h => by
    cases h with
    | cons h1 h2 => exact h2
  | _ :: _, _, i + 1, h => by
    cases h with
    | cons h1 h2 => exact .cons h1 (Rps.erase i h2)
theorem Rps.reverse {ds : List PyData} {vs : List V} (h : Rps K H vs ds) : Rps K H vs.reverse ds.reverse := by
  induction ds generalizing vs with
  | nil => cases h; exact .nil
  | cons d ds ih =>
    cases h with
    | cons h1 h2 =>
      rw [List.reverse_cons, List.reverse_cons]
      exact (ih h2).append (.cons h1 .nil)
theorem Rps.rep {ds : List PyData} {vs : List V} (h : Rps K H vs ds) : ∀ n : Nat, Rps K H (List.replicate n vs).flatten (List.replicate n ds).flatten
  | 0 => .nil
  | n + 1 => by
    rw [List.replicate_succ, List.replicate_succ, List.flatten_cons, List.flatten_cons]
    exact h.append (h.rep n)
theorem Rps.ints : ∀ ns : List Int, Rps K H (ns.map V.int) (ns.map PyData.int)
  | [] => .nil
  | n :: ns => .cons (.int n) (Rps.ints ns)
end

/-! ### the state: slots, and things that are still written (cells) -/
/-- an exception object of the class cls stands at a -/
def XO (cls : Value) (a : Addr) : HO := .ext fun h => ∃ (o : Obj) (fs : Array Value), h.get? a = some o ∧ Zc cls none o ∧ o.data = .fields fs
inductive R where
  | dat (d : PyData)
  | own (j : Nat)
  | scr (ns : List Int)
  | tup (rs : List R)
  | exc (c : Str)
inductive Cell where
  | lst (xs : List PyData)
  | lR (xs : List R)
  | dR (kvs : List (Key × R))
  | tR (kvs : List (List Key × R))
structure Sx where
  sl : List (Option R)
  os : List (Option Cell)
abbrev M (α : Type) := Sx → Option (α × Sx)

mutual
/-- a value of the state: data, a cell's place, the script, a tuple of such -/
inductive Rr (K : PySem.W.Frag) (A : List Addr) (F : Hp) : V → R → Prop
  | dat {v : V} {d : PyData} : Rp K F v d → Rr K A F v (.dat d)
  | own {j : Nat} {a : Addr} : A[j]? = some a → Rr K A F (.ref a) (.own j)
  | scr {a : Addr} {ns : List Int} : ns.length ≤ 63 → SqL K F a (ns.map V.int) → Rr K A F (.ref a) (.scr ns)
  | tup {a : Addr} {vs : List V} {rs : List R} : SqT K F a vs → Rrs K A F vs rs → rs.length ≤ sizeLine → Rr K A F (.ref a) (.tup rs)
  | exc {a D : Addr} {c : Str} : PySem.W.nsIn K mainGlobals c = some (some (.ref D)) → F a = some (XO (.ref D) a) → Rr K A F (.ref a) (.exc c)
inductive Rrs (K : PySem.W.Frag) (A : List Addr) (F : Hp) : List V → List R → Prop
  | nil : Rrs K A F [] []
  | cons {v : V} {vs : List V} {r : R} {rs : List R} : Rr K A F v r → Rrs K A F vs rs → Rrs K A F (v :: vs) (r :: rs)
end
theorem pre_at {α : Type} {A B : List α} {j : Nat} {a : α} (p : A <+: B) (h : A[j]? = some a) : B[j]? = some a := by
  obtain ⟨C, rfl⟩ := p
  rw [List.getElem?_append_left (List.getElem?_eq_some_iff.mp h).1]; exact h
section
variable {K : PySem.W.Frag} {A A' : List Addr} {F F' : Hp}
mutual
theorem Rr.mono (p : A <+: A') (e : Same F F') : ∀ (r : R) (v : V), Rr K A F v r → Rr K A' F' v r
  | .dat d, _, h => by
    cases h with
    | dat h => exact .dat (Rp.mono e d _ h)
  | .own j, _, h => by
    cases h with
    | own h => exact .own (pre_at p h)
  | .scr ns, _, h => by
    cases h with
    | scr z h => exact .scr z (e.seq h)
  | .tup rs, _, h => by
    cases h with
    | tup s h z => exact .tup (sqT_same e s) (Rrs.mono p e rs _ h) z
  | .exc c, _, h => by
    cases h with
    | exc h1 h2 => exact .exc h1 (e _ _ h2)
theorem Rrs.mono (p : A <+: A') (e : Same F F') : ∀ (rs : List R) (vs : List V), Rrs K A F vs rs → Rrs K A' F' vs rs
  | [], _, h => by cases h; exact .nil
  | r :: rs, _, h => by
    cases h with
    | cons h1 h2 => exact .cons (Rr.mono p e r _ h1) (Rrs.mono p e rs _ h2)
end
theorem Rrs.length : ∀ {rs : List R} {vs : List V}, Rrs K A F vs rs → vs.length = rs.length
  | [], _, h => by cases h; rfl
  | _ :: rs, _, h => by
    cases h with
    | cons _ h2 => rw [List.length_cons, List.length_cons, Rrs.length h2]
theorem Rrs.get : ∀ {rs : List R} {vs : List V} {i : Nat} {r : R}, Rrs K A F vs rs → rs[i]? = some r → ∃ v, vs[i]? = some v ∧ Rr K A F v r
  | [], _, _, _, _, e => by simp at e
  | _ :: _, _, 0, _, h, e => by
    cases h with
    | cons h1 h2 =>
      simp at e; subst e
      exact ⟨_, rfl, h1⟩
  | _ :: rs, _, i + 1, _, h, e => by
    cases h with
    | cons h1 h2 =>
      obtain ⟨v, e1, r⟩ := Rrs.get (i := i) h2 (by simpa using e)
      exact ⟨v, by simpa using e1, r⟩
theorem Rrs.append : ∀ {rs ss : List R} {vs us : List V}, Rrs K A F vs rs → Rrs K A F us ss → Rrs K A F (vs ++ us) (rs ++ ss)
  | [], _, _, _, h, g => by cases h; exact g
  | _ :: _, _, _, _, h, g => by
    cases h with
    | cons h1 h2 => exact .cons h1 (h2.append g)
theorem Rrs.take : ∀ {rs : List R} {vs : List V} (n : Nat), Rrs K A F vs rs → Rrs K A F (vs.take n) (rs.take n)
  | _, _, 0, _ => .nil
  | [], _, n + 1, h => by cases h; exact .nil
  | _ :: _, _, n + 1, h => by
    cases h with
    | cons h1 h2 => exact .cons h1 (h2.take n)
theorem Rrs.drop : ∀ {rs : List R} {vs : List V} (n : Nat), Rrs K A F vs rs → Rrs K A F (vs.drop n) (rs.drop n)
  | _, _, 0, h => h
  | [], _, n + 1, h => by cases h; exact .nil
  | _ :: _, _, n + 1, h => by
    cases h with
    | cons h1 h2 => exact h2.drop n
theorem Rrs.set : ∀ {rs : List R} {vs : List V} {v : V} {r : R} (i : Nat), Rr K A F v r → Rrs K A F vs rs → Rrs K A F (vs.set i v) (rs.set i r)
  | [], _, _, _, _, _, h => by cases h; exact .nil
  | _ :: _, _, _, _, 0, r, h => by
    cases h with
    | cons h1 h2 => exact .cons r h2
  | _ :: _, _, _, _, i + 1, r, h => by
    cases h with
    | cons h1 h2 => exact .cons h1 (Rrs.set i r h2)
theorem Rrs.erase : ∀ {rs : List R} {vs : List V} (i : Nat), Rrs K A F vs rs → Rrs K A F (vs.eraseIdx i) (rs.eraseIdx i)
  | [], _, _, h => by cases h; exact .nil
  | _ :: _, _, 0, h => by
    cases h with
    | cons h1 h2 => exact h2
  | _ :: _, _, i + 1, h => by
    cases h with
    | cons h1 h2 => exact .cons h1 (Rrs.erase i h2)
end

abbrev PairR (K : PySem.W.Frag) (A : List Addr) (F : Hp) {κ : Type} (vs : List (κ × V)) (ks : List (κ × R)) : Prop := Paired (fun p q => p.1 = q.1 ∧ Rr K A F p.2 q.2) vs ks
def CellOk (K : PySem.W.Frag) (A : List Addr) (F H : Hp) (a : Addr) : Cell → Prop
  | .lst ds => ∃ vs, H a = some (.lst vs) ∧ Rps K F vs ds ∧ ds.length ≤ sizeLine
  | .lR rs => ∃ vs, H a = some (.lst vs) ∧ Rrs K A F vs rs ∧ rs.length ≤ sizeLine
  | .dR kvs => ∃ vs : List (Key × V), H a = some (.dK vs) ∧ PairR K A F vs kvs
  | .tR kvs => ∃ vs : List (List Key × V), H a = some (.dT vs) ∧ PairR K A F vs kvs
structure Ok (K : PySem.W.Frag) (A : List Addr) (F H : Hp) (S : Sx) (σ : L2.St) : Prop where
  sub : Sub F H
  len : S.sl.length = σ.length
  alen : S.os.length = A.length
  nd : A.Nodup
  rslot : ∀ (i : Nat) r, S.sl[i]? = some (some r) → ∃ v, σ[i]? = some (some v) ∧ Rr K A F v r
  cell : ∀ (j : Nat) c, S.os[j]? = some (some c) → ∃ a, A[j]? = some a ∧ F a = none ∧ CellOk K A F H a c
  trk : ∀ a ∈ A, ∃ o, H a = some o
section
variable {K : PySem.W.Frag} {A : List Addr} {F H : Hp} {S : Sx} {σ : L2.St}
theorem Ok.slot (k : Ok K A F H S σ) (i : Nat) (d : PyData) (h : S.sl[i]? = some (some (.dat d))) : ∃ v, σ[i]? = some (some v) ∧ Rp K F v d := by
  obtain ⟨v, e, r⟩ := k.rslot i _ h
  cases r with
  | dat r => exact ⟨v, e, r⟩
theorem Ok.oslot (k : Ok K A F H S σ) (i j : Nat) (h : S.sl[i]? = some (some (.own j))) : ∃ a, A[j]? = some a ∧ σ[i]? = some (some (.ref a)) := by
  obtain ⟨v, e, r⟩ := k.rslot i _ h
  cases r with
  | own r => exact ⟨_, r, e⟩
theorem Ok.sslot (k : Ok K A F H S σ) (i : Nat) (ns : List Int) (h : S.sl[i]? = some (some (.scr ns))) : ns.length ≤ 63 ∧ ∃ a, σ[i]? = some (some (.ref a)) ∧ SqL K F a (ns.map V.int) := by
  obtain ⟨v, e, r⟩ := k.rslot i _ h
  cases r with
  | scr z r => exact ⟨z, _, e, r⟩
end

theorem paired_mono {κ : Type} {K : PySem.W.Frag} {A A' : List Addr} {F F' : Hp} (p : A <+: A') (e : Same F F') {vs : List (κ × V)} {ks : List (κ × R)} (h : PairR K A F vs ks) : PairR K A' F' vs ks :=
  Paired.mapP h fun _ _ z => ⟨z.1, z.2.mono p e _ _⟩
/-- the cell at a stands over a greater heap -/
theorem CellOk.mono {K : PySem.W.Frag} {A A' : List Addr} {F F' H H' : Hp} {a : Addr} {c : Cell} (p : A <+: A') (e : Same F F') (ha : ∀ o, H a = some o → H' a = some o) (h : CellOk K A F H a c) : CellOk K A' F' H' a c := by
  cases c with
  | lst ds => obtain ⟨vs, h1, h2, hz⟩ := h; exact ⟨vs, ha _ h1, Rps.mono e _ _ h2, hz⟩
  | lR ds => obtain ⟨vs, h1, h2, hz⟩ := h; exact ⟨vs, ha _ h1, Rrs.mono p e _ _ h2, hz⟩
  | dR ds => obtain ⟨vs, h1, h2⟩ := h; exact ⟨vs, ha _ h1, paired_mono p e h2⟩
  | tR ds => obtain ⟨vs, h1, h2⟩ := h; exact ⟨vs, ha _ h1, paired_mono p e h2⟩

theorem same_upd {H : Hp} {p : Addr} {o : HO} (h : H p = none) : Same H (upd H p o) := fun b x e => by
  rw [upd_ne (ne_of_none e h)]
  exact e
section
variable {K : PySem.W.Frag} {A : List Addr} {F F' H H' : Hp} {S : Sx} {σ : L2.St}
/-- both heaps grow -/
theorem Ok.grow (k : Ok K A F H S σ) (sub : Sub F' H') (e : Same F F') (eh : ∀ a ∈ A, ∀ o, H a = some o → H' a = some o) (hf : ∀ a ∈ A, F a = none → F' a = none) : Ok K A F' H' S σ where
  sub := sub
  len := k.len
  alen := k.alen
  nd := k.nd
  rslot := fun i r h => by obtain ⟨v, e1, q⟩ := k.rslot i r h; exact ⟨v, e1, q.mono (List.prefix_refl _) e _ _⟩
  cell := fun j c h => by
    obtain ⟨a, e1, f, c⟩ := k.cell j c h
    have hm : a ∈ A := List.mem_of_getElem? e1
    exact ⟨a, e1, hf a hm f, c.mono (List.prefix_refl _) e (eh a hm)⟩
  trk := fun a h => by obtain ⟨o, q⟩ := k.trk a h; exact ⟨o, eh a h o q⟩
/-- a new object, known for good -/
theorem Ok.laid (k : Ok K A F H S σ) {p : Addr} {o : HO} (hp : H p = none) : Ok K A (upd F p o) (upd H p o) S σ := by
  have fp : F p = none := k.sub.none hp
  refine k.grow ⟨fun b u q => ?_, fun b u q n => ?_⟩ (same_upd fp) (fun a ha u q => by rw [upd_ne (ne_of_none q hp)]; exact q) fun a ha q => ?_
  · by_cases hb : b = p
    · subst hb; rw [upd_same] at q ⊢; exact q
    · rw [upd_ne hb] at q ⊢; exact k.sub.same b u q
  · by_cases hb : b = p
    · subst hb; rw [upd_same] at n; cases n
    · rw [upd_ne hb] at q n; exact k.sub.loose b u q n
  · obtain ⟨u, hu⟩ := k.trk a ha
    rw [upd_ne (ne_of_none hu hp)]; exact q
theorem sub_cell {G H : Hp} (s : Sub G H) {a : Addr} {o : HO} (g : G a = none) (l : Loose o) : Sub G (upd H a o) := ⟨fun b u q => by
    rw [upd_ne (ne_of_none q g)]; exact s.same b u q, fun b u q n => by
    by_cases hb : b = a
    · subst hb; rw [upd_same] at q; cases q; exact l
    · rw [upd_ne hb] at q; exact s.loose b u q n⟩
/-- a new cell -/
theorem Ok.cellNew (k : Ok K A F H S σ) {p : Addr} {o : HO} {c : Cell} (hp : H p = none) (l : Loose o) (hc : CellOk K (A ++ [p]) F (upd H p o) p c) : Ok K (A ++ [p]) F (upd H p o) { S with os := S.os ++ [some c] } σ := by
  have fp : F p = none := k.sub.none hp
  have np : p ∉ A := fun z => by obtain ⟨u, hu⟩ := k.trk p z; rw [hp] at hu; cases hu
  have pp : A <+: A ++ [p] := List.prefix_append _ _
  refine ⟨sub_cell k.sub fp l, k.len, by simp [k.alen], List.nodup_append.mpr ⟨k.nd, by simp, fun a ha b hb => by simp at hb; subst hb; intro z; subst z; exact np ha⟩, fun i r h => ?_, fun j c' h => ?_, fun a h => ?_⟩
  · obtain ⟨v, e1, q⟩ := k.rslot i r h
    exact ⟨v, e1, q.mono pp (Same.refl F) _ _⟩
  · by_cases hj : j < S.os.length
    · have h' : S.os[j]? = some (some c') := by
        have := h
        simp only at this
        rw [List.getElem?_append_left hj] at this; exact this
      obtain ⟨a, e1, f, q⟩ := k.cell j c' h'
      exact ⟨a, pre_at pp e1, f, q.mono pp (Same.refl F) fun u hu => by rw [upd_ne (ne_of_none hu hp)]; exact hu⟩
    · have e : j = S.os.length := by
        have := (List.getElem?_eq_some_iff.mp h).1
        simp at this
        omega
      subst e
      have h' : some c = some c' := by simpa using h
      cases h'
      exact ⟨p, by rw [k.alen]; simp, fp, hc⟩
  · rcases List.mem_append.mp h with h | h
    · obtain ⟨u, hu⟩ := k.trk a h
      exact ⟨u, by rw [upd_ne (ne_of_none hu hp)]; exact hu⟩
    · simp at h; subst h; exact ⟨o, upd_same⟩
theorem idx_nodup {α : Type} {A : List α} (nd : A.Nodup) {i j : Nat} {a : α} (h1 : A[i]? = some a) (h2 : A[j]? = some a) : i = j := by
  obtain ⟨l1, e1⟩ := List.getElem?_eq_some_iff.mp h1
  obtain ⟨l2, e2⟩ := List.getElem?_eq_some_iff.mp h2
  exact (List.getElem_inj nd).mp (e1.trans e2.symm)
/-- a cell written -/
theorem Ok.cellSet (k : Ok K A F H S σ) {j : Nat} {a : Addr} {o : HO} {c c' : Cell} (hj : S.os[j]? = some (some c)) (ha : A[j]? = some a) (l : Loose o) (hc : CellOk K A F (upd H a o) a c') :
    Ok K A F (upd H a o) { S with os := S.os.set j (some c') } σ := by
  obtain ⟨a', e1, fa, _⟩ := k.cell j c hj
  rw [ha] at e1; cases e1
  refine ⟨sub_cell k.sub fa l, k.len, by simp [k.alen], k.nd, k.rslot, fun i d h => ?_, fun b h => ?_⟩
  · by_cases hi : j = i
    · subst hi
      have hlt := (List.getElem?_eq_some_iff.mp hj).1
      rw [List.getElem?_set_self hlt] at h
      cases h
      exact ⟨a, ha, fa, hc⟩
    · rw [List.getElem?_set_ne hi] at h
      obtain ⟨b, e1, f, q⟩ := k.cell i d h
      have hb : b ≠ a := fun z => hi (idx_nodup k.nd ha (z ▸ e1))
      exact ⟨b, e1, f, q.mono (List.prefix_refl _) (Same.refl F) fun u hu => by rw [upd_ne hb]; exact hu⟩
  · by_cases hb : b = a
    · exact ⟨o, by rw [hb, upd_same]⟩
    · obtain ⟨u, hu⟩ := k.trk b h
      exact ⟨u, by rw [upd_ne hb]; exact hu⟩
/-- a cell is written no more: its object is known for good -/
theorem Ok.sealO (k : Ok K A F H S σ) {j : Nat} {a : Addr} {o : HO} {c : Cell} (hj : S.os[j]? = some (some c)) (ha : A[j]? = some a) (ho : H a = some o) :
    Same F (upd F a o) ∧ Ok K A (upd F a o) H { S with os := S.os.set j none } σ := by
  obtain ⟨a', e1, fa, _⟩ := k.cell j c hj
  rw [ha] at e1; cases e1
  have sm : Same F (upd F a o) := same_upd fa
  refine ⟨sm, ⟨⟨fun b u q => ?_, fun b u q n => ?_⟩, k.len, by simp [k.alen], k.nd, fun i r h => ?_, fun i d h => ?_, k.trk⟩⟩
  · by_cases hb : b = a
    · subst hb; rw [upd_same] at q; cases q; exact ho
    · rw [upd_ne hb] at q; exact k.sub.same b u q
  · by_cases hb : b = a
    · subst hb; rw [upd_same] at n; cases n
    · rw [upd_ne hb] at n; exact k.sub.loose b u q n
  · obtain ⟨v, e1, q⟩ := k.rslot i r h
    exact ⟨v, e1, q.mono (List.prefix_refl _) sm _ _⟩
  · by_cases hi : j = i
    · subst hi
      have hlt := (List.getElem?_eq_some_iff.mp hj).1
      rw [List.getElem?_set_self hlt] at h
      cases h
    · rw [List.getElem?_set_ne hi] at h
      obtain ⟨b, e1, f, q⟩ := k.cell i d h
      have hb : b ≠ a := fun z => hi (idx_nodup k.nd ha (z ▸ e1))
      exact ⟨b, e1, by rw [upd_ne hb]; exact f, q.mono (List.prefix_refl _) sm fun u hu => hu⟩
/-- .. a list of data -/
theorem Ok.seal (k : Ok K A F H S σ) {j : Nat} {ds : List PyData} (hj : S.os[j]? = some (some (.lst ds))) :
    ∃ a F', A[j]? = some a ∧ Same F F' ∧ Rp K F' (.ref a) (.list ds) ∧ Ok K A F' H { S with os := S.os.set j none } σ ∧ ∀ b, b ≠ a → F' b = F b := by
  obtain ⟨a, ha, fa, vs, hv, r, hz⟩ := k.cell j _ hj
  obtain ⟨sm, k'⟩ := k.sealO hj ha hv
  exact ⟨a, _, ha, sm, .lst upd_same (Rps.mono sm _ _ r) hz, k', fun b hb => upd_ne hb⟩
theorem Ok.setR (k : Ok K A F H S σ) {i : Nat} {r : R} {v : V} (q : Rr K A F v r) : Ok K A F H { S with sl := S.sl.set i (some r) } (σ.set i (some v)) := by
  refine ⟨k.sub, by simp [k.len], k.alen, k.nd, fun n e h => ?_, k.cell, k.trk⟩
  by_cases hi : i = n
  · subst hi
    have hlt : i < S.sl.length := by
      have := (List.getElem?_eq_some_iff.mp h).1
      simpa using this
    rw [List.getElem?_set_self hlt] at h
    cases h
    exact ⟨v, by rw [List.getElem?_set_self (by rw [← k.len]; exact hlt)], q⟩
  · rw [List.getElem?_set_ne hi] at h ⊢
    exact k.rslot n e h
theorem Ok.setDat (k : Ok K A F H S σ) {i : Nat} {d : PyData} {v : V} (r : Rp K F v d) : Ok K A F H { S with sl := S.sl.set i (some (.dat d)) } (σ.set i (some v)) := k.setR (.dat r)
theorem Ok.setOwn (k : Ok K A F H S σ) {i j : Nat} {a : Addr} (ha : A[j]? = some a) : Ok K A F H { S with sl := S.sl.set i (some (.own j)) } (σ.set i (some (.ref a))) := k.setR (.own ha)
theorem set_at {α : Type} {l : List (Option α)} {i : Nat} {v : α} (hv : l[i]? = some (some v)) : l.set i (some v) = l := by
  apply List.ext_getElem?
  intro n
  by_cases hi : i = n
  · subst hi
    rw [List.getElem?_set_self (List.getElem?_eq_some_iff.mp hv).1, hv]
  · rw [List.getElem?_set_ne hi]
/-- the slot's thing told otherwise, the value as it was -/
theorem Ok.rAt (k : Ok K A F H S σ) {i : Nat} {r : R} {v : V} (hv : σ[i]? = some (some v)) (q : Rr K A F v r) : Ok K A F H { S with sl := S.sl.set i (some r) } σ := by
  have := k.setR (i := i) q
  rwa [set_at hv] at this
theorem Ok.datAt (k : Ok K A F H S σ) {i : Nat} {d : PyData} {v : V} (hv : σ[i]? = some (some v)) (r : Rp K F v d) : Ok K A F H { S with sl := S.sl.set i (some (.dat d)) } σ := k.rAt hv (.dat r)
end
end Fu

set_option maxHeartbeats 4000000
namespace Fu
open PySem PySem.Spec PyProof.Rows L2

theorem bind_inv {α β : Type} {x : Option α} {f : α → Option β} {b : β} (h : x.bind f = some b) : ∃ a, x = some a ∧ f a = some b := by
  cases x with
  | none => cases h
  | some a => exact ⟨a, rfl, h⟩

/-! ### the judgements: an expression's reading meets a function on states -/
def RdE (K : PySem.W.Frag) (t : TE) (g : M D) : Prop := ∀ A F H S σ d S' (Q : VK), Ok K A F H S σ → g S = some (d, S') →
  (∀ A' F' H' v, A <+: A' → Same F F' → Ok K A' F' H' S' σ → Rp K F' v d → Q v H') → t σ H Q
def RdT (K : PySem.W.Frag) (t : TT) (g : M Bool) : Prop := ∀ A F H S σ b S' (Q : Bool → Hp → Prop), Ok K A F H S σ → g S = some (b, S') →
  (∀ A' F' H', A <+: A' → Same F F' → Ok K A' F' H' S' σ → Q b H') → t σ H Q
def RdA (K : PySem.W.Frag) (t : TA) (g : M (List D)) : Prop := ∀ A F H S σ ds S' (Q : List V → Hp → Prop), Ok K A F H S σ → g S = some (ds, S') →
  (∀ A' F' H' vs, A <+: A' → Same F F' → Ok K A' F' H' S' σ → Rps K F' vs ds → Q vs H') → t σ H Q
structure GE (X : Cx) (e : Expr) (g : M D) : Prop where
  ex : ∃ t, PE X e t ∧ RdE X.K t g
structure GT (X : Cx) (e : Expr) (g : M Bool) : Prop where
  ex : ∃ t, PT X e t ∧ RdT X.K t g
structure GW (X : Cx) (e : Expr) (g : M Bool) : Prop where
  ex : ∃ t, PW X e t ∧ RdT X.K t g
structure GA (X : Cx) (es : List Expr) (g : M (List D)) : Prop where
  ex : ∃ t, PA X es t ∧ RdA X.K t g

/-! ### names and constants -/
def gVar (i : Nat) : M D := fun S => match S.sl[i]? with
  | some (some (.dat d)) => some (d, S)
  | some (some (.own j)) => match S.os[j]? with
    | some (some (.lst ds)) => some (.list ds, ⟨S.sl.set i (some (.dat (.list ds))), S.os.set j none⟩)
    | _ => none
  | _ => none
def gC (d : D) : M D := fun S => some (d, S)
section
variable {X : Cx} {pos : Pos}
theorem rd_var {K : PySem.W.Frag} (i : Nat) : RdE K (tVar i) (gVar i) := by
  intro A F H S σ d S' Q k h post
  unfold gVar at h
  cases e : S.sl[i]? with
  | none => rw [e] at h; cases h
  | some r =>
    cases r with
    | none => rw [e] at h; cases h
    | some r =>
      cases r with
      | dat d' =>
        rw [e] at h; cases h
        obtain ⟨v, ev, r⟩ := k.slot i _ e
        exact ⟨v, ev, post A F H v (List.prefix_refl _) (Same.refl F) k r⟩
      | scr ns => rw [e] at h; cases h
      | tup rs => rw [e] at h; cases h
      | exc c => rw [e] at h; cases h
      | own j =>
        rw [e] at h
        simp only at h
        cases e2 : S.os[j]? with
        | none => rw [e2] at h; cases h
        | some c =>
          cases c with
          | none => rw [e2] at h; cases h
          | some c =>
            cases c with
            | lst ds =>
              rw [e2] at h; cases h
              obtain ⟨a, ha, ev⟩ := k.oslot i j e
              obtain ⟨a', F', ha', sm, r, k', _⟩ := k.seal e2
              rw [ha] at ha'; cases ha'
              exact ⟨_, ev, post A F' H _ (List.prefix_refl _) sm (k'.datAt ev r) r⟩
            | lR _ => rw [e2] at h; cases h
            | dR _ => rw [e2] at h; cases h
            | tR _ => rw [e2] at h; cases h
theorem e_var (i : Nat) {x : Str} (hN : X.N[i]? = some x := by rfl) (hv : Vis X.env.scope x := by first | exact Or.inl rfl | exact Or.inr (Or.inl rfl) | exact Or.inr (Or.inr rfl)) (hd : (x == ("__debug__" : Str)) = false := by decide)
    (hcd : (x == ("__classdict__" : Str)) = false := by decide) : GE X (.Name x pos) (gVar i) := ⟨_, pe_var hN hv hd hcd, rd_var i⟩
theorem rd_c {K : PySem.W.Frag} {v : V} {d : D} (r : ∀ F, Rp K F v d) : RdE K (tC v) (gC d) := by
  intro A F H S σ d' S' Q k h post
  cases h
  exact post A F H v (List.prefix_refl _) (Same.refl F) k (r F)
theorem e_int {i : Int} {j} : GE X (.Constant (.int i) j pos) (gC (.int i)) := ⟨_, pe_int, rd_c fun _ => .int i⟩
theorem e_bl {b : Bool} {j} : GE X (.Constant (.bool b) j pos) (gC (.bool b)) := ⟨_, pe_bl, rd_c fun _ => .bl b⟩
theorem e_non {j} : GE X (.Constant .none j pos) (gC .none) := ⟨_, pe_non, rd_c fun _ => .non⟩
theorem e_str {x : Str} {j} (hz : x.length ≤ sizeLine := by decide) : GE X (.Constant (.str x) j pos) (gC (.str x)) := ⟨_, pe_str, rd_c fun _ => .str hz⟩
/-- a module's constant -/
theorem e_gint {x : Str} {i : Int} {t : Tok} (hm : X.mg x = some (.int i t)) (hg : Gl X x := by rfl) (hd : (x == ("__debug__" : Str)) = false := by decide) : GE X (.Name x pos) (gC (.int i)) := ⟨_, pe_glob (v := .int i) hg hm ⟨t, rfl⟩ hd, rd_c fun _ => .int i⟩
theorem e_gstr {x z : Str} {t : Tok} (hm : X.mg x = some (.str z t)) (hg : Gl X x := by rfl) (hz : z.length ≤ sizeLine := by decide) (hd : (x == ("__debug__" : Str)) = false := by decide) : GE X (.Name x pos) (gC (.str z)) := ⟨_, pe_glob (v := .str z) hg hm ⟨t, rfl⟩ hd, rd_c fun _ => .str hz⟩
end

/-! ### operators by values -/
def RdOp (K : PySem.W.Frag) (r : R2) (f : D → D → Option D) : Prop := ∀ A F H S σ x y d e z Q, Ok K A F H S σ → Rp K F x d → Rp K F y e → f d e = some z →
  (∀ F' H' v, Same F F' → Ok K A F' H' S σ → Rp K F' v z → Q v H') → r x y H Q
def gBin (f : D → D → Option D) (ga gb : M D) : M D := fun S => (ga S).bind fun p => (gb p.2).bind fun q => (f p.1 q.1).bind fun z => some (z, q.2)
section
variable {X : Cx} {pos : Pos} {a b : Expr} {ga gb : M D}
theorem rd_op {K : PySem.W.Frag} {r : R2} {f : D → D → Option D} {ta tb : TE} (hf : RdOp K r f) (ra : RdE K ta ga) (rb : RdE K tb gb) : RdE K (tOp r ta tb) (gBin f ga gb) := by
  intro A F H S σ d S' Q k h post
  obtain ⟨⟨x, S1⟩, h1, h⟩ := bind_inv h
  obtain ⟨⟨y, S2⟩, h2, h⟩ := bind_inv h
  obtain ⟨z, h3, h⟩ := bind_inv h
  cases h
  refine ra A F H S σ x S1 _ k h1 fun A1 F1 H1 v1 p1 s1 k1 r1 => rb A1 F1 H1 S1 σ y S2 _ k1 h2 fun A2 F2 H2 v2 p2 s2 k2 r2 => ?_
  exact hf A2 F2 H2 _ σ v1 v2 x y _ Q k2 (r1.mono s2 _ _) r2 h3 fun F3 H3 v s3 k3 r3 => post A2 F3 H3 v (p1.trans p2) (s1.trans (s2.trans s3)) k3 r3
theorem e_op {op : Operator} {r : R2} {f : D → D → Option D} (ho : OpR X (binaryOp op) r) (hf : RdOp X.K r f) (ha : GE X a ga) (hb : GE X b gb) : GE X (.BinOp a op b pos) (gBin f ga gb) :=
  let ⟨_, pa, ra⟩ := ha.ex; let ⟨_, pb, rb⟩ := hb.ex; ⟨_, pe_op ho pa pb, rd_op hf ra rb⟩
theorem e_cmpR {op : CmpOp} {r : R2} {f : D → D → Option D} (ho : OpR X (compareOp op) r) (hf : RdOp X.K r f) (hm : behindInMarks op b = false) (ha : GE X a ga) (hb : GE X b gb) : GE X (.Compare a [op] [b] pos) (gBin f ga gb) :=
  let ⟨_, pa, ra⟩ := ha.ex; let ⟨_, pb, rb⟩ := hb.ex; ⟨_, pe_cmpR ho pa pb hm, rd_op hf ra rb⟩
def gB (g : M D) : M Bool := fun S => (g S).bind fun p => match p.1 with
  | .bool b => some (b, p.2)
  | _ => none
theorem rd_test {K : PySem.W.Frag} {t : TE} {g : M D} (h : RdE K t g) : RdT K (tB t) (gB g) := by
  intro A F H S σ b S' Q k e post
  obtain ⟨⟨d, S1⟩, h1, e⟩ := bind_inv e
  refine h A F H S σ d S1 _ k h1 fun A1 F1 H1 v p1 s1 k1 r1 => ?_
  cases d <;> simp only at e <;> cases e
  cases r1
  exact ⟨_, rfl, post A1 F1 H1 p1 s1 k1⟩
theorem t_cmpR {op : CmpOp} {r : R2} {f : D → D → Option D} (ho : OpR X (compareOp op) r) (hf : RdOp X.K r f) (hm : behindInMarks op b = false) (ha : GE X a ga) (hb : GE X b gb) : GT X (.Compare a [op] [b] pos) (gB (gBin f ga gb)) :=
  let ⟨_, pa, ra⟩ := ha.ex; let ⟨_, pb, rb⟩ := hb.ex; ⟨_, pt_cmpR ho pa pb hm, rd_test (rd_op hf ra rb)⟩
theorem t_val {e : Expr} {g : M D} (h : GE X e g) (he : ∀ whole, isTrue e X.env whole = (do let v ← whole; standAt e.pos; holding [v] (truthy v)) := by intro _; rfl) : GT X e (gB g) :=
  let ⟨_, pe, re⟩ := h.ex; ⟨_, pt_val pe he, rd_test re⟩

/-! ### the operators -/
def dAdd : D → D → Option D
  | .int i, .int j => some (.int (i + j))
  | .str x, .str y => if x.length + y.length ≤ sizeLine then some (.str (x ++ y)) else none
  | .list xs, .list ys => if xs.length + ys.length ≤ sizeLine then some (.list (xs ++ ys)) else none
  | .tuple xs, .tuple ys => if xs.length + ys.length ≤ sizeLine then some (.tuple (xs ++ ys)) else none
  | _, _ => none

end

section
variable {K : PySem.W.Frag}
theorem rps_upd {F : Hp} {p : Addr} {o : HO} {vs : List V} {ds : List D} (h : F p = none) (r : Rps K F vs ds) : Rps K (upd F p o) vs ds := Rps.mono (same_upd h) _ _ r
/-- a new list, a new tuple, known for good -/
theorem Ok.newList {A : List Addr} {F H : Hp} {S : Sx} {σ : L2.St} (k : Ok K A F H S σ) {p : Addr} {vs : List V} {ds : List D} (hp : H p = none) (r : Rps K F vs ds) (hz : ds.length ≤ sizeLine) :
    Same F (upd F p (.lst vs)) ∧ Ok K A (upd F p (.lst vs)) (upd H p (.lst vs)) S σ ∧ Rp K (upd F p (.lst vs)) (.ref p) (.list ds) :=
  have fp := k.sub.none hp
  ⟨same_upd fp, k.laid hp, .lst upd_same (rps_upd fp r) hz⟩
theorem Ok.newTup {A : List Addr} {F H : Hp} {S : Sx} {σ : L2.St} (k : Ok K A F H S σ) {p : Addr} {vs : List V} {ds : List D} (hp : H p = none) (r : Rps K F vs ds) (hz : ds.length ≤ sizeLine) :
    Same F (upd F p (.tup vs)) ∧ Ok K A (upd F p (.tup vs)) (upd H p (.tup vs)) S σ ∧ Rp K (upd F p (.tup vs)) (.ref p) (.tuple ds) :=
  have fp := k.sub.none hp
  ⟨same_upd fp, k.laid hp, .tup (.inl (.inl upd_same)) (rps_upd fp r) hz⟩
theorem rp_list_inv {F : Hp} {v : V} {ds : List D} (h : Rp K F v (.list ds)) : ∃ a xs, v = .ref a ∧ F a = some (.lst xs) ∧ Rps K F xs ds ∧ ds.length ≤ sizeLine := by
  cases h with
  | lst h1 h2 h3 => exact ⟨_, _, rfl, h1, h2, h3⟩
theorem rp_tup_inv {F : Hp} {v : V} {ds : List D} (h : Rp K F v (.tuple ds)) : ∃ a xs, v = .ref a ∧ SqT K F a xs ∧ Rps K F xs ds ∧ ds.length ≤ sizeLine := by
  cases h with
  | tup h1 h2 h3 => exact ⟨_, _, rfl, h1, h2, h3⟩
theorem rp_str_inv {F : Hp} {v : V} {x : Str} (h : Rp K F v (.str x)) : v = .str x ∧ x.length ≤ sizeLine := by
  cases h with
  | str h => exact ⟨rfl, h⟩
theorem rp_int_inv {F : Hp} {v : V} {i : Int} (h : Rp K F v (.int i)) : v = .int i := by cases h; rfl
theorem rp_bool_inv {F : Hp} {v : V} {i : Bool} (h : Rp K F v (.bool i)) : v = .bl i := by cases h; rfl

def rAddAny (K : PySem.W.Frag) : R2 := fun x y H Q => (rI0 (fun i j => .int (i + j)) x y H Q) ∨ (∃ i j, x = .str i ∧ y = .str j ∧ i.length + j.length ≤ sizeLine ∧ Q (.str (i ++ j)) H) ∨ rCat x y H Q ∨ rCatA K x y H Q
theorem op_addAny {X : Cx} : OpR X (binaryOp .Add) (rAddAny X.K) := OpR.or op_add (OpR.or op_add_str (OpR.or op_cat op_catA))
theorem str_app_len (x y : Str) : (x ++ y).length = x.length + y.length := by
  show (Str.append x y).length = _
  simp [Str.append, Str.length]
theorem rd_add : RdOp K (rAddAny K) dAdd := by
  intro A F H S σ x y d e z Q k rx ry h post
  have id1 : ∀ v, Rp K F v z → Q v H := fun v r => post F H v (Same.refl F) k r
  cases d <;> cases e <;> simp only [dAdd] at h <;> try cases h
  · cases rp_int_inv rx; cases rp_int_inv ry
    exact .inl ⟨_, _, rfl, rfl, id1 _ (.int _)⟩
  · split at h
    · rename_i hz
      cases h
      obtain ⟨rfl, _⟩ := rp_str_inv rx
      obtain ⟨rfl, _⟩ := rp_str_inv ry
      exact .inr (.inl ⟨_, _, rfl, rfl, hz, id1 _ (.str (by rw [str_app_len]; exact hz))⟩)
    · cases h
  · split at h
    · rename_i hz
      cases h
      obtain ⟨a, xs, rfl, h1, h2, _⟩ := rp_list_inv rx
      obtain ⟨b, ys, rfl, g1, g2, _⟩ := rp_list_inv ry
      refine .inr (.inr (.inl ⟨a, b, xs, ys, rfl, rfl, k.sub.same _ _ h1, k.sub.same _ _ g1, by rw [h2.length, g2.length]; exact hz, fun p hp => ?_⟩))
      obtain ⟨s1, k1, r1⟩ := k.newList hp (h2.append g2) (by rw [List.length_append]; exact hz)
      exact post _ _ _ s1 k1 r1
    · cases h
  · split at h
    · rename_i hz
      cases h
      obtain ⟨a, xs, rfl, h1, h2, _⟩ := rp_tup_inv rx
      obtain ⟨b, ys, rfl, g1, g2, _⟩ := rp_tup_inv ry
      refine .inr (.inr (.inr ⟨a, b, xs, ys, rfl, rfl, sqT_same k.sub.same h1, sqT_same k.sub.same g1, by rw [h2.length, g2.length]; exact hz, fun e => ?_, fun e1 e2 => ?_, fun e1 e2 p hp => ?_⟩))
      · subst e
        cases h2
        exact id1 _ (by simpa using ry)
      · subst e2
        cases g2
        exact id1 _ (by simpa using rx)
      · obtain ⟨s1, k1, r1⟩ := k.newTup hp (h2.append g2) (by rw [List.length_append]; exact hz)
        exact post _ _ _ s1 k1 r1
    · cases h

/-! ### other operators on ints -/
def dSub : D → D → Option D
  | .int i, .int j => some (.int (i - j))
  | _, _ => none
theorem rd_sub : RdOp K (rI0 fun i j => .int (i - j)) dSub := by
  intro A F H S σ x y d e z Q k rx ry h post
  cases d <;> cases e <;> simp only [dSub] at h <;> cases h
  cases rp_int_inv rx; cases rp_int_inv ry
  exact ⟨_, _, rfl, rfl, post F H _ (Same.refl F) k (.int _)⟩
end
end Fu

set_option maxHeartbeats 4000000
namespace Fu
open PySem PySem.Spec PyProof.Rows L2
section
variable {K : PySem.W.Frag}
/-! ### products, quotients, rests, powers -/
instance (i j : Int) : Decidable (CMulW i j) := inferInstanceAs (Decidable (_ < _))
instance (i j : Int) : Decidable (CDivW i j) := inferInstanceAs (Decidable (_ ∧ _))
instance (i j : Int) : Decidable (CPow i j) := inferInstanceAs (Decidable (_ ∧ _ ∧ _))
def dMul : D → D → Option D
  | .int i, .int j => if CMulW i j then some (.int (i * j)) else none
  | .list xs, .int k => if -(2 ^ 63) ≤ k ∧ k < 2 ^ 63 ∧ xs.length * k.toNat ≤ sizeLine then some (.list (List.replicate k.toNat xs).flatten) else none
  | _, _ => none
def rMulAny : R2 := fun x y H Q => rI CMulW (fun i j => .int (i * j)) x y H Q ∨ rRep x y H Q
theorem op_mulAny {X : Cx} : OpR X (binaryOp .Mult) rMulAny := OpR.or op_mulW op_rep
theorem rd_mul : RdOp K rMulAny dMul := by
  intro A F H S σ x y d e z Q k rx ry h post
  cases d <;> cases e <;> simp only [dMul] at h <;> try cases h
  · split at h
    · rename_i hz
      cases h
      cases rp_int_inv rx; cases rp_int_inv ry
      exact .inl ⟨_, _, rfl, rfl, hz, post F H _ (Same.refl F) k (.int _)⟩
    · cases h
  · split at h
    · rename_i hz
      cases h
      obtain ⟨a, xs, rfl, h1, h2, _⟩ := rp_list_inv rx
      cases rp_int_inv ry
      refine .inr ⟨a, _, xs, rfl, rfl, k.sub.same _ _ h1, hz.1, hz.2.1, by rw [h2.length]; exact hz.2.2, fun p hp => ?_⟩
      obtain ⟨s1, k1, r1⟩ := k.newList hp (h2.rep _) (by rw [PyProof.Rows.lm_len_rep_flat, Nat.mul_comm]; exact hz.2.2)
      exact post _ _ _ s1 k1 r1
    · cases h
def dDiv : D → D → Option D
  | .int i, .int j => if CDivW i j then some (.int (i / j)) else none
  | _, _ => none
def dMod : D → D → Option D
  | .int i, .int j => if 0 < j then some (.int (i % j)) else none
  | _, _ => none
def dPow : D → D → Option D
  | .int i, .int j => if CPow i j then some (.int (i ^ j.toNat)) else none
  | _, _ => none
theorem rd_ii {C : Int → Int → Prop} [∀ i j, Decidable (C i j)] {f : Int → Int → Int} {g : D → D → Option D} (hg : ∀ d e z, g d e = some z → ∃ i j, d = .int i ∧ e = .int j ∧ C i j ∧ z = .int (f i j)) : RdOp K (rI C fun i j => .int (f i j)) g := by
  intro A F H S σ x y d e z Q k rx ry h post
  obtain ⟨i, j, rfl, rfl, c, rfl⟩ := hg d e z h
  cases rp_int_inv rx; cases rp_int_inv ry
  exact ⟨_, _, rfl, rfl, c, post F H _ (Same.refl F) k (.int _)⟩
theorem rd_div : RdOp K (rI CDivW fun i j => .int (i / j)) dDiv := rd_ii fun d e z h => by
  cases d <;> cases e <;> simp only [dDiv] at h <;> try cases h
  split at h
  · cases h; exact ⟨_, _, rfl, rfl, by assumption, rfl⟩
  · cases h
theorem rd_mod : RdOp K (rI (fun _ j => 0 < j) fun i j => .int (i % j)) dMod := rd_ii fun d e z h => by
  cases d <;> cases e <;> simp only [dMod] at h <;> try cases h
  split at h
  · cases h; exact ⟨_, _, rfl, rfl, by assumption, rfl⟩
  · cases h
theorem rd_pow : RdOp K (rI CPow fun i j => .int (i ^ j.toNat)) dPow := rd_ii fun d e z h => by
  cases d <;> cases e <;> simp only [dPow] at h <;> try cases h
  split at h
  · cases h; exact ⟨_, _, rfl, rfl, by assumption, rfl⟩
  · cases h

/-! ### comparisons -/
def dCmp (p : Int → Int → Bool) : D → D → Option D
  | .int i, .int j => some (.bool (p i j))
  | _, _ => none
theorem rd_cmp (p : Int → Int → Bool) : RdOp K (rI0 fun i j => .bl (p i j)) (dCmp p) := by
  intro A F H S σ x y d e z Q k rx ry h post
  cases d <;> cases e <;> simp only [dCmp] at h <;> cases h
  cases rp_int_inv rx; cases rp_int_inv ry
  exact ⟨_, _, rfl, rfl, post F H _ (Same.refl F) k (.bl _)⟩
def strEq : D → D → Option Bool
  | .str x, .str y => some (decide (x = y))
  | _, _ => none
def dEq (d e : D) : Option D := if SeqAt.shaped d = true ∧ SeqAt.shaped e = true then some (.bool (PyData.eqv d e)) else (strEq d e).map .bool
def dNe (d e : D) : Option D := if SeqAt.shaped d = true ∧ SeqAt.shaped e = true then some (.bool (!PyData.eqv d e)) else (strEq d e).map fun b => .bool (!b)
def rEqAny (K : PySem.W.Frag) : R2 := fun x y H Q => rEqD K x y H Q ∨ rEq x y H Q
def rNeAny (K : PySem.W.Frag) : R2 := fun x y H Q => rNeD K x y H Q ∨ rNe x y H Q
theorem op_eqAny {X : Cx} (hu : X.A.units + 64 < cLine) : OpR X (compareOp .Eq) (rEqAny X.K) := OpR.or (op_eqD hu) op_eq
theorem op_neAny {X : Cx} (hu : X.A.units + 64 < cLine) : OpR X (compareOp .NotEq) (rNeAny X.K) := OpR.or (op_neD hu) op_ne
theorem strEq_inv {d e : D} {b : Bool} (h : strEq d e = some b) : ∃ x y, d = .str x ∧ e = .str y ∧ b = decide (x = y) := by
  unfold strEq at h
  split at h
  · cases h; exact ⟨_, _, rfl, rfl, rfl⟩
  · cases h
theorem strV_eq (x y : Str) : decide (V.str x = V.str y) = decide (x = y) := by
  by_cases h : x = y
  · subst h; simp
  · rw [decide_eq_false h, decide_eq_false (fun z => h (by injection z))]
theorem Rp.dpH {F H : Hp} {v : V} {d : D} (s : Same F H) (c : SeqAt.shaped d = true) (r : Rp K F v d) : Dp K H v d := Rp.dp _ _ (SeqAt.canLay_of_shaped c) (r.mono s _ _)
theorem rd_eq : RdOp K (rEqAny K) dEq := by
  intro A F H S σ x y d e z Q k rx ry h post
  unfold dEq at h
  split at h
  · rename_i c
    cases h
    exact .inl ⟨d, e, rx.dpH k.sub.same c.1, ry.dpH k.sub.same c.2, c.1, c.2, post F H _ (Same.refl F) k (.bl _)⟩
  · obtain ⟨b, h1, rfl⟩ := Option.map_eq_some_iff.mp h
    obtain ⟨u, v, rfl, rfl, rfl⟩ := strEq_inv h1
    obtain ⟨rfl, _⟩ := rp_str_inv rx
    obtain ⟨rfl, _⟩ := rp_str_inv ry
    exact .inr ⟨rfl, post F H _ (Same.refl F) k (by rw [strV_eq]; exact .bl _)⟩
theorem rd_ne : RdOp K (rNeAny K) dNe := by
  intro A F H S σ x y d e z Q k rx ry h post
  unfold dNe at h
  split at h
  · rename_i c
    cases h
    exact .inl ⟨d, e, rx.dpH k.sub.same c.1, ry.dpH k.sub.same c.2, c.1, c.2, post F H _ (Same.refl F) k (.bl _)⟩
  · obtain ⟨b, h1, rfl⟩ := Option.map_eq_some_iff.mp h
    obtain ⟨u, v, rfl, rfl, rfl⟩ := strEq_inv h1
    obtain ⟨rfl, _⟩ := rp_str_inv rx
    obtain ⟨rfl, _⟩ := rp_str_inv ry
    exact .inr ⟨rfl, post F H _ (Same.refl F) k (by rw [strV_eq]; exact .bl _)⟩
/-- in a list, in a tuple, in a text -/
def dIn : D → D → Option D
  | .str x, .str y => some (.bool (!(Builtin.Str.occurrences y x 0 y.length 1).isEmpty))
  | d, .list ds => if SeqAt.shaped d = true ∧ SeqAt.shaped (.list ds) = true then some (.bool (ds.any fun z => PyData.eqv z d)) else none
  | d, .tuple ds => if SeqAt.shaped d = true ∧ SeqAt.shaped (.tuple ds) = true then some (.bool (ds.any fun z => PyData.eqv z d)) else none
  | _, _ => none
def dNotIn : D → D → Option D
  | .str x, .str y => some (.bool (!(!(Builtin.Str.occurrences y x 0 y.length 1).isEmpty)))
  | d, .list ds => if SeqAt.shaped d = true ∧ SeqAt.shaped (.list ds) = true then some (.bool (!ds.any fun z => PyData.eqv z d)) else none
  | d, .tuple ds => if SeqAt.shaped d = true ∧ SeqAt.shaped (.tuple ds) = true then some (.bool (!ds.any fun z => PyData.eqv z d)) else none
  | _, _ => none
def rInT (K : PySem.W.Frag) : R2 := fun x y H Q => ∃ d ds, Dp K H x d ∧ Dp K H y (.tuple ds) ∧ SeqAt.shaped d = true ∧ SeqAt.shaped (.tuple ds) = true ∧ Q (.bl (ds.any fun z => PyData.eqv z d)) H
def rNotInT (K : PySem.W.Frag) : R2 := fun x y H Q => ∃ d ds, Dp K H x d ∧ Dp K H y (.tuple ds) ∧ SeqAt.shaped d = true ∧ SeqAt.shaped (.tuple ds) = true ∧ Q (.bl (!ds.any fun z => PyData.eqv z d)) H
theorem op_inT {X : Cx} (hu : X.A.units + 65 < cLine) : OpR X (compareOp .In) (rInT X.K) := by
  intro pins s σ H x y v u Q I rx ry h
  obtain ⟨d, ds, hd, he, sd, se, q⟩ := h
  obtain ⟨as, r1⟩ := Dp.reads I d x v hd rx
  obtain ⟨bs, r2⟩ := Dp.reads I (.tuple ds) y u he ry
  exact SeqAt.in_tuple_reads r2 r1 (SeqAt.canLay_of_shaped se) (SeqAt.canLay_of_shaped sd) (room_in_shaped (xs := ds) sd hu) ⟨.bl _, H, I, rfl, q⟩
theorem op_notInT {X : Cx} (hu : X.A.units + 65 < cLine) : OpR X (compareOp .NotIn) (rNotInT X.K) := by
  intro pins s σ H x y v u Q I rx ry h
  obtain ⟨d, ds, hd, he, sd, se, q⟩ := h
  obtain ⟨as, r1⟩ := Dp.reads I d x v hd rx
  obtain ⟨bs, r2⟩ := Dp.reads I (.tuple ds) y u he ry
  exact SeqAt.notIn_tuple_reads r2 r1 (SeqAt.canLay_of_shaped se) (SeqAt.canLay_of_shaped sd) (room_in_shaped (xs := ds) sd hu) ⟨.bl _, H, I, rfl, q⟩
def rInAny (K : PySem.W.Frag) : R2 := fun x y H Q => (∃ i j, x = .str i ∧ y = .str j ∧ Q (.bl (!(Builtin.Str.occurrences j i 0 j.length 1).isEmpty)) H) ∨ rInD K x y H Q ∨ rInT K x y H Q
def rNotInAny (K : PySem.W.Frag) : R2 := fun x y H Q => (∃ i j, x = .str i ∧ y = .str j ∧ Q (.bl (!(!(Builtin.Str.occurrences j i 0 j.length 1).isEmpty))) H) ∨ rNotInD K x y H Q ∨ rNotInT K x y H Q
theorem op_inAny {X : Cx} (hu : X.A.units + 65 < cLine) : OpR X (compareOp .In) (rInAny X.K) := OpR.or op_in_str (OpR.or (op_inD hu) (op_inT hu))
theorem op_notInAny {X : Cx} (hu : X.A.units + 65 < cLine) : OpR X (compareOp .NotIn) (rNotInAny X.K) := OpR.or op_notin_str (OpR.or (op_notInD hu) (op_notInT hu))
theorem rd_in : RdOp K (rInAny K) dIn := by
  intro A F H S σ x y d e z Q k rx ry h post
  have fin : ∀ b, z = .bool b → Q (.bl b) H := fun b e => by subst e; exact post F H _ (Same.refl F) k (.bl _)
  unfold dIn at h
  split at h
  · cases h
    obtain ⟨rfl, _⟩ := rp_str_inv rx
    obtain ⟨rfl, _⟩ := rp_str_inv ry
    exact .inl ⟨_, _, rfl, rfl, fin _ rfl⟩
  · split at h
    · rename_i c
      cases h
      exact .inr (.inl ⟨_, _, rx.dpH k.sub.same c.1, ry.dpH k.sub.same c.2, c.1, c.2, fin _ rfl⟩)
    · cases h
  · split at h
    · rename_i c
      cases h
      exact .inr (.inr ⟨_, _, rx.dpH k.sub.same c.1, ry.dpH k.sub.same c.2, c.1, c.2, fin _ rfl⟩)
    · cases h
  · cases h
theorem rd_notIn : RdOp K (rNotInAny K) dNotIn := by
  intro A F H S σ x y d e z Q k rx ry h post
  have fin : ∀ b, z = .bool b → Q (.bl b) H := fun b e => by subst e; exact post F H _ (Same.refl F) k (.bl _)
  unfold dNotIn at h
  split at h
  · cases h
    obtain ⟨rfl, _⟩ := rp_str_inv rx
    obtain ⟨rfl, _⟩ := rp_str_inv ry
    exact .inl ⟨_, _, rfl, rfl, fin _ rfl⟩
  · split at h
    · rename_i c
      cases h
      exact .inr (.inl ⟨_, _, rx.dpH k.sub.same c.1, ry.dpH k.sub.same c.2, c.1, c.2, fin _ rfl⟩)
    · cases h
  · split at h
    · rename_i c
      cases h
      exact .inr (.inr ⟨_, _, rx.dpH k.sub.same c.1, ry.dpH k.sub.same c.2, c.1, c.2, fin _ rfl⟩)
    · cases h
  · cases h
end

/-! ### the expressions' rules by operators -/
section
variable {X : Cx} {pos : Pos} {a b c : Expr} {ga gb gc : M D}
theorem e_add (ha : GE X a ga) (hb : GE X b gb) : GE X (.BinOp a .Add b pos) (gBin dAdd ga gb) := e_op op_addAny rd_add ha hb
theorem e_sub (ha : GE X a ga) (hb : GE X b gb) : GE X (.BinOp a .Sub b pos) (gBin dSub ga gb) := e_op op_sub rd_sub ha hb
theorem e_mul (ha : GE X a ga) (hb : GE X b gb) : GE X (.BinOp a .Mult b pos) (gBin dMul ga gb) := e_op op_mulAny rd_mul ha hb
theorem e_div (ha : GE X a ga) (hb : GE X b gb) : GE X (.BinOp a .FloorDiv b pos) (gBin dDiv ga gb) := e_op op_fdivW rd_div ha hb
theorem e_mod (ha : GE X a ga) (hb : GE X b gb) : GE X (.BinOp a .Mod b pos) (gBin dMod ga gb) := e_op op_mod rd_mod ha hb
theorem e_pow (ha : GE X a ga) (hb : GE X b gb) : GE X (.BinOp a .Pow b pos) (gBin dPow ga gb) := e_op op_pow rd_pow ha hb
abbrev dLt := dCmp fun i j => decide (i < j)
abbrev dLe := dCmp fun i j => decide (i ≤ j)
abbrev dGe := dCmp fun i j => decide (j ≤ i)
theorem e_lt (ha : GE X a ga) (hb : GE X b gb) : GE X (.Compare a [.Lt] [b] pos) (gBin dLt ga gb) := e_cmpR op_lt (rd_cmp _) (nomark _) ha hb
theorem e_ge (ha : GE X a ga) (hb : GE X b gb) : GE X (.Compare a [.GtE] [b] pos) (gBin dGe ga gb) := e_cmpR op_ge (rd_cmp _) (nomark _) ha hb
theorem e_eq (hu : X.A.units + 64 < cLine) (ha : GE X a ga) (hb : GE X b gb) : GE X (.Compare a [.Eq] [b] pos) (gBin dEq ga gb) := e_cmpR (op_eqAny hu) rd_eq (nomark _) ha hb
theorem e_ne (hu : X.A.units + 64 < cLine) (ha : GE X a ga) (hb : GE X b gb) : GE X (.Compare a [.NotEq] [b] pos) (gBin dNe ga gb) := e_cmpR (op_neAny hu) rd_ne (nomark _) ha hb
theorem e_in (hu : X.A.units + 65 < cLine) (ha : GE X a ga) (hb : GE X b gb) (hm : behindInMarks .In b = false := by rfl) : GE X (.Compare a [.In] [b] pos) (gBin dIn ga gb) := e_cmpR (op_inAny hu) rd_in hm ha hb
theorem t_lt (ha : GE X a ga) (hb : GE X b gb) : GT X (.Compare a [.Lt] [b] pos) (gB (gBin dLt ga gb)) := t_cmpR op_lt (rd_cmp _) (nomark _) ha hb
theorem t_eq (hu : X.A.units + 64 < cLine) (ha : GE X a ga) (hb : GE X b gb) : GT X (.Compare a [.Eq] [b] pos) (gB (gBin dEq ga gb)) := t_cmpR (op_eqAny hu) rd_eq (nomark _) ha hb
theorem t_ne (hu : X.A.units + 64 < cLine) (ha : GE X a ga) (hb : GE X b gb) : GT X (.Compare a [.NotEq] [b] pos) (gB (gBin dNe ga gb)) := t_cmpR (op_neAny hu) rd_ne (nomark _) ha hb
theorem t_notIn (hu : X.A.units + 65 < cLine) (ha : GE X a ga) (hb : GE X b gb) (hm : behindInMarks .NotIn b = false := by rfl) : GT X (.Compare a [.NotIn] [b] pos) (gB (gBin dNotIn ga gb)) := t_cmpR (op_notInAny hu) rd_notIn hm ha hb
/-! ### and, or, not, if -/
def gAnd (g h : M Bool) : M Bool := fun S => (g S).bind fun p => if p.1 = true then h p.2 else some (false, p.2)
def gOr (g h : M Bool) : M Bool := fun S => (g S).bind fun p => if p.1 = true then some (true, p.2) else h p.2
def gNot (g : M Bool) : M Bool := fun S => (g S).bind fun p => some (!p.1, p.2)
def gIf (t : M Bool) (g h : M D) : M D := fun S => (t S).bind fun p => if p.1 = true then g p.2 else h p.2
variable {rest : List Expr} {g h : M Bool}
theorem w_and1 (ha : GT X a g) : GW X (.BoolOp .And [a] pos) g := let ⟨_, pa, ra⟩ := ha.ex; ⟨_, pw_and1 pa, ra⟩
theorem w_or1 (ha : GT X a g) : GW X (.BoolOp .Or [a] pos) g := let ⟨_, pa, ra⟩ := ha.ex; ⟨_, pw_or1 pa, ra⟩
theorem rd_and {K : PySem.W.Frag} {t u : TT} (ha : RdT K t g) (hb : RdT K u h) : RdT K (tAnd t u) (gAnd g h) := by
  intro A F H S σ d S' Q k e post
  obtain ⟨⟨x, S1⟩, h1, e⟩ := bind_inv e
  refine ha A F H S σ x S1 _ k h1 fun A1 F1 H1 p1 s1 k1 => ?_
  cases x with
  | true => exact hb A1 F1 H1 S1 σ d S' Q k1 e fun A2 F2 H2 p2 s2 k2 => post A2 F2 H2 (p1.trans p2) (s1.trans s2) k2
  | false =>
    cases e
    exact post A1 F1 H1 p1 s1 k1
theorem rd_or {K : PySem.W.Frag} {t u : TT} (ha : RdT K t g) (hb : RdT K u h) : RdT K (tOr t u) (gOr g h) := by
  intro A F H S σ d S' Q k e post
  obtain ⟨⟨x, S1⟩, h1, e⟩ := bind_inv e
  refine ha A F H S σ x S1 _ k h1 fun A1 F1 H1 p1 s1 k1 => ?_
  cases x with
  | false => exact hb A1 F1 H1 S1 σ d S' Q k1 e fun A2 F2 H2 p2 s2 k2 => post A2 F2 H2 (p1.trans p2) (s1.trans s2) k2
  | true =>
    cases e
    exact post A1 F1 H1 p1 s1 k1
theorem w_and (ha : GT X a g) (hb : GW X (.BoolOp .And (b :: rest) pos) h) : GW X (.BoolOp .And (a :: b :: rest) pos) (gAnd g h) :=
  let ⟨_, pa, ra⟩ := ha.ex; let ⟨_, pb, rb⟩ := hb.ex; ⟨_, pw_and pa pb, rd_and ra rb⟩
theorem w_or (ha : GT X a g) (hb : GW X (.BoolOp .Or (b :: rest) pos) h) : GW X (.BoolOp .Or (a :: b :: rest) pos) (gOr g h) :=
  let ⟨_, pa, ra⟩ := ha.ex; let ⟨_, pb, rb⟩ := hb.ex; ⟨_, pw_or pa pb, rd_or ra rb⟩
theorem t_w {e : Expr} (hw : GW X e g) : GT X e g := let ⟨_, pa, ra⟩ := hw.ex; ⟨_, pa.pt, ra⟩
theorem t_not (ha : GT X a g) : GT X (.UnaryOp .Not a pos) (gNot g) := by
  obtain ⟨t, pa, ra⟩ := ha.ex
  refine ⟨_, pt_not pa, fun A F H S σ d S' Q k e post => ?_⟩
  obtain ⟨⟨x, S1⟩, h1, e⟩ := bind_inv e
  cases e
  exact ra A F H S σ x _ _ k h1 post
/-- as values -/
def gAndV (g h : M D) : M D := fun S => (g S).bind fun p => match p.1 with
  | .bool true => h p.2
  | .bool false => some (.bool false, p.2)
  | _ => none
def gOrV (g h : M D) : M D := fun S => (g S).bind fun p => match p.1 with
  | .bool true => some (.bool true, p.2)
  | .bool false => h p.2
  | _ => none
def gNotV (g : M D) : M D := fun S => (g S).bind fun p => match p.1 with
  | .bool b => some (.bool (!b), p.2)
  | _ => none
theorem e_one {op} (ha : GE X a ga) : GE X (.BoolOp op [a] pos) ga := let ⟨_, pa, ra⟩ := ha.ex; ⟨_, pe_one pa, ra⟩
theorem e_and (ha : GE X a ga) (hb : GE X (.BoolOp .And (b :: rest) pos) gb) : GE X (.BoolOp .And (a :: b :: rest) pos) (gAndV ga gb) := by
  obtain ⟨t, pa, ra⟩ := ha.ex
  obtain ⟨u, pb, rb⟩ := hb.ex
  refine ⟨_, pe_and pa pb, fun A F H S σ d S' Q k e post => ?_⟩
  obtain ⟨⟨x, S1⟩, h1, e⟩ := bind_inv e
  refine ra A F H S σ x S1 _ k h1 fun A1 F1 H1 v p1 s1 k1 r1 => ?_
  cases x <;> simp only at e <;> try cases e
  rename_i y
  cases rp_bool_inv r1
  refine ⟨y, rfl, ?_⟩
  cases y with
  | true => exact rb A1 F1 H1 S1 σ d S' Q k1 e fun A2 F2 H2 v p2 s2 k2 => post A2 F2 H2 v (p1.trans p2) (s1.trans s2) k2
  | false =>
    cases e
    exact post A1 F1 H1 _ p1 s1 k1 (.bl _)
theorem e_or (ha : GE X a ga) (hb : GE X (.BoolOp .Or (b :: rest) pos) gb) : GE X (.BoolOp .Or (a :: b :: rest) pos) (gOrV ga gb) := by
  obtain ⟨t, pa, ra⟩ := ha.ex
  obtain ⟨u, pb, rb⟩ := hb.ex
  refine ⟨_, pe_or pa pb, fun A F H S σ d S' Q k e post => ?_⟩
  obtain ⟨⟨x, S1⟩, h1, e⟩ := bind_inv e
  refine ra A F H S σ x S1 _ k h1 fun A1 F1 H1 v p1 s1 k1 r1 => ?_
  cases x <;> simp only at e <;> try cases e
  rename_i y
  cases rp_bool_inv r1
  refine ⟨y, rfl, ?_⟩
  cases y with
  | false => exact rb A1 F1 H1 S1 σ d S' Q k1 e fun A2 F2 H2 v p2 s2 k2 => post A2 F2 H2 v (p1.trans p2) (s1.trans s2) k2
  | true =>
    cases e
    exact post A1 F1 H1 _ p1 s1 k1 (.bl _)
theorem e_not (ha : GE X a ga) : GE X (.UnaryOp .Not a pos) (gNotV ga) := by
  obtain ⟨t, pa, ra⟩ := ha.ex
  refine ⟨_, pe_not pa, fun A F H S σ d S' Q k e post => ?_⟩
  obtain ⟨⟨x, S1⟩, h1, e⟩ := bind_inv e
  refine ra A F H S σ x S1 _ k h1 fun A1 F1 H1 v p1 s1 k1 r1 => ?_
  cases x <;> simp only at e <;> try cases e
  cases rp_bool_inv r1
  exact ⟨_, rfl, post A1 F1 H1 _ p1 s1 k1 (.bl _)⟩
theorem e_if (hc : GT X c g) (ha : GE X a ga) (hb : GE X b gb) : GE X (.IfExp c a b pos) (gIf g ga gb) := by
  obtain ⟨t, pc, rc⟩ := hc.ex
  obtain ⟨_, pa, ra⟩ := ha.ex
  obtain ⟨_, pb, rb⟩ := hb.ex
  refine ⟨_, pe_ifExp pc pa pb, fun A F H S σ d S' Q k e post => ?_⟩
  obtain ⟨⟨x, S1⟩, h1, e⟩ := bind_inv e
  refine rc A F H S σ x S1 _ k h1 fun A1 F1 H1 p1 s1 k1 => ?_
  cases x with
  | true => exact ra A1 F1 H1 S1 σ d S' Q k1 e fun A2 F2 H2 v p2 s2 k2 => post A2 F2 H2 v (p1.trans p2) (s1.trans s2) k2
  | false => exact rb A1 F1 H1 S1 σ d S' Q k1 e fun A2 F2 H2 v p2 s2 k2 => post A2 F2 H2 v (p1.trans p2) (s1.trans s2) k2
def gUn (f : D → Option D) (g : M D) : M D := fun S => (g S).bind fun p => (f p.1).bind fun z => some (z, p.2)
def dNeg : D → Option D
  | .int i => some (.int (-i))
  | _ => none
theorem e_neg (ha : GE X a ga) : GE X (.UnaryOp .USub a pos) (gUn dNeg ga) := by
  obtain ⟨t, pa, ra⟩ := ha.ex
  refine ⟨_, pe_un un_neg pa, fun A F H S σ d S' Q k e post => ?_⟩
  obtain ⟨⟨x, S1⟩, h1, e⟩ := bind_inv e
  obtain ⟨z, h2, e⟩ := bind_inv e
  cases e
  refine ra A F H S σ x _ _ k h1 fun A1 F1 H1 v p1 s1 k1 r1 => ?_
  cases x <;> simp only [dNeg] at h2 <;> cases h2
  cases rp_int_inv r1
  exact ⟨_, rfl, post A1 F1 H1 _ p1 s1 k1 (.int _)⟩

/-! ### arguments, displays -/
def gNil : M (List D) := fun S => some ([], S)
def gCons (g : M D) (gs : M (List D)) : M (List D) := fun S => (g S).bind fun p => (gs p.2).bind fun q => some (p.1 :: q.1, q.2)
variable {e : Expr} {es : List Expr} {ge : M D} {gs : M (List D)}
theorem a_nil : GA X [] gNil := ⟨_, pa_nil, fun A F H S σ d S' Q k e post => by cases e; exact post A F H _ (List.prefix_refl _) (Same.refl F) k .nil⟩
theorem a_cons (ha : GE X e ge) (hs : GA X es gs) (hst : starEach (e :: es) X.env = (false, eval e X.env) :: starEach es X.env := by rfl) : GA X (e :: es) (gCons ge gs) := by
  obtain ⟨t, pa, ra⟩ := ha.ex
  obtain ⟨u, pb, rb⟩ := hs.ex
  refine ⟨_, pa_cons pa pb hst, fun A F H S σ d S' Q k e post => ?_⟩
  obtain ⟨⟨x, S1⟩, h1, e⟩ := bind_inv e
  obtain ⟨⟨y, S2⟩, h2, e⟩ := bind_inv e
  cases e
  refine ra A F H S σ x S1 _ k h1 fun A1 F1 H1 v p1 s1 k1 r1 => rb A1 F1 H1 S1 σ y S2 _ k1 h2 fun A2 F2 H2 vs p2 s2 k2 r2 => ?_
  exact post A2 F2 H2 _ (p1.trans p2) (s1.trans s2) k2 (.cons (r1.mono s2 _ _) r2)
def gTup (g : M (List D)) : M D := fun S => (g S).bind fun p => if p.1.length ≤ sizeLine then some (.tuple p.1, p.2) else none
def gLst (g : M (List D)) : M D := fun S => (g S).bind fun p => if p.1.length ≤ sizeLine then some (.list p.1, p.2) else none
theorem e_tup {x1} (hs : GA X es gs) : GE X (.Tuple es x1 pos) (gTup gs) := by
  obtain ⟨u, pb, rb⟩ := hs.ex
  refine ⟨_, pe_tup pb, fun A F H S σ d S' Q k e post => ?_⟩
  obtain ⟨⟨x, S1⟩, h1, e⟩ := bind_inv e
  simp only at e
  split at e
  · rename_i hz
    cases e
    refine rb A F H S σ x _ _ k h1 fun A1 F1 H1 vs p1 s1 k1 r1 => ⟨by rw [r1.length]; exact hz, fun p hp => ?_⟩
    obtain ⟨s2, k2, r2⟩ := k1.newTup hp r1 hz
    exact post A1 _ _ _ p1 (s1.trans s2) k2 r2
  · cases e
theorem e_lst (hs : GA X es gs) : GE X (.List es pos) (gLst gs) := by
  obtain ⟨u, pb, rb⟩ := hs.ex
  refine ⟨_, pe_lst pb, fun A F H S σ d S' Q k e post => ?_⟩
  obtain ⟨⟨x, S1⟩, h1, e⟩ := bind_inv e
  simp only at e
  split at e
  · rename_i hz
    cases e
    refine rb A F H S σ x _ _ k h1 fun A1 F1 H1 vs p1 s1 k1 r1 => ⟨by rw [r1.length]; exact hz, fun p hp => ?_⟩
    obtain ⟨s2, k2, r2⟩ := k1.newList hp r1 hz
    exact post A1 _ _ _ p1 (s1.trans s2) k2 r2
  · cases e

/-! ### items, slices -/
def dIx : D → D → Option D
  | .list xs, .int i => atI xs i
  | .tuple xs, .int i => atI xs i
  | .str z, .int i => (atI z.cps.toList i).bind fun c => some (.str ⟨#[c]⟩)
  | _, _ => none
theorem rps_atI {K : PySem.W.Frag} {F : Hp} {vs : List V} {ds : List D} {i : Int} {d : D} (r : Rps K F vs ds) (h : atI ds i = some d) : ∃ v, atI vs i = some v ∧ Rp K F v d := by
  unfold atI at h ⊢
  rw [r.length]
  obtain ⟨j, h1, h2⟩ := bind_inv h
  rw [h1]
  exact r.get h2
def rIxAny (K : PySem.W.Frag) : R2 := fun x y H Q => rIxL K x y H Q ∨ rIxT K x y H Q ∨ rIxS x y H Q
theorem ix_any : IxR X (rIxAny X.K) := IxR.or ix_list (IxR.or ix_tup ix_str)
theorem one_len (c : Nat) : (⟨#[c]⟩ : Str).length ≤ sizeLine := by
  show 1 ≤ sizeLine
  decide
theorem rd_ix {K : PySem.W.Frag} : RdOp K (rIxAny K) dIx := by
  intro A F H S σ x y d e z Q k rx ry h post
  unfold dIx at h
  split at h
  · obtain ⟨a, xs, rfl, h1, h2, _⟩ := rp_list_inv rx
    cases rp_int_inv ry
    obtain ⟨v, e1, r⟩ := rps_atI h2 h
    exact .inl ⟨a, xs, _, v, rfl, rfl, SqL.of (k.sub.same _ _ h1), e1, post F H _ (Same.refl F) k r⟩
  · obtain ⟨a, xs, rfl, h1, h2, _⟩ := rp_tup_inv rx
    cases rp_int_inv ry
    obtain ⟨v, e1, r⟩ := rps_atI h2 h
    exact .inr (.inl ⟨a, xs, _, v, rfl, rfl, sqT_same k.sub.same h1, e1, post F H _ (Same.refl F) k r⟩)
  · obtain ⟨rfl, hz⟩ := rp_str_inv rx
    cases rp_int_inv ry
    obtain ⟨c, h1, h2⟩ := bind_inv h
    cases h2
    exact .inr (.inr ⟨_, _, c, rfl, rfl, hz, h1, post F H _ (Same.refl F) k (.str (one_len c))⟩)
  · cases h
theorem e_ix (ha : GE X a ga) (hb : GE X b gb) (hs : PlainIx b := by exact fun _ _ => rfl) : GE X (.Subscript a b pos) (gBin dIx ga gb) := by
  obtain ⟨t, pa, ra⟩ := ha.ex
  obtain ⟨u, pb, rb⟩ := hb.ex
  exact ⟨_, pe_ix ix_any pa pb hs, rd_op rd_ix ra rb⟩
/-- a slice's part -/
structure GO (X : Cx) (e : Option Expr) (g : M (Option Int)) : Prop where
  ex : ∃ t, PO X e t ∧ ∀ A F H S σ o S' (Q : Option Int → Hp → Prop), Ok X.K A F H S σ → g S = some (o, S') → (∀ A' F' H', A <+: A' → Same F F' → Ok X.K A' F' H' S' σ → Q o H') → t σ H Q
def gNo : M (Option Int) := fun S => some (none, S)
def gSo (g : M D) : M (Option Int) := fun S => (g S).bind fun p => match p.1 with
  | .int i => some (some i, p.2)
  | _ => none
theorem o_none : GO X none gNo := ⟨_, po_none, fun A F H S σ o S' Q k e post => by cases e; exact post A F H (List.prefix_refl _) (Same.refl F) k⟩
theorem o_some (ha : GE X a ga) : GO X (some a) (gSo ga) := by
  obtain ⟨t, pa, ra⟩ := ha.ex
  refine ⟨_, po_some pa, fun A F H S σ o S' Q k e post => ?_⟩
  obtain ⟨⟨x, S1⟩, h1, e⟩ := bind_inv e
  refine ra A F H S σ x _ _ k h1 fun A1 F1 H1 v p1 s1 k1 r1 => ?_
  cases x <;> simp only at e <;> cases e
  cases rp_int_inv r1
  exact ⟨_, rfl, post A1 F1 H1 p1 s1 k1⟩
def cutL {α : Type} (xs : List α) (lo hi : Option Int) : List α := (xs.drop (HT.sIx xs.length 0 lo)).take (HT.sIx xs.length xs.length hi - HT.sIx xs.length 0 lo)
theorem cutL_le {α : Type} (xs : List α) (lo hi : Option Int) : (cutL xs lo hi).length ≤ xs.length := by
  unfold cutL
  rw [List.length_take, List.length_drop]
  omega
def dSl : D → Option Int → Option Int → Option D
  | .list xs, lo, hi => some (.list (cutL xs lo hi))
  | .tuple xs, lo, hi => some (.tuple (cutL xs lo hi))
  | .str z, lo, hi => some (.str (cutS z lo hi))
  | _, _, _ => none
def gSl (g : M D) (gl gh : M (Option Int)) : M D := fun S => (g S).bind fun p => (gl p.2).bind fun q => (gh q.2).bind fun r => (dSl p.1 q.1 r.1).bind fun z => some (z, r.2)
def rSlAny (K : PySem.W.Frag) : V → Option Int → Option Int → Hp → VK → Prop := fun x lo hi H Q => rSlL K x lo hi H Q ∨ rSlA K x lo hi H Q ∨ rSlS x lo hi H Q
theorem sl_any : SlR X (rSlAny X.K) := SlR.or sl_list (SlR.or sl_tupA sl_str)
theorem rps_cut {K : PySem.W.Frag} {F : Hp} {vs : List V} {ds : List D} (r : Rps K F vs ds) (lo hi : Option Int) : Rps K F (cutV vs lo hi) (cutL ds lo hi) := by
  unfold cutV cutL
  rw [r.length]
  exact (r.drop _).take _
theorem rd_sl {K : PySem.W.Frag} {A : List Addr} {F H : Hp} {S : Sx} {σ : L2.St} {x : V} {d z : D} {lo hi : Option Int} {Q : VK} (k : Ok K A F H S σ) (rx : Rp K F x d) (h : dSl d lo hi = some z)
    (post : ∀ F' H' v, Same F F' → Ok K A F' H' S σ → Rp K F' v z → Q v H') : rSlAny K x lo hi H Q := by
  cases d <;> simp only [dSl] at h <;> cases h
  · obtain ⟨rfl, hz⟩ := rp_str_inv rx
    exact .inr (.inr ⟨_, rfl, hz, post F H _ (Same.refl F) k (.str (Nat.le_trans (cutS_length _ _ _) hz))⟩)
  · obtain ⟨a, xs, rfl, h1, h2, h3⟩ := rp_list_inv rx
    refine .inl ⟨a, xs, rfl, SqL.of (k.sub.same _ _ h1), fun p hp => ?_⟩
    obtain ⟨s1, k1, r1⟩ := k.newList hp (rps_cut h2 lo hi) (Nat.le_trans (cutL_le _ _ _) h3)
    exact post _ _ _ s1 k1 r1
  · obtain ⟨a, xs, rfl, h1, h2, h3⟩ := rp_tup_inv rx
    refine .inr (.inl ⟨a, xs, rfl, sqT_same k.sub.same h1, fun hw => ?_, fun _ p hp => ?_⟩)
    · refine post F H _ (Same.refl F) k ?_
      rename_i ds
      have : cutL ds lo hi = ds := by
        unfold cutL
        rw [← h2.length, hw.1, hw.2, h2.length]
        simp
      rw [this]
      exact rx
    · obtain ⟨s1, k1, r1⟩ := k.newTup hp (rps_cut h2 lo hi) (Nat.le_trans (cutL_le _ _ _) h3)
      exact post _ _ _ s1 k1 r1
theorem e_sl {lo hi : Option Expr} {p2 : Pos} {gl gh : M (Option Int)} (ha : GE X a ga) (hl : GO X lo gl) (hh : GO X hi gh) : GE X (.Subscript a (.Slice lo hi none p2) pos) (gSl ga gl gh) := by
  obtain ⟨t, pa, ra⟩ := ha.ex
  obtain ⟨_, pl, rl⟩ := hl.ex
  obtain ⟨_, ph, rh⟩ := hh.ex
  refine ⟨_, pe_slice sl_any pa pl ph, fun A F H S σ d S' Q k e post => ?_⟩
  obtain ⟨⟨x, S1⟩, h1, e⟩ := bind_inv e
  obtain ⟨⟨l, S2⟩, h2, e⟩ := bind_inv e
  obtain ⟨⟨u, S3⟩, h3, e⟩ := bind_inv e
  obtain ⟨z, h4, e⟩ := bind_inv e
  cases e
  refine ra A F H S σ x _ _ k h1 fun A1 F1 H1 v p1 s1 k1 r1 => rl A1 F1 H1 _ σ l _ _ k1 h2 fun A2 F2 H2 p2 s2 k2 => rh A2 F2 H2 _ σ u _ _ k2 h3 fun A3 F3 H3 p3 s3 k3 => ?_
  exact rd_sl k3 ((r1.mono s2 _ _).mono s3 _ _) h4 fun F4 H4 w s4 k4 r4 => post A3 F4 H4 w (p1.trans (p2.trans p3)) (s1.trans (s2.trans (s3.trans s4))) k4 r4
end
end Fu

set_option maxHeartbeats 4000000
namespace Fu
open PySem PySem.Spec PyProof.Rows L2

/-! ### calls of built-ins by name -/
def RdC (K : PySem.W.Frag) (r : List V → Hp → VK → Prop) (f : List D → Option D) : Prop := ∀ A F H S σ xs ds z Q, Ok K A F H S σ → Rps K F xs ds → f ds = some z →
  (∀ F' H' v, Same F F' → Ok K A F' H' S σ → Rp K F' v z → Q v H') → r xs H Q
def gCall (f : List D → Option D) (g : M (List D)) : M D := fun S => (g S).bind fun p => (f p.1).bind fun z => some (z, p.2)
section
variable {X : Cx} {pos p p2 : Pos} {x : Str} {e : Expr} {es : List Expr} {gs : M (List D)} {r : List V → Hp → VK → Prop} {f : List D → Option D} {id T : String}
theorem rd_callB {K : PySem.W.Frag} {t : TA} (hf : RdC K r f) (rs : RdA K t gs) : RdE K (tCB r t) (gCall f gs) := by
  intro A F H S σ d S' Q k h post
  obtain ⟨⟨ds, S1⟩, h1, h⟩ := bind_inv h
  obtain ⟨z, h2, h⟩ := bind_inv h
  cases h
  exact rs A F H S σ ds _ _ k h1 fun A1 F1 H1 vs p1 s1 k1 r1 => hf A1 F1 H1 _ σ vs ds _ Q k1 r1 h2 fun F2 H2 v s2 k2 r2 => post A1 F2 H2 v p1 (s1.trans s2) k2 r2
theorem e_callB (hc : CallR X (.builtin id) r) (hf : RdC X.K r f) (hm : X.mg x = none) (hv : bootBuiltins x = some (.builtin id)) (ha : GA X (e :: es) gs) (hg : Gl X x := by rfl) (hn : x ≠ "__name__" := by decide) (hdb : (x == ("__debug__" : Str)) = false := by decide)
    (he : starEach (e :: es) X.env = (false, eval e X.env) :: starEach es X.env := by rfl) (hpl : (backTo pos (starEach es X.env)).any (·.1) = false := by rfl) : GE X (.Call (.Name x p) (e :: es) [] pos) (gCall f gs) :=
  let ⟨_, pa, ra⟩ := ha.ex; ⟨_, pe_callB hc hg hm hv pa hn hdb he hpl, rd_callB hf ra⟩
theorem e_callTy (hc : CallR X (.type T) r) (hf : RdC X.K r f) (hm : X.mg x = none) (hv : bootBuiltins x = some (.type T)) (ha : GA X (e :: es) gs) (hg : Gl X x := by rfl) (hn : x ≠ "__name__" := by decide) (hdb : (x == ("__debug__" : Str)) = false := by decide)
    (he : starEach (e :: es) X.env = (false, eval e X.env) :: starEach es X.env := by rfl) (hpl : (backTo pos (starEach es X.env)).any (·.1) = false := by rfl) : GE X (.Call (.Name x p) (e :: es) [] pos) (gCall f gs) :=
  let ⟨_, pa, ra⟩ := ha.ex; ⟨_, pe_callTy hc hg hm hv pa hn hdb he hpl, rd_callB hf ra⟩
end

section
variable {K : PySem.W.Frag}
theorem rps1 {F : Hp} {vs : List V} {d : D} (r : Rps K F vs [d]) : ∃ v, vs = [v] ∧ Rp K F v d := by
  cases r with
  | cons h1 h2 => cases h2; exact ⟨_, rfl, h1⟩
theorem rps2 {F : Hp} {vs : List V} {d e : D} (r : Rps K F vs [d, e]) : ∃ v u, vs = [v, u] ∧ Rp K F v d ∧ Rp K F u e := by
  cases r with
  | cons h1 h2 => cases h2 with
    | cons h3 h4 => cases h4; exact ⟨_, _, rfl, h1, h3⟩
def dLen : List D → Option D
  | [.list xs] => some (.int xs.length)
  | [.tuple xs] => some (.int xs.length)
  | [.str x] => some (.int x.length)
  | _ => none
theorem rd_len : RdC K (fun xs H Q => ∃ x n, xs = [x] ∧ LenV K x H n ∧ Q (.int n) H) dLen := by
  intro A F H S σ xs ds z Q k r h post
  unfold dLen at h
  split at h <;> cases h
  · obtain ⟨v, rfl, rv⟩ := rps1 r
    obtain ⟨a, vs, rfl, h1, h2, _⟩ := rp_list_inv rv
    exact ⟨_, _, rfl, .inl ⟨vs, SqL.of (k.sub.same _ _ h1), h2.length.symm⟩, post F H _ (Same.refl F) k (.int _)⟩
  · obtain ⟨v, rfl, rv⟩ := rps1 r
    obtain ⟨a, vs, rfl, h1, h2, _⟩ := rp_tup_inv rv
    exact ⟨_, _, rfl, .inr ⟨vs, sqT_same k.sub.same h1, h2.length.symm⟩, post F H _ (Same.refl F) k (.int _)⟩
  · obtain ⟨v, rfl, rv⟩ := rps1 r
    obtain ⟨rfl, hz⟩ := rp_str_inv rv
    exact ⟨_, _, rfl, ⟨hz, rfl⟩, post F H _ (Same.refl F) k (.int _)⟩
def dInt : List D → Option D
  | [.int i] => some (.int i)
  | [.bool b] => some (.int (if b then 1 else 0))
  | _ => none
theorem rd_int : RdC K (fun xs H Q => (∃ i, xs = [.int i] ∧ Q (.int i) H) ∨ ∃ k, xs = [.bl k] ∧ Q (.int (if k then 1 else 0)) H) dInt := by
  intro A F H S σ xs ds z Q k r h post
  unfold dInt at h
  split at h <;> cases h
  · obtain ⟨v, rfl, rv⟩ := rps1 r
    cases rp_int_inv rv
    exact .inl ⟨_, rfl, post F H _ (Same.refl F) k (.int _)⟩
  · obtain ⟨v, rfl, rv⟩ := rps1 r
    cases rp_bool_inv rv
    exact .inr ⟨_, rfl, post F H _ (Same.refl F) k (.int _)⟩
def dMax2 : List D → Option D
  | [.int i, .int j] => some (.int (if j > i then j else i))
  | _ => none
def dMin2 : List D → Option D
  | [.int i, .int j] => some (.int (if j < i then j else i))
  | _ => none
theorem rd_min2 : RdC K (fun xs H Q => ∃ i j, xs = [.int i, .int j] ∧ Q (.int (if j < i then j else i)) H) dMin2 := by
  intro A F H S σ xs ds z Q k r h post
  unfold dMin2 at h
  split at h <;> cases h
  obtain ⟨v, u, rfl, rv, ru⟩ := rps2 r
  cases rp_int_inv rv; cases rp_int_inv ru
  exact ⟨_, _, rfl, post F H _ (Same.refl F) k (.int _)⟩
def dList : List D → Option D
  | [.list xs] => some (.list xs)
  | [.tuple xs] => some (.list xs)
  | _ => none
theorem rd_list : RdC K (fun xs H Q => ∃ p ys, xs = [.ref p] ∧ (SqL K H p ys ∨ SqT K H p ys) ∧ ∀ l, H l = none → Q (.ref l) (upd H l (.lst ys))) dList := by
  intro A F H S σ xs ds z Q k r h post
  unfold dList at h
  split at h <;> cases h
  · obtain ⟨v, rfl, rv⟩ := rps1 r
    obtain ⟨a, vs, rfl, h1, h2, h3⟩ := rp_list_inv rv
    refine ⟨_, _, rfl, .inl (SqL.of (k.sub.same _ _ h1)), fun l hl => ?_⟩
    obtain ⟨s1, k1, r1⟩ := k.newList hl h2 h3
    exact post _ _ _ s1 k1 r1
  · obtain ⟨v, rfl, rv⟩ := rps1 r
    obtain ⟨a, vs, rfl, h1, h2, h3⟩ := rp_tup_inv rv
    refine ⟨_, _, rfl, .inr (sqT_same k.sub.same h1), fun l hl => ?_⟩
    obtain ⟨s1, k1, r1⟩ := k.newList hl h2 h3
    exact post _ _ _ s1 k1 r1
def dTuple : List D → Option D
  | [.list xs] => some (.tuple xs)
  | [.tuple xs] => some (.tuple xs)
  | _ => none
theorem rd_tuple : RdC K (fun xs H Q => ∃ p ys, xs = [.ref p] ∧ ((SqL K H p ys ∧ ∀ l, H l = none → Q (.ref l) (upd H l (.tup ys))) ∨ (SqT K H p ys ∧ Q (.ref p) H))) dTuple := by
  intro A F H S σ xs ds z Q k r h post
  unfold dTuple at h
  split at h <;> cases h
  · obtain ⟨v, rfl, rv⟩ := rps1 r
    obtain ⟨a, vs, rfl, h1, h2, h3⟩ := rp_list_inv rv
    refine ⟨_, _, rfl, .inl ⟨SqL.of (k.sub.same _ _ h1), fun l hl => ?_⟩⟩
    obtain ⟨s1, k1, r1⟩ := k.newTup hl h2 h3
    exact post _ _ _ s1 k1 r1
  · obtain ⟨v, rfl, rv⟩ := rps1 r
    obtain ⟨a, vs, rfl, h1, h2, h3⟩ := rp_tup_inv rv
    exact ⟨_, _, rfl, .inr ⟨sqT_same k.sub.same h1, post F H _ (Same.refl F) k rv⟩⟩
/-- all items are truths -/
def allBools : List D → Option (List Bool)
  | [] => some []
  | .bool b :: ds => (allBools ds).bind fun bs => some (b :: bs)
  | _ => none
theorem allBools_map : ∀ {ds : List D} {bs : List Bool}, allBools ds = some bs → ds = bs.map .bool
  | [], _, h => by cases h; rfl
  | .bool b :: ds, _, h => by
    obtain ⟨bs, h1, h2⟩ := bind_inv h
    cases h2
    rw [List.map_cons, allBools_map h1]
  | .none :: _, _, h => by simp [allBools] at h
  | .int _ :: _, _, h => by simp [allBools] at h
  | .str _ :: _, _, h => by simp [allBools] at h
  | .list _ :: _, _, h => by simp [allBools] at h
  | .tuple _ :: _, _, h => by simp [allBools] at h
  | .dict _ :: _, _, h => by simp [allBools] at h
theorem rps_bools {F : Hp} : ∀ {vs : List V} {bs : List Bool}, Rps K F vs (bs.map .bool) → vs = bs.map V.bl
  | _, [], h => by cases h; rfl
  | _, b :: bs, h => by
    cases h with
    | cons h1 h2 => rw [rp_bool_inv h1, rps_bools h2]; rfl
def dAll : List D → Option D
  | [.list xs] => (allBools xs).bind fun bs => some (.bool (bs.all id))
  | _ => none
def dAny : List D → Option D
  | [.list xs] => (allBools xs).bind fun bs => some (.bool (bs.any id))
  | _ => none
theorem rd_all : RdC K (rAll K) dAll := by
  intro A F H S σ xs ds z Q k r h post
  unfold dAll at h
  split at h
  · obtain ⟨bs, h1, h2⟩ := bind_inv h
    cases h2
    obtain ⟨v, rfl, rv⟩ := rps1 r
    obtain ⟨a, vs, rfl, g1, g2, g3⟩ := rp_list_inv rv
    rw [allBools_map h1] at g2
    rw [rps_bools g2] at g1
    exact ⟨a, bs, rfl, SqL.of (k.sub.same _ _ g1), post F H _ (Same.refl F) k (.bl _)⟩
  · cases h
end
section
variable {X : Cx} {pos p p2 : Pos} {e : Expr} {es : List Expr} {gs : M (List D)}
theorem e_len (hm : X.mg "len" = none) (ha : GA X [e] gs) (hg : Gl X "len" := by rfl) (he : starEach [e] X.env = (false, eval e X.env) :: starEach [] X.env := by rfl) : GE X (.Call (.Name "len" p) [e] [] pos) (gCall dLen gs) :=
  e_callB call_len rd_len hm PySem.boot_len ha hg (he := he) (hpl := by rfl)
theorem e_intOf (hm : X.mg "int" = none) (ha : GA X [e] gs) (hg : Gl X "int" := by rfl) (he : starEach [e] X.env = (false, eval e X.env) :: starEach [] X.env := by rfl) : GE X (.Call (.Name "int" p) [e] [] pos) (gCall dInt gs) :=
  e_callTy call_int1 rd_int hm (by decide +kernel) ha hg (he := he) (hpl := by rfl)
theorem e_list (hm : X.mg "list" = none) (ha : GA X [e] gs) (hg : Gl X "list" := by rfl) (he : starEach [e] X.env = (false, eval e X.env) :: starEach [] X.env := by rfl) : GE X (.Call (.Name "list" p) [e] [] pos) (gCall dList gs) :=
  e_callTy call_list_of rd_list hm (by decide +kernel) ha hg (he := he) (hpl := by rfl)
theorem e_tuple (hm : X.mg "tuple" = none) (ha : GA X [e] gs) (hg : Gl X "tuple" := by rfl) (he : starEach [e] X.env = (false, eval e X.env) :: starEach [] X.env := by rfl) : GE X (.Call (.Name "tuple" p) [e] [] pos) (gCall dTuple gs) :=
  e_callTy call_tuple_of rd_tuple hm (by decide +kernel) ha hg (he := he) (hpl := by rfl)
theorem e_all (hm : X.mg "all" = none) (ha : GA X [e] gs) (hc : X.calm = true := by rfl) (hg : Gl X "all" := by rfl) (he : starEach [e] X.env = (false, eval e X.env) :: starEach [] X.env := by rfl) : GE X (.Call (.Name "all" p) [e] [] pos) (gCall dAll gs) :=
  e_callB (cr_all hc) rd_all hm (by decide +kernel) ha hg (he := he) (hpl := by rfl)
variable {e2 : Expr}
theorem e_min2 (hm : X.mg "min" = none) (ha : GA X [e, e2] gs) (hc : X.calm = true := by rfl) (hg : Gl X "min" := by rfl) (he : starEach [e, e2] X.env = (false, eval e X.env) :: starEach [e2] X.env := by rfl) (hpl : (backTo pos (starEach [e2] X.env)).any (·.1) = false := by rfl) :
    GE X (.Call (.Name "min" p) [e, e2] [] pos) (gCall dMin2 gs) := e_callB (call_min2 hc) rd_min2 hm (by decide +kernel) ha hg (he := he) (hpl := hpl)
end

/-! ### isinstance -/
def dTy : D → String
  | .none => "NoneType"
  | .bool _ => "bool"
  | .int _ => "int"
  | .str _ => "str"
  | .list _ => "list"
  | .tuple _ => "tuple"
  | .dict _ => "dict"
def isT (T : String) (d : D) : Bool := (dTy d == T) || (T == "int" && dTy d == "bool")
theorem kit_int (d : D) : kitB (dTy d) "int" = some (isT "int" d) := by cases d <;> simp only [dTy, isT] <;> decide +kernel
theorem kit_bool (d : D) : kitB (dTy d) "bool" = some (isT "bool" d) := by cases d <;> simp only [dTy, isT] <;> decide +kernel
theorem kit_str (d : D) : kitB (dTy d) "str" = some (isT "str" d) := by cases d <;> simp only [dTy, isT] <;> decide +kernel
theorem kit_list (d : D) : kitB (dTy d) "list" = some (isT "list" d) := by cases d <;> simp only [dTy, isT] <;> decide +kernel
theorem kit_tuple (d : D) : kitB (dTy d) "tuple" = some (isT "tuple" d) := by cases d <;> simp only [dTy, isT] <;> decide +kernel
theorem rp_ty {K : PySem.W.Frag} {F H : Hp} {v : V} {d : D} (s : Same F H) (r : Rp K F v d) : TyX K H v (.type (dTy d)) := by
  cases r with
  | non => exact .base .non
  | bl b => exact .base (.bl b)
  | int i => exact .base (.int i)
  | str _ => exact .base (.str _)
  | lst h1 _ _ => exact .base (.lst (s _ _ h1))
  | tup h1 _ _ =>
    rcases sqT_same s h1 with (h | ⟨o, h⟩) | ⟨o, its, n, h, hc, _⟩
    · exact .base (.tup h)
    · exact .fTuple h
    · exact .kTuple h hc
  | dct h =>
    rcases h with ⟨es, h⟩ | ⟨es, h⟩
    · exact .base (.dK (s _ _ h))
    · exact .base (.dT (s _ _ h))
section
variable {X : Cx} {pos p p2 p3 p4 : Pos} {e : Expr} {g : M D} {x y : Str} {T U : String}
def gIsi (T : String) (g : M D) : M D := fun S => (g S).bind fun p => some (.bool (isT T p.1), p.2)
def gIsi2 (T U : String) (g : M D) : M D := fun S => (g S).bind fun p => some (.bool (isT T p.1 || isT U p.1), p.2)
theorem e_isi (hm : X.mg "isinstance" = none) (hmx : X.mg x = none) (hv : bootBuiltins x = some (.type T)) (kt : ∀ d, kitB (dTy d) T = some (isT T d)) (ha : GE X e g) (hg : Gl X "isinstance" := by rfl) (hgx : Gl X x := by rfl)
    (hnx : x ≠ "__name__" := by decide) (hdx : (x == ("__debug__" : Str)) = false := by decide)
    (he : starEach [e, .Name x p2] X.env = (false, eval e X.env) :: starEach [.Name x p2] X.env := by rfl) (he2 : starEach [.Name x p2] X.env = (false, eval (.Name x p2) X.env) :: starEach [] X.env := by rfl)
    (hpl : (backTo pos (starEach [.Name x p2] X.env)).any (·.1) = false := by rfl) :
    GE X (.Call (.Name "isinstance" p) [e, .Name x p2] [] pos) (gIsi T g) := by
  obtain ⟨t, pa, ra⟩ := ha.ex
  refine ⟨_, pe_callB call_isi hg hm (by decide +kernel) (pa_cons pa (pa_cons (pe_bltn (v := .ty T) hgx hmx hv rfl hnx hdx) pa_nil he2) he) (by decide) (by decide) he hpl, fun A F H S σ d S' Q k h post => ?_⟩
  obtain ⟨⟨d1, S1⟩, h1, h⟩ := bind_inv h
  cases h
  refine ra A F H S σ d1 _ _ k h1 fun A1 F1 H1 v p1 s1 k1 r1 => ?_
  exact ⟨v, .ty T, _, _, _, rfl, .ty T, rp_ty k1.sub.same r1, kit_ty (kt d1), post A1 F1 H1 _ p1 s1 k1 (.bl _)⟩
theorem e_isi2 {kx} (hm : X.mg "isinstance" = none) (hmx : X.mg x = none) (hv : bootBuiltins x = some (.type T)) (kt : ∀ d, kitB (dTy d) T = some (isT T d)) (hmy : X.mg y = none) (hw : bootBuiltins y = some (.type U)) (ku : ∀ d, kitB (dTy d) U = some (isT U d))
    (ha : GE X e g) (hg : Gl X "isinstance" := by rfl) (hgx : Gl X x := by rfl) (hgy : Gl X y := by rfl)
    (hnx : x ≠ "__name__" := by decide) (hdx : (x == ("__debug__" : Str)) = false := by decide) (hny : y ≠ "__name__" := by decide) (hdy : (y == ("__debug__" : Str)) = false := by decide)
    (he : starEach [e, .Tuple [.Name x p2, .Name y p3] kx p4] X.env = (false, eval e X.env) :: starEach [.Tuple [.Name x p2, .Name y p3] kx p4] X.env := by rfl)
    (he2 : starEach [.Tuple [.Name x p2, .Name y p3] kx p4] X.env = (false, eval (.Tuple [.Name x p2, .Name y p3] kx p4) X.env) :: starEach [] X.env := by rfl)
    (he3 : starEach [.Name x p2, .Name y p3] X.env = (false, eval (.Name x p2) X.env) :: starEach [.Name y p3] X.env := by rfl)
    (he4 : starEach [.Name y p3] X.env = (false, eval (.Name y p3) X.env) :: starEach [] X.env := by rfl)
    (hpl : (backTo pos (starEach [.Tuple [.Name x p2, .Name y p3] kx p4] X.env)).any (·.1) = false := by rfl) :
    GE X (.Call (.Name "isinstance" p) [e, .Tuple [.Name x p2, .Name y p3] kx p4] [] pos) (gIsi2 T U g) := by
  obtain ⟨t, pa, ra⟩ := ha.ex
  refine ⟨_, pe_callB call_isiT hg hm (by decide +kernel) (pa_cons pa (pa_cons (pe_tup (pa_cons (pe_bltn (v := .ty T) hgx hmx hv rfl hnx hdx) (pa_cons (pe_bltn (v := .ty U) hgy hmy hw rfl hny hdy) pa_nil he4) he3)) pa_nil he2) he) (by decide) (by decide) he hpl, fun A F H S σ d S' Q k h post => ?_⟩
  obtain ⟨⟨d1, S1⟩, h1, h⟩ := bind_inv h
  cases h
  refine ra A F H S σ d1 _ _ k h1 fun A1 F1 H1 v p1 s1 k1 r1 => ?_
  refine ⟨by show 2 ≤ sizeLine; decide, fun q hq => ?_⟩
  have k2 := k1.laid (o := .tup [.ty T, .ty U]) hq
  have s2 : Same F1 (upd F1 q (.tup [.ty T, .ty U])) := same_upd (k1.sub.none hq)
  refine ⟨v, q, _, _, _, _, rfl, upd_same, .cons (.ty T) (.cons (.ty U) .nil), rp_ty k2.sub.same (r1.mono s2 _ _), ?_, post A1 _ _ _ p1 (s1.trans s2) k2 (.bl _)⟩
  refine kitAny_cons (kit_ty (kt d1)) (fun e1 => ?_) (fun e1 => by rw [e1]; rfl)
  rw [e1]
  exact kitAny_cons (kit_ty (ku d1)) (fun e2 => by rw [e2]; exact kitAny_nil) (fun e2 => by rw [e2]; rfl)
end

/-! ### the calls of the text's own defs -/
/-- a def that writes nothing that was there: its value by data -/
def spF (K : PySem.W.Frag) (n : Nat) (f : List D → Option D) : Sp := fun vs H Q _ => ∃ ds z, ds.length = n ∧ Rps K H vs ds ∧ f ds = some z ∧ ∀ H' v, Same H H' → Rp K H' v z → Q v H'
theorem spF_len {K : PySem.W.Frag} {n : Nat} {f : List D → Option D} {ps : List Str} (h : ps.length = n) : ∀ vs H Q E, spF K n f vs H Q E → vs.length = ps.length := by
  intro vs H Q E ⟨ds, z, e, r, _⟩
  rw [r.length, e, h]
theorem same_mix {G H G' : Hp} (lost : ∀ b o, H b = some o → G b = none → G' b = none) : Same G' (mixH G H G') := fun b o e => by
  cases q : G b with
  | some u => rw [mix_held q]; exact e
  | none =>
    cases r : H b with
    | none => rw [mix_free r]; exact e
    | some u => rw [lost b u r q] at e; cases e
theorem Ok.mix {K : PySem.W.Frag} {A : List Addr} {F H G' : Hp} {S : Sx} {σ : L2.St} (k : Ok K A F H S σ) (s : Same F G') (lost : ∀ b o, H b = some o → F b = none → G' b = none) : Ok K A G' (mixH F H G') S σ := by
  refine k.grow ⟨same_mix lost, fun b o e n => ?_⟩ s (fun a ha o e => ?_) fun a ha e => ?_
  · cases q : F b with
    | some u => rw [mix_held q, n] at e; cases e
    | none =>
      cases r : H b with
      | none => rw [mix_free r, n] at e; cases e
      | some u => rw [mix_lost q r] at e; cases e; exact k.sub.loose b _ r q
  · cases q : F a with
    | some u =>
      rw [mix_held q]
      have e2 := k.sub.same a u q
      rw [e] at e2; cases e2
      exact s a _ q
    | none => exact mix_lost q e
  · obtain ⟨o, ho⟩ := k.trk a ha
    exact lost a o ho e
def gCallF (n : Nat) (f : List D → Option D) (g : M (List D)) : M D := fun S => (g S).bind fun p => if p.1.length = n then (f p.1).bind fun z => some (z, p.2) else none
section
variable {X : Cx} {pos p p2 : Pos} {x : Str} {e : Expr} {es : List Expr} {gs : M (List D)} {f : List D → Option D} {CX : CXT} {k n : Nat} {fa : Addr} {fd : FuncData} {ps : List Str} {E : XK}
theorem e_call (F : FnOk X.prog X.w X.K X.mg X.base CX k fa fd ps (spF X.K n f)) (hr : Room k X.A) (hm : X.mg x = some (.ref fa)) (hk : PySem.W.keepIn X.K (.ref fa) = true) (hb : L2.Binds X.K fd ps []) (hx : Passes CX X E) (ha : GA X (e :: es) gs)
    (hg : Gl X x := by rfl) (hdb : (x == ("__debug__" : Str)) = false := by decide) (he : starEach (e :: es) X.env = (false, eval e X.env) :: starEach es X.env := by rfl) (hpl : (backTo pos (starEach es X.env)).any (·.1) = false := by rfl) :
    GE X (.Call (.Name x p) (e :: es) [] pos) (gCallF n f gs) := by
  obtain ⟨t, pa, ra⟩ := ha.ex
  refine ⟨_, pe_callF F hr hg hm hk hb .nil hx pa hdb he hpl, fun A F H S σ d S' Q k h post => ?_⟩
  obtain ⟨⟨ds, S1⟩, h1, h⟩ := bind_inv h
  simp only at h
  split at h
  · rename_i hn
    obtain ⟨z, h2, h⟩ := bind_inv h
    cases h
    refine ra A F H S σ ds _ _ k h1 fun A1 F1 H1 vs p1 s1 k1 r1 => ⟨F1, k1.sub, ds, _, hn, by rw [List.append_nil]; exact r1, h2, fun G' v sm rv => ⟨fun b xs q => sm b _ q, fun lost => ?_⟩⟩
    exact post A1 G' _ v p1 (s1.trans sm) (k1.mix sm lost) rv
  · cases h
/-- a def that writes one list that is handed in, the first argument -/
def spIO (K : PySem.W.Frag) (n : Nat) (f : List D → List D → Option (D × List D)) : Sp := fun vs H Q _ => ∃ (a : Addr) (xs : List V) (rest : List V) (F : Hp) (cs ds : List D) (r : D) (cs' : List D), vs = .ref a :: rest ∧ F a = none ∧ H = upd F a (.lst xs) ∧ cs.length ≤ sizeLine ∧
  Rps K F xs cs ∧ Rps K F rest ds ∧ ds.length = n ∧ f cs ds = some (r, cs') ∧ ∀ F' xs' v, Same F F' → F' a = none → Rps K F' xs' cs' → cs'.length ≤ sizeLine → Rp K F' v r → Q v (upd F' a (.lst xs'))
theorem spIO_len {K : PySem.W.Frag} {n : Nat} {f : List D → List D → Option (D × List D)} {ps : List Str} (h : ps.length = n + 1) : ∀ vs H Q E, spIO K n f vs H Q E → vs.length = ps.length := by
  intro vs H Q E ⟨a, xs, rest, F, cs, ds, r, cs', e, _, _, _, _, hr, hn, _⟩
  rw [e, List.length_cons, hr.length, hn, h]
def gIO (i n : Nat) (f : List D → List D → Option (D × List D)) (g : M (List D)) : M D := fun S => match S.sl[i]? with
  | some (some (.own j)) => (g S).bind fun p => match p.2.os[j]? with
    | some (some (.lst cs)) => if p.1.length = n then (f cs p.1).bind fun z => some (z.1, ⟨p.2.sl, p.2.os.set j (some (.lst z.2))⟩) else none
    | _ => none
  | _ => none
theorem prefix_at {α : Type} {A B : List α} {j : Nat} {a : α} (p : A <+: B) (h : A[j]? = some a) : B[j]? = some a := by
  obtain ⟨C, rfl⟩ := p
  rw [List.getElem?_append_left (List.getElem?_eq_some_iff.mp h).1]; exact h
theorem e_callIO {f : List D → List D → Option (D × List D)} {y : Str} {py : Pos} (i : Nat) (F : FnOk X.prog X.w X.K X.mg X.base CX k fa fd ps (spIO X.K n f)) (hr : Room k X.A) (hm : X.mg x = some (.ref fa)) (hk : PySem.W.keepIn X.K (.ref fa) = true) (hb : L2.Binds X.K fd ps []) (hx : Passes CX X E) (ha : GA X es gs)
    (hN : X.N[i]? = some y := by rfl) (hv : Vis X.env.scope y := by first | exact Or.inl rfl | exact Or.inr (Or.inl rfl) | exact Or.inr (Or.inr rfl)) (hdy : (y == ("__debug__" : Str)) = false := by decide) (hcd : (y == ("__classdict__" : Str)) = false := by decide)
    (hg : Gl X x := by rfl) (hdb : (x == ("__debug__" : Str)) = false := by decide) (he : starEach (.Name y py :: es) X.env = (false, eval (.Name y py) X.env) :: starEach es X.env := by rfl) (hpl : (backTo pos (starEach es X.env)).any (·.1) = false := by rfl) :
    GE X (.Call (.Name x p) (.Name y py :: es) [] pos) (gIO i n f gs) := by
  obtain ⟨t, pa, ra⟩ := ha.ex
  refine ⟨_, pe_callF F hr hg hm hk hb .nil hx (pa_cons (pe_var hN hv hdy hcd) pa he) hdb he hpl, fun A F H S σ d S' Q k h post => ?_⟩
  unfold gIO at h
  split at h
  · rename_i j ej
    obtain ⟨⟨ds, S1⟩, h1, h⟩ := bind_inv h
    simp only at h
    split at h
    · rename_i cs ec
      split at h
      · rename_i hn
        obtain ⟨⟨r, cs'⟩, h2, h⟩ := bind_inv h
        cases h
        obtain ⟨a, ea, ev⟩ := k.oslot i j ej
        refine ⟨_, ev, ra A F H S σ ds S1 _ k h1 fun A1 F1 H1 vs p1 s1 k1 r1 => ?_⟩
        obtain ⟨a', ea', fa', xs, hxs, rxs, hz⟩ := k1.cell j _ ec
        rw [prefix_at p1 ea] at ea'; cases ea'
        have sub1 : Sub (upd F1 a (.lst xs)) H1 := ⟨fun b u q => by
            by_cases hb : b = a
            · subst hb; rw [upd_same] at q; cases q; exact hxs
            · rw [upd_ne hb] at q; exact k1.sub.same b u q, fun b u q n => by
            by_cases hb : b = a
            · subst hb; rw [upd_same] at n; cases n
            · rw [upd_ne hb] at n; exact k1.sub.loose b u q n⟩
        refine ⟨upd F1 a (.lst xs), sub1, a, xs, vs, F1, cs, ds, r, cs', by rw [List.append_nil], fa', rfl, hz, rxs, r1, hn, h2, fun F' xs' v sm fa2 rx hz' rv => ⟨fun b ys q => ?_, fun lost => ?_⟩⟩
        · by_cases hb : b = a
          · subst hb; rw [upd_same] at q; cases q
          · rw [upd_ne hb] at q ⊢; exact sm b _ q
        · have lostF : ∀ b o, b ≠ a → H1 b = some o → F1 b = none → F' b = none := fun b o hb ho hf => by
            have := lost b o ho (by rw [upd_ne hb]; exact hf)
            rwa [upd_ne hb] at this
          have ma : mixH (upd F1 a (.lst xs)) H1 (upd F' a (.lst xs')) a = some (.lst xs') := by rw [mix_held upd_same, upd_same]
          have mb : ∀ b, b ≠ a → mixH (upd F1 a (.lst xs)) H1 (upd F' a (.lst xs')) b = mixH F1 H1 F' b := fun b hb => by
            unfold mixH
            rw [upd_ne hb, upd_ne hb]
          have km : Ok X.K A1 F' (upd (mixH F1 H1 F') a (.lst xs')) ⟨S1.sl, S1.os.set j (some (.lst cs'))⟩ σ := by
            have e1 : Ok X.K A1 F' (mixH F1 H1 F') S1 σ := by
              refine k1.mix sm fun b o ho hf => ?_
              by_cases hb : b = a
              · subst hb; exact fa2
              · exact lostF b o hb ho hf
            exact e1.cellSet ec (prefix_at p1 ea) trivial ⟨xs', upd_same, rx, hz'⟩
          have em : mixH (upd F1 a (.lst xs)) H1 (upd F' a (.lst xs')) = upd (mixH F1 H1 F') a (.lst xs') := by
            funext b
            by_cases hb : b = a
            · subst hb; rw [ma, upd_same]
            · rw [mb b hb, upd_ne hb]
          rw [em]
          exact post A1 F' _ v p1 (s1.trans sm) km rv
      · cases h
    · cases h
  · cases h
end
end Fu

set_option maxHeartbeats 4000000
namespace Fu
open PySem PySem.Spec PyProof.Rows L2 RZ

/-! ### what is walked -/
/-- J yields the data ds, one by one, wherever F stands -/
structure Walk (K : PySem.W.Frag) (F : Hp) (J : It) (ds : List D) : Prop where
  stop : ∀ i H, Same F H → ds.length ≤ i → J.stop i H
  go : ∀ i H, Same F H → i < ds.length → J.go i H
  yld : ∀ (i : Nat) d H x H', Same F H → ds[i]? = some d → J.yld i H x H' → (H' = H ∧ Rp K F x d) ∨ ∃ T vs es, x = .ref T ∧ H T = none ∧ H' = upd H T (.tup vs) ∧ d = .tuple es ∧ Rps K F vs es ∧ es.length ≤ sizeLine
def RdI (K : PySem.W.Frag) (t : TI) (g : M (List D)) : Prop := ∀ A F H S σ ds S' (R : It → Hp → Prop), Ok K A F H S σ → g S = some (ds, S') →
  (∀ A' F' H' J, A <+: A' → Same F F' → Ok K A' F' H' S' σ → Walk K F' J ds → ds.length ≤ sizeLine → R J H') → t σ H R
structure GI (X : Cx) (tg iter : Expr) (g : M (List D)) : Prop where
  ex : ∃ t, PI X tg iter t ∧ RdI X.K t g
/-- .. of numbers alone: they stand in any heap -/
structure GI0 (X : Cx) (tg iter : Expr) (g : M (List D)) : Prop where
  ex : ∃ t, PI X tg iter t ∧ ∀ A F H S σ ds S' (R : It → Hp → Prop), Ok X.K A F H S σ → g S = some (ds, S') →
    (∀ A' F' H' J, A <+: A' → Same F F' → Ok X.K A' F' H' S' σ → Walk X.K (fun _ => none) J ds → R J H') → t σ H R
theorem PI.or {X : Cx} {tg iter : Expr} {t u : TI} (h1 : PI X tg iter t) (h2 : PI X tg iter u) : PI X tg iter (fun σ H R => t σ H R ∨ u σ H R) :=
  ⟨fun pins s σ H R I h => h.elim (h1.run pins s σ H R I) (h2.run pins s σ H R I)⟩
section
variable {K : PySem.W.Frag} {F : Hp}
theorem walk_list {a : Addr} {vs : List V} {ds : List D} (h : F a = some (.lst vs)) (r : Rps K F vs ds) : Walk K F (Itl K a) ds where
  stop := fun i H s hi => ⟨vs, SqL.of (s _ _ h), by rw [r.length]; exact hi⟩
  go := fun i H s hi => by
    obtain ⟨v, e, _⟩ := r.get (List.getElem?_eq_getElem hi)
    exact ⟨vs, v, SqL.of (s _ _ h), e⟩
  yld := fun i d H x H' s hd y => by
    obtain ⟨e, y⟩ := y
    obtain ⟨v, ev, rv⟩ := r.get hd
    have := y vs (SqL.of (s _ _ h))
    rw [ev] at this; cases this
    exact .inl ⟨e, rv⟩
theorem walk_tup {a : Addr} {vs : List V} {ds : List D} (h : SqT K F a vs) (r : Rps K F vs ds) : Walk K F (Itt K a) ds where
  stop := fun i H s hi => ⟨vs, sqT_same s h, by rw [r.length]; exact hi⟩
  go := fun i H s hi => by
    obtain ⟨v, e, _⟩ := r.get (List.getElem?_eq_getElem hi)
    exact ⟨vs, v, sqT_same s h, e⟩
  yld := fun i d H x H' s hd y => by
    obtain ⟨e, y⟩ := y
    obtain ⟨v, ev, rv⟩ := r.get hd
    have := y vs (sqT_same s h)
    rw [ev] at this; cases this
    exact .inl ⟨e, rv⟩
def chars (x : Str) : List D := x.cps.toList.map fun c => .str ⟨#[c]⟩
theorem walk_str (x : Str) : Walk K F (Its x) (chars x) where
  stop := fun i H s hi => by
    have : x.cps.size ≤ i := by simpa [chars] using hi
    exact this
  go := fun i H s hi => by
    have : i < x.cps.size := by simpa [chars] using hi
    exact this
  yld := fun i d H v H' s hd y => by
    obtain ⟨e, c, hc, rfl⟩ := y
    have h2 : x.cps.toList[i]? = some c := by rw [Array.getElem?_toList]; exact hc
    unfold chars at hd
    rw [List.getElem?_map, h2] at hd
    cases hd
    exact .inl ⟨e, .str (one_len c)⟩
def rng (lo : Int) (n : Nat) : List D := (List.range n).map fun i : Nat => .int (lo + (i : Int))
theorem walk_range (lo : Int) (n : Nat) : Walk K F (Itr lo n) (rng lo n) where
  stop := fun i H s hi => by
    have : n ≤ i := by simpa [rng] using hi
    exact this
  go := fun i H s hi => by
    have : i < n := by simpa [rng] using hi
    exact this
  yld := fun i d H v H' s hd y => by
    obtain ⟨e, rfl⟩ := y
    unfold rng at hd
    rw [List.getElem?_map] at hd
    obtain ⟨j, hj, rfl⟩ := Option.map_eq_some_iff.mp hd
    rw [List.getElem?_range (by
      have := (List.getElem?_eq_some_iff.mp hj).1
      simpa using this)] at hj
    cases hj
    exact .inl ⟨e, .int _⟩
def zipD : List D → List D → List D
  | x :: xs, y :: ys => .tuple [x, y] :: zipD xs ys
  | _, _ => []
theorem zipD_eq : ∀ xs ys : List D, zipD xs ys = (xs.zip ys).map fun p => .tuple [p.1, p.2]
  | x :: xs, y :: ys => by rw [zipD, zipD_eq xs ys]; rfl
  | [], _ => by simp [zipD]
  | _ :: _, [] => by simp [zipD]
theorem walk_zip {a b : Addr} {vs us : List V} {xs ys : List D} (h : F a = some (.lst vs)) (g : F b = some (.lst us)) (r : Rps K F vs xs) (q : Rps K F us ys) : Walk K F (Itz K a b) (zipD xs ys) where
  stop := fun i H s hi => by
    refine ⟨vs, us, SqL.of (s _ _ h), SqL.of (s _ _ g), ?_⟩
    rw [zipD_eq, List.length_map, List.length_zip] at hi
    rw [r.length, q.length]
    omega
  go := fun i H s hi => by
    rw [zipD_eq, List.length_map, List.length_zip] at hi
    obtain ⟨v, e, _⟩ := r.get (List.getElem?_eq_getElem (show i < xs.length by omega))
    obtain ⟨u, e2, _⟩ := q.get (List.getElem?_eq_getElem (show i < ys.length by omega))
    exact ⟨vs, us, v, u, SqL.of (s _ _ h), SqL.of (s _ _ g), e, e2⟩
  yld := fun i d H x H' s hd y => by
    obtain ⟨T, v, u, rfl, hT, rfl, e1, e2⟩ := y
    rw [zipD_eq, List.getElem?_map] at hd
    obtain ⟨⟨d1, d2⟩, hz, rfl⟩ := Option.map_eq_some_iff.mp hd
    rw [List.getElem?_zip_eq_some] at hz
    obtain ⟨v', g1, r1⟩ := r.get hz.1
    obtain ⟨u', g2, r2⟩ := q.get hz.2
    have f1 := e1 vs (SqL.of (s _ _ h))
    have f2 := e2 us (SqL.of (s _ _ g))
    rw [g1] at f1; cases f1
    rw [g2] at f2; cases f2
    exact .inr ⟨T, _, _, rfl, hT, rfl, rfl, .cons r1 (.cons r2 .nil), by show 2 ≤ sizeLine; decide⟩
end
def itemsOf : D → Option (List D)
  | .list xs => some xs
  | .tuple xs => some xs
  | .str x => some (chars x)
  | _ => none
/-- the items of a list, a tuple, a text -/
def gItems (g : M D) : M (List D) := fun S => (g S).bind fun p => (itemsOf p.1).bind fun xs => some (xs, p.2)
section
variable {X : Cx} {tg e e2 e3 : Expr} {ge ge2 : M D} {pos p p2 : Pos} {gs : M (List D)}
theorem chars_len {x : Str} (h : x.length ≤ sizeLine) : (chars x).length ≤ sizeLine := by
  unfold chars
  rw [List.length_map, Array.length_toList]
  exact h
theorem i_any (h : GE X e ge) : GI X tg e (gItems ge) := by
  obtain ⟨t, pe, re⟩ := h.ex
  refine ⟨_, PI.or (pi_list pe) (PI.or (pi_tup pe) (pi_str pe)), fun A F H S σ ds S' R k e post => ?_⟩
  obtain ⟨⟨d, S1⟩, h1, e⟩ := bind_inv e
  obtain ⟨xs, h2, e⟩ := bind_inv e
  cases e
  cases d <;> simp only [itemsOf] at h2 <;> cases h2
  · refine .inr (.inr (re A F H S σ _ _ _ k h1 fun A1 F1 H1 v p1 s1 k1 r1 => ?_))
    obtain ⟨rfl, hz⟩ := rp_str_inv r1
    exact ⟨_, rfl, post A1 F1 H1 _ p1 s1 k1 (walk_str _) (chars_len hz)⟩
  · refine .inl (re A F H S σ _ _ _ k h1 fun A1 F1 H1 v p1 s1 k1 r1 => ?_)
    obtain ⟨a, vs, rfl, g1, g2, g3⟩ := rp_list_inv r1
    exact ⟨a, rfl, ⟨vs, SqL.of (k1.sub.same _ _ g1)⟩, post A1 F1 H1 _ p1 s1 k1 (walk_list g1 g2) g3⟩
  · refine .inr (.inl (re A F H S σ _ _ _ k h1 fun A1 F1 H1 v p1 s1 k1 r1 => ?_))
    obtain ⟨a, vs, rfl, g1, g2, g3⟩ := rp_tup_inv r1
    exact ⟨a, rfl, ⟨vs, sqT_same k1.sub.same g1⟩, post A1 F1 H1 _ p1 s1 k1 (walk_tup g1 g2) g3⟩
/-- range(n), range(a, b) -/
def gRng1 (g : M (List D)) : M (List D) := fun S => (g S).bind fun p => match p.1 with
  | [.int j] => if -(2 ^ 62) ≤ j ∧ j ≤ sizeLine then some (rng 0 j.toNat, p.2) else none
  | _ => none
def gRng2 (g : M (List D)) : M (List D) := fun S => (g S).bind fun p => match p.1 with
  | [.int i, .int j] => if -(2 ^ 32) ≤ i ∧ i ≤ 2 ^ 32 ∧ -(2 ^ 32) ≤ j ∧ j ≤ 2 ^ 32 ∧ j - i ≤ sizeLine then some (rng i (j - i).toNat, p.2) else none
  | _ => none
theorem rng_len (lo : Int) (n : Nat) : (rng lo n).length = n := by simp [rng]
theorem rps_int1 {K : PySem.W.Frag} {F : Hp} {vs : List V} {i : Int} (r : Rps K F vs [.int i]) : vs = [.int i] := by
  obtain ⟨v, rfl, q⟩ := rps1 r
  cases rp_int_inv q; rfl
theorem rps_int2 {K : PySem.W.Frag} {F : Hp} {vs : List V} {i j : Int} (r : Rps K F vs [.int i, .int j]) : vs = [.int i, .int j] := by
  obtain ⟨v, u, rfl, q, q2⟩ := rps2 r
  cases rp_int_inv q; cases rp_int_inv q2; rfl
theorem line_int : (sizeLine : Int) < 2 ^ 32 := by rw [sizeLine_eq]; decide
theorem rd_rng1 {K : PySem.W.Frag} {ta : TA} (ra : RdA K ta gs) : ∀ A F H S σ ds S' (R : It → Hp → Prop), Ok K A F H S σ → gRng1 gs S = some (ds, S') →
    (∀ A' F' H' J, A <+: A' → Same F F' → Ok K A' F' H' S' σ → (∀ G, Walk K G J ds) → ds.length ≤ sizeLine → R J H') → iRng1 ta σ H R := by
  intro A F H S σ ds S' R k e post
  obtain ⟨⟨xs, S1⟩, h1, e⟩ := bind_inv e
  simp only at e
  split at e
  · split at e
    · rename_i j hj
      cases e
      refine ra A F H S σ _ _ _ k h1 fun A1 F1 H1 vs p1 s1 k1 r1 => ?_
      have hl := line_int
      exact ⟨j, rps_int1 r1, hj.1, by omega, post A1 F1 H1 _ p1 s1 k1 (fun G => walk_range 0 _) (by rw [rng_len]; omega)⟩
    · cases e
  · cases e
theorem rd_rng2 {K : PySem.W.Frag} {ta : TA} (ra : RdA K ta gs) : ∀ A F H S σ ds S' (R : It → Hp → Prop), Ok K A F H S σ → gRng2 gs S = some (ds, S') →
    (∀ A' F' H' J, A <+: A' → Same F F' → Ok K A' F' H' S' σ → (∀ G, Walk K G J ds) → ds.length ≤ sizeLine → R J H') → iRng2 ta σ H R := by
  intro A F H S σ ds S' R k e post
  obtain ⟨⟨xs, S1⟩, h1, e⟩ := bind_inv e
  simp only at e
  split at e
  · split at e
    · rename_i i j hj
      cases e
      refine ra A F H S σ _ _ _ k h1 fun A1 F1 H1 vs p1 s1 k1 r1 => ?_
      have hl := line_int
      exact ⟨i, j, rps_int2 r1, by omega, post A1 F1 H1 _ p1 s1 k1 (fun G => walk_range i _) (by rw [rng_len]; omega)⟩
    · cases e
  · cases e
theorem i_range1 (hm : X.mg "range" = none) (ha : GA X [e] gs) (hg : Gl X "range" := by rfl) (hs : starEach [e] X.env = [(false, eval e X.env)] := by rfl) : GI X tg (.Call (.Name "range" p) [e] [] pos) (gRng1 gs) := by
  obtain ⟨t, pa, ra⟩ := ha.ex
  exact ⟨_, pi_range1 hg hm pa hs, fun A F H S σ ds S' R k e post => rd_rng1 ra A F H S σ ds S' R k e fun A1 F1 H1 J p1 s1 k1 w hz => post A1 F1 H1 J p1 s1 k1 (w _) hz⟩
theorem i0_range1 (hm : X.mg "range" = none) (ha : GA X [e] gs) (hg : Gl X "range" := by rfl) (hs : starEach [e] X.env = [(false, eval e X.env)] := by rfl) : GI0 X tg (.Call (.Name "range" p) [e] [] pos) (gRng1 gs) := by
  obtain ⟨t, pa, ra⟩ := ha.ex
  exact ⟨_, pi_range1 hg hm pa hs, fun A F H S σ ds S' R k e post => rd_rng1 ra A F H S σ ds S' R k e fun A1 F1 H1 J p1 s1 k1 w hz => post A1 F1 H1 J p1 s1 k1 (w _)⟩
theorem i_range2 (hm : X.mg "range" = none) (ha : GA X [e, e2] gs) (hg : Gl X "range" := by rfl) (hs : starEach [e, e2] X.env = [(false, eval e X.env), (false, eval e2 X.env)] := by rfl) (hs2 : starEach [e2] X.env = [(false, eval e2 X.env)] := by rfl) : GI X tg (.Call (.Name "range" p) [e, e2] [] pos) (gRng2 gs) := by
  obtain ⟨t, pa, ra⟩ := ha.ex
  exact ⟨_, pi_range2 hg hm pa hs hs2, fun A F H S σ ds S' R k e post => rd_rng2 ra A F H S σ ds S' R k e fun A1 F1 H1 J p1 s1 k1 w hz => post A1 F1 H1 J p1 s1 k1 (w _) hz⟩
/-- zip(xs, ys): both lists or both tuples -/
def gZip (g : M (List D)) : M (List D) := fun S => (g S).bind fun p => match p.1 with
  | [.list xs, .list ys] => some (zipD xs ys, p.2)
  | [.tuple xs, .tuple ys] => some (zipD xs ys, p.2)
  | _ => none
theorem zipD_len (xs ys : List D) : (zipD xs ys).length ≤ xs.length := by
  rw [zipD_eq, List.length_map, List.length_zip]
  omega
theorem walk_zipT {K : PySem.W.Frag} {F : Hp} {a b : Addr} {vs us : List V} {xs ys : List D} (h : SqT K F a vs) (g : SqT K F b us) (r : Rps K F vs xs) (q : Rps K F us ys) : Walk K F (ItzT K a b) (zipD xs ys) where
  stop := fun i H s hi => by
    refine ⟨vs, us, sqT_same s h, sqT_same s g, ?_⟩
    rw [zipD_eq, List.length_map, List.length_zip] at hi
    rw [r.length, q.length]
    omega
  go := fun i H s hi => by
    rw [zipD_eq, List.length_map, List.length_zip] at hi
    obtain ⟨v, e, _⟩ := r.get (List.getElem?_eq_getElem (show i < xs.length by omega))
    obtain ⟨u, e2, _⟩ := q.get (List.getElem?_eq_getElem (show i < ys.length by omega))
    exact ⟨vs, us, v, u, sqT_same s h, sqT_same s g, e, e2⟩
  yld := fun i d H x H' s hd y => by
    obtain ⟨T, v, u, rfl, hT, rfl, e1, e2⟩ := y
    rw [zipD_eq, List.getElem?_map] at hd
    obtain ⟨⟨d1, d2⟩, hz, rfl⟩ := Option.map_eq_some_iff.mp hd
    rw [List.getElem?_zip_eq_some] at hz
    obtain ⟨v', g1, r1⟩ := r.get hz.1
    obtain ⟨u', g2, r2⟩ := q.get hz.2
    have f1 := e1 vs (sqT_same s h)
    have f2 := e2 us (sqT_same s g)
    rw [g1] at f1; cases f1
    rw [g2] at f2; cases f2
    exact .inr ⟨T, _, _, rfl, hT, rfl, rfl, .cons r1 (.cons r2 .nil), by show 2 ≤ sizeLine; decide⟩
theorem i_zip {elts : List Expr} {kk : Nat} {tpos : Pos} (hm : X.mg "zip" = none) (ha : GA X [e, e2] gs) (hg : Gl X "zip" := by rfl) (hs : starEach [e, e2] X.env = (false, eval e X.env) :: starEach [e2] X.env := by rfl) (hpl : (backTo pos (starEach [e2] X.env)).any (·.1) = false := by rfl) :
    GI X (.Tuple elts kk tpos) (.Call (.Name "zip" p) [e, e2] [] pos) (gZip gs) := by
  obtain ⟨t, pa, ra⟩ := ha.ex
  refine ⟨_, pi_zipA hg hm pa hs hpl, fun A F H S σ ds S' R k e post => ?_⟩
  obtain ⟨⟨xs, S1⟩, h1, e⟩ := bind_inv e
  simp only at e
  split at e
  · cases e
    refine ra A F H S σ _ _ _ k h1 fun A1 F1 H1 vs p1 s1 k1 r1 => ?_
    obtain ⟨v, u, rfl, q1, q2⟩ := rps2 r1
    obtain ⟨a, ws, rfl, g1, g2, g3⟩ := rp_list_inv q1
    obtain ⟨b, us, rfl, f1, f2, f3⟩ := rp_list_inv q2
    exact ⟨a, b, ws, us, rfl, .inl ⟨SqL.of (k1.sub.same _ _ g1), SqL.of (k1.sub.same _ _ f1), post A1 F1 H1 _ p1 s1 k1 (walk_zip g1 f1 g2 f2) (Nat.le_trans (zipD_len _ _) g3)⟩⟩
  · cases e
    refine ra A F H S σ _ _ _ k h1 fun A1 F1 H1 vs p1 s1 k1 r1 => ?_
    obtain ⟨v, u, rfl, q1, q2⟩ := rps2 r1
    obtain ⟨a, ws, rfl, g1, g2, g3⟩ := rp_tup_inv q1
    obtain ⟨b, us, rfl, f1, f2, f3⟩ := rp_tup_inv q2
    exact ⟨a, b, ws, us, rfl, .inr ⟨sqT_same k1.sub.same g1, sqT_same k1.sub.same f1, post A1 F1 H1 _ p1 s1 k1 (walk_zipT g1 f1 g2 f2) (Nat.le_trans (zipD_len _ _) g3)⟩⟩
  · cases e
end

/-! ### targets: names, tuples of them -/
def RdG (K : PySem.W.Frag) (tgt : List Nat) (t : TG) (g : D → Sx → Option Sx) : Prop := ∀ A F H S σ v d S' (Q : L2.St → Hp → Prop), Ok K A F H S σ → Rp K F v d → g d S = some S' →
  (∀ A' F' H' σ', A <+: A' → Same F F' → Ok K A' F' H' S' σ' → (∀ vs, (∀ i ∈ tgt, i ∈ vs) → wipe σ' vs = wipe σ vs) → Q σ' H') → t v σ H Q
def RdGs (K : PySem.W.Frag) (tgt : List Nat) (t : TGs) (g : List D → Sx → Option Sx) : Prop := ∀ A F H S σ vs ds S' (Q : L2.St → Hp → Prop), Ok K A F H S σ → Rps K F vs ds → g ds S = some S' →
  (∀ A' F' H' σ', A <+: A' → Same F F' → Ok K A' F' H' S' σ' → (∀ vs, (∀ i ∈ tgt, i ∈ vs) → wipe σ' vs = wipe σ vs) → Q σ' H') → t vs σ H Q
structure GG (X : Cx) (tgt : List Nat) (e : Expr) (g : D → Sx → Option Sx) : Prop where
  ex : ∃ t, PG X e t ∧ RdG X.K tgt t g
structure GGs (X : Cx) (tgt : List Nat) (es : List Expr) (g : List D → Sx → Option Sx) : Prop where
  ex : ∃ t, PGs X es t ∧ RdGs X.K tgt t g
def sName (i : Nat) : D → Sx → Option Sx := fun d S => some ⟨S.sl.set i (some (.dat d)), S.os⟩
def sNil : List D → Sx → Option Sx := fun ds S => match ds with
  | [] => some S
  | _ => none
def sCons (g : D → Sx → Option Sx) (gs : List D → Sx → Option Sx) : List D → Sx → Option Sx := fun ds S => match ds with
  | d :: ds => (g d S).bind fun S1 => gs ds S1
  | [] => none
def sTup (n : Nat) (gs : List D → Sx → Option Sx) : D → Sx → Option Sx := fun d S => match d with
  | .tuple ds => if ds.length = n then gs ds S else none
  | _ => none
theorem wipe_set {σ : L2.St} {i : Nat} {x : Option V} : ∀ {vs : List Nat}, i ∈ vs → wipe (σ.set i x) vs = wipe σ vs
  | v :: vs, h => by
    unfold wipe
    by_cases hv : i = v
    · subst hv
      by_cases hm : i ∈ vs
      · rw [wipe_set hm]
      · have comm : ∀ ws : List Nat, i ∉ ws → wipe (σ.set i x) ws = (wipe σ ws).set i x := by
          intro ws
          induction ws with
          | nil => intro _; rfl
          | cons w ws ih =>
            intro hn
            simp only [List.mem_cons, not_or] at hn
            unfold wipe
            rw [ih hn.2, List.set_comm _ _ hn.1]
        rw [comm vs hm, List.set_set]
    · rcases List.mem_cons.mp h with e | h
      · exact absurd e hv
      · rw [wipe_set h]
section
variable {X : Cx} {pos : Pos} {e : Expr} {es : List Expr} {n : Nat} {tg ts : List Nat} {g : D → Sx → Option Sx} {gs : List D → Sx → Option Sx}
theorem g_name (i : Nat) {x : Str} (hN : X.N.Nodup) (hx : Loc X.env.scope x := by first | exact Or.inl rfl | exact Or.inr rfl) (hi : X.N[i]? = some x := by rfl) (hf : X.fn x = true ∨ X.env.scope.names.lookup x = some .local := by first | exact .inl rfl | exact .inr rfl | assumption) : GG X [i] (.Name x pos) (sName i) :=
  ⟨_, pg_name hN hi hx hf, fun A F H S σ v d S' Q k r e post => by
    cases e
    exact post A F H _ (List.prefix_refl _) (Same.refl F) (k.setDat r) fun vs h => wipe_set (h i (by simp))⟩
theorem gs_nil : GGs X [] [] sNil := ⟨_, pgs_nil, fun A F H S σ vs ds S' Q k r e post => by
  cases ds with
  | cons _ _ => cases e
  | nil => cases e; cases r; exact ⟨rfl, post A F H σ (List.prefix_refl _) (Same.refl F) k fun _ _ => rfl⟩⟩
theorem gs_cons (h1 : GG X tg e g) (h2 : GGs X ts es gs) (hs : (assignEach (e :: es) X.env).map (·.2) = assign e X.env :: (assignEach es X.env).map (·.2) := by rfl) : GGs X (tg ++ ts) (e :: es) (sCons g gs) := by
  obtain ⟨t, p1, r1⟩ := h1.ex
  obtain ⟨u, p2, r2⟩ := h2.ex
  refine ⟨_, pgs_cons p1 p2 hs, fun A F H S σ vs ds S' Q k r e post => ?_⟩
  cases ds with
  | nil => cases e
  | cons d ds =>
    cases r with
    | cons ra rb =>
      obtain ⟨S1, e1, e⟩ := bind_inv e
      refine ⟨_, _, rfl, r1 A F H S σ _ d S1 _ k ra e1 fun A1 F1 H1 σ1 q1 s1 k1 w1 => r2 A1 F1 H1 S1 σ1 _ ds S' Q k1 (Rps.mono s1 _ _ rb) e fun A2 F2 H2 σ2 q2 s2 k2 w2 => ?_⟩
      exact post A2 F2 H2 σ2 (q1.trans q2) (s1.trans s2) k2 fun vs h => (w2 vs fun i hi => h i (List.mem_append_right _ hi)).trans (w1 vs fun i hi => h i (List.mem_append_left _ hi))
theorem g_tup {k} (h : GGs X ts es gs) (hc : X.calm = true := by rfl) (hn : (assignEach es X.env).length = n := by rfl) (hst : (assignEach es X.env).findIdx? (·.1) = none := by rfl) : GG X ts (.Tuple es k pos) (sTup n gs) := by
  obtain ⟨t, p1, r1⟩ := h.ex
  refine ⟨_, pg_tup hc p1 hn hst, fun A F H S σ v d S' Q k r e post => ?_⟩
  cases d <;> simp only [sTup] at e <;> try cases e
  split at e
  · rename_i hl
    obtain ⟨a, vs, rfl, g1, g2, g3⟩ := rp_tup_inv r
    exact ⟨a, vs, rfl, sqT_same k.sub.same g1, by rw [g2.length]; exact hl, r1 A F H S σ vs _ S' Q k g2 e post⟩
  · cases e
end
end Fu

set_option maxHeartbeats 4000000
namespace Fu
open PySem PySem.Spec PyProof.Rows L2 RZ

/-! ### slots of a comprehension's own names -/
def wipeS (sl : List (Option R)) : List Nat → List (Option R)
  | [] => sl
  | v :: vs => (wipeS sl vs).set v none
def backS (old new : List (Option R)) : List Nat → List (Option R)
  | [] => new
  | v :: vs => match old[v]? with
    | some x => (backS old new vs).set v x
    | none => backS old new vs
theorem wipeS_len (sl : List (Option R)) : ∀ vs, (wipeS sl vs).length = sl.length
  | [] => rfl
  | v :: vs => by unfold wipeS; rw [List.length_set, wipeS_len sl vs]
theorem backS_len (old new : List (Option R)) : ∀ vs, (backS old new vs).length = new.length
  | [] => rfl
  | v :: vs => by
    unfold backS
    split
    · rw [List.length_set, backS_len old new vs]
    · exact backS_len old new vs
theorem wipeS_in {sl : List (Option R)} {i : Nat} {r : R} : ∀ {vs : List Nat}, (wipeS sl vs)[i]? = some (some r) → sl[i]? = some (some r) ∧ i ∉ vs
  | [], h => ⟨h, by simp⟩
  | v :: vs, h => by
    unfold wipeS at h
    by_cases hi : v = i
    · subst hi
      by_cases hv : v < (wipeS sl vs).length
      · rw [List.getElem?_set_self hv] at h; cases h
      · rw [List.getElem?_eq_none (by simpa using hv)] at h; cases h
    · rw [List.getElem?_set_ne hi] at h
      obtain ⟨h1, h2⟩ := wipeS_in h
      exact ⟨h1, by simp only [List.mem_cons, not_or]; exact ⟨fun e => hi e.symm, h2⟩⟩
theorem wipeS_out {sl : List (Option R)} {i : Nat} : ∀ {vs : List Nat}, i ∉ vs → (wipeS sl vs)[i]? = sl[i]?
  | [], _ => rfl
  | v :: vs, h => by
    simp only [List.mem_cons, not_or] at h
    unfold wipeS
    rw [List.getElem?_set_ne (Ne.symm h.1), wipeS_out h.2]
theorem wipe_outV {σ : L2.St} {i : Nat} : ∀ {vs : List Nat}, i ∉ vs → (wipe σ vs)[i]? = σ[i]?
  | [], _ => rfl
  | v :: vs, h => by
    simp only [List.mem_cons, not_or] at h
    unfold wipe
    rw [List.getElem?_set_ne (Ne.symm h.1), wipe_outV h.2]
theorem backS_in {old new : List (Option R)} {i : Nat} : ∀ {vs : List Nat}, old.length = new.length → (backS old new vs)[i]? = if i ∈ vs then old[i]? else new[i]?
  | [], _ => by simp [backS]
  | v :: vs, h => by
    have ih := backS_in (i := i) (vs := vs) h
    unfold backS
    by_cases hv : v = i
    · subst hv
      simp only [List.mem_cons, true_or, if_true]
      cases e : old[v]? with
      | none =>
        show (backS old new vs)[v]? = none
        rw [ih]
        have hl : new[v]? = none := List.getElem?_eq_none (by rw [← h]; exact List.getElem?_eq_none_iff.mp e)
        split
        · exact e
        · exact hl
      | some x =>
        show ((backS old new vs).set v x)[v]? = some x
        rw [List.getElem?_set_self]
        rw [backS_len, ← h]
        exact (List.getElem?_eq_some_iff.mp e).1
    · have e2 : (match old[v]? with | some x => (backS old new vs).set v x | none => backS old new vs)[i]? = (backS old new vs)[i]? := by
        split
        · rw [List.getElem?_set_ne hv]
        · rfl
      rw [e2, ih]
      have : (i ∈ v :: vs) ↔ i ∈ vs := by
        simp only [List.mem_cons]
        exact ⟨fun z => z.elim (fun e => absurd e.symm hv) id, .inr⟩
      by_cases hm : i ∈ vs
      · rw [if_pos hm, if_pos (this.mpr hm)]
      · rw [if_neg hm, if_neg (fun z => hm (this.mp z))]
section
variable {K : PySem.W.Frag} {A A' : List Addr} {F F' G H : Hp} {S S' : Sx} {σ τ : L2.St}
theorem Ok.wipe {vs : List Nat} (k : Ok K A F H S τ) (e : L2.wipe τ vs = L2.wipe σ vs) : Ok K A F H ⟨wipeS S.sl vs, S.os⟩ (L2.wipe σ vs) := by
  refine ⟨k.sub, by rw [wipeS_len, k.len, ← e, wipe_length], k.alen, k.nd, fun i r h => ?_, k.cell, k.trk⟩
  obtain ⟨h1, h2⟩ := wipeS_in h
  obtain ⟨v, e1, q⟩ := k.rslot i r h1
  exact ⟨v, by rw [← e, wipe_outV h2]; exact e1, q⟩
theorem Ok.back {vs : List Nat} (k0 : Ok K A F H S σ) (k : Ok K A' F' G ⟨wipeS S'.sl vs, S'.os⟩ (L2.wipe σ vs)) (p : A <+: A') (s : Same F F') : Ok K A' F' G ⟨backS S.sl S'.sl vs, S'.os⟩ σ := by
  have hl : S.sl.length = S'.sl.length := by
    have := k.len
    rw [wipeS_len, wipe_length] at this
    rw [k0.len, this]
  refine ⟨k.sub, by rw [backS_len, ← hl]; exact k0.len, k.alen, k.nd, fun i r h => ?_, k.cell, k.trk⟩
  simp only at h
  rw [backS_in hl] at h
  by_cases hi : i ∈ vs
  · rw [if_pos hi] at h
    obtain ⟨v, e1, q⟩ := k0.rslot i r h
    exact ⟨v, e1, q.mono p s _ _⟩
  · rw [if_neg hi] at h
    obtain ⟨v, e1, q⟩ := k.rslot i r (by simp only; rw [wipeS_out hi]; exact h)
    rw [wipe_outV hi] at e1
    exact ⟨v, e1, q⟩
/-- one list over a heap: what may be forgotten -/
theorem sub_one {p : Addr} {o : HO} (h : G p = none) (l : Loose o) : Sub G (upd G p o) := ⟨fun b u e => by rw [upd_ne (ne_of_none e h)]; exact e, fun b u e n => by
  by_cases hb : b = p
  · subst hb; rw [upd_same] at e; cases e; exact l
  · rw [upd_ne hb, n] at e; cases e⟩
theorem mix_one {G' : Hp} {p : Addr} {o : HO} (h : G p = none) (h' : G' p = none) : mixH G (upd G p o) G' = upd G' p o := by
  funext b
  by_cases hb : b = p
  · subst hb
    rw [mix_lost h upd_same, upd_same]
  · rw [upd_ne hb]
    cases q : G b with
    | some u => exact mix_held q
    | none => exact mix_free (by rw [upd_ne hb]; exact q)
end

/-! ### tests of a comprehension -/
structure GTs (X : Cx) (ifs : List Expr) (g : M Bool) : Prop where
  ex : ∃ t, PTs X ifs t ∧ RdT X.K t g
def gYes : M Bool := fun S => some (true, S)
theorem ts_nil {X : Cx} : GTs X [] gYes := ⟨_, pts_nil, fun A F H S σ b S' Q k e post => by cases e; exact post A F H (List.prefix_refl _) (Same.refl F) k⟩
theorem ts_one {X : Cx} {c : Expr} {g : M Bool} (h : GT X c g) : GTs X [c] g := let ⟨_, p, r⟩ := h.ex; ⟨_, pts_one p, r⟩

/-! ### the turns of a comprehension -/
def gTurns (gg : D → Sx → Option Sx) (gt : M Bool) (ge : M D) (vs : List Nat) : List D → Sx → Option (List D × Sx)
  | [], S => some ([], S)
  | d :: ds, S => (gg d ⟨wipeS S.sl vs, S.os⟩).bind fun S1 => (gt S1).bind fun p =>
    if p.1 = true then (ge p.2).bind fun q => (gTurns gg gt ge vs ds q.2).bind fun r => some (q.1 :: r.1, r.2)
    else gTurns gg gt ge vs ds p.2
def gLc (gi : M (List D)) (gg : D → Sx → Option Sx) (gt : M Bool) (ge : M D) (vs : List Nat) : M D := fun S => (gi S).bind fun p => (gTurns gg gt ge vs p.1 p.2).bind fun r => some (.list r.1, ⟨backS p.2.sl r.2.sl vs, r.2.os⟩)
section
variable {K : PySem.W.Frag}
/-- a new list that is nobody's yet -/
def RdN (K : PySem.W.Frag) (t : TE) (g : M D) : Prop := ∀ A F H S σ d S' (Q : VK), Ok K A F H S σ → g S = some (d, S') →
  (∀ A' F' G p vs ds, A <+: A' → Same F F' → Ok K A' F' G S' σ → G p = none → d = .list ds → Rps K F' vs ds → ds.length ≤ sizeLine → Q (.ref p) (upd G p (.lst vs))) → t σ H Q
theorem RdN.e {t : TE} {g : M D} (h : RdN K t g) : RdE K t g := by
  intro A F H S σ d S' Q k e post
  refine h A F H S σ d S' Q k e fun A1 F1 G p vs ds p1 s1 k1 hp ed r hz => ?_
  subst ed
  obtain ⟨s2, k2, r2⟩ := k1.newList hp r hz
  exact post A1 _ _ _ p1 (s1.trans s2) k2 r2
theorem rd_lc {wi : TI} {g : TG} {tt : TT} {te : TE} {gi : M (List D)} {gg : D → Sx → Option Sx} {gt : M Bool} {ge : M D} {tgt vs : List Nat} (hi : RdI K wi gi) (hg : RdG K tgt g gg) (ht : RdT K tt gt) (he : RdE K te ge) (hv : ∀ i ∈ tgt, i ∈ vs) :
    RdN K (tLc wi (gFr g) (tFrT tt) (tFr te) vs) (gLc gi gg gt ge vs) := by
  intro A F H S σ d S' Q k e post
  obtain ⟨⟨ds, S1⟩, e1, e⟩ := bind_inv e
  obtain ⟨⟨rs, S2⟩, e2, e⟩ := bind_inv e
  cases e
  refine hi A F H S σ ds S1 _ k e1 fun A1 F1 H1 J p1 s1 k1 w hz => fun L hL => ?_
  refine ⟨fun i m H => m = ds.length - i ∧ i ≤ ds.length ∧ ∃ A F G S acc us rest, Same F1 F ∧ A1 <+: A ∧ Ok K A F G ⟨wipeS S.sl vs, S.os⟩ (wipe σ vs) ∧ G L = none ∧ H = upd G L (.lst us) ∧ Rps K F us acc ∧ acc.length ≤ i ∧
    gTurns gg gt ge vs (ds.drop i) S = some (rest, S2) ∧ acc ++ rest = rs, ⟨ds.length, by simp, Nat.zero_le _, A1, F1, H1, S1, [], [], rs, Same.refl _, List.prefix_refl _, k1.wipe rfl, hL, rfl, .nil, Nat.le_refl _, by simpa using e2, rfl⟩, ?_⟩
  rintro i m H ⟨rfl, hil, A2, F2, G2, S3, acc, us, rest, s2, p2, k2, hG, rfl, ru, hla, et, ea⟩
  have sFH : Same F1 (upd G2 L (.lst us)) := (s2.trans k2.sub.same).trans (same_upd hG)
  by_cases hlt : i < ds.length
  · refine .inr ⟨w.go i _ sFH hlt, fun H' => i + 1 ≤ ds.length ∧ ∃ A F G S acc us rest, Same F1 F ∧ A1 <+: A ∧ Ok K A F G ⟨wipeS S.sl vs, S.os⟩ (wipe σ vs) ∧ G L = none ∧ H' = upd G L (.lst us) ∧ Rps K F us acc ∧ acc.length ≤ i + 1 ∧
      gTurns gg gt ge vs (ds.drop (i + 1)) S = some (rest, S2) ∧ acc ++ rest = rs, fun H' h => ⟨ds.length - (i + 1), by omega, rfl, h⟩, fun x H' hy => ?_⟩
    rw [List.drop_eq_getElem_cons hlt] at et
    obtain ⟨S4, e4, et⟩ := bind_inv (show (gg ds[i] ⟨wipeS S3.sl vs, S3.os⟩).bind _ = _ from et)
    obtain ⟨⟨b, S5⟩, e5, et⟩ := bind_inv et
    -- the item
    have key : ∃ F3 G3, Same F2 F3 ∧ Ok K A2 F3 G3 ⟨wipeS S3.sl vs, S3.os⟩ (wipe σ vs) ∧ G3 L = none ∧ H' = upd G3 L (.lst us) ∧ Rp K F3 x ds[i] := by
      rcases w.yld i ds[i] _ x H' sFH (List.getElem?_eq_getElem hlt) hy with ⟨rfl, r⟩ | ⟨T, ws, es, rfl, hT, rfl, ed, r, hz2⟩
      · exact ⟨F2, G2, Same.refl _, k2, hG, rfl, r.mono s2 _ _⟩
      · have hTL : T ≠ L := fun z => by subst z; rw [upd_same] at hT; cases hT
        have gT : G2 T = none := by rwa [upd_ne hTL] at hT
        obtain ⟨s3, k3, r3⟩ := k2.newTup gT (Rps.mono s2 _ _ r) hz2
        refine ⟨_, _, s3, k3, by rw [upd_ne (Ne.symm hTL)]; exact hG, ?_, by rw [ed]; exact r3⟩
        funext c
        by_cases h1 : c = T
        · subst h1; rw [upd_same, upd_ne hTL, upd_same]
        · rw [upd_ne h1]
          by_cases h2 : c = L
          · subst h2; rw [upd_same, upd_same]
          · rw [upd_ne h2, upd_ne h2, upd_ne h1]
    obtain ⟨F3, G3, s3, k3, hG3, rfl, rx⟩ := key
    refine ⟨G3, sub_one hG3 trivial, hg A2 F3 G3 _ _ x ds[i] S4 _ k3 rx e4 fun A4 F4 G4 σ4 p4 s4 k4 w4 => ⟨fun c xs q => ?_, fun lost => ?_⟩⟩
    · exact k4.sub.keep (k4.sub.same c _ (by
        have := k3.sub.keep q (fun z => z)
        exact s4 c _ this)) (fun z => z) |> fun z => k4.sub.same c _ z
    · have hG4 : G4 L = none := lost L _ upd_same hG3
      rw [mix_one hG3 hG4]
      refine ⟨(w4 vs hv).trans (by
        have : ∀ ws : List Nat, wipe (wipe σ ws) ws = wipe σ ws := by
          intro ws
          apply List.ext_getElem?
          intro n
          by_cases hn : n ∈ ws
          · have h1 : ∀ {τ : L2.St} {n : Nat} {ws : List Nat}, n ∈ ws → (wipe τ ws)[n]? = if n < τ.length then some none else none := by
              intro τ n ws
              induction ws with
              | nil => intro h; cases h
              | cons v ws ih =>
                intro h
                unfold wipe
                by_cases hv : v = n
                · subst hv
                  by_cases hl : v < τ.length
                  · rw [List.getElem?_set_self (by rw [wipe_length]; exact hl), if_pos hl]
                  · rw [List.getElem?_eq_none (by rw [List.length_set, wipe_length]; omega), if_neg hl]
                · rw [List.getElem?_set_ne hv]
                  exact ih ((List.mem_cons.mp h).resolve_left fun z => hv z.symm)
            rw [h1 hn, h1 hn, wipe_length]
          · rw [wipe_outV hn]
        exact this vs), G4, sub_one hG4 trivial, ht A4 F4 G4 S4 σ4 b S5 _ k4 e5 fun A5 F5 G5 p5 s5 k5 => ⟨fun c xs q => ?_, fun lost => ?_⟩⟩
      · exact k5.sub.same c _ (s5 c _ (k4.sub.keep q (fun z => z)))
      · have hG5 : G5 L = none := lost L _ upd_same hG4
        rw [mix_one hG4 hG5]
        have w5 : wipe σ4 vs = wipe σ vs := (w4 vs hv).trans (by
          have h1 : ∀ {τ : L2.St} {n : Nat} {ws : List Nat}, n ∈ ws → (wipe τ ws)[n]? = if n < τ.length then some none else none := by
            intro τ n ws
            induction ws with
            | nil => intro h; cases h
            | cons v ws ih =>
              intro h
              unfold wipe
              by_cases hv : v = n
              · subst hv
                by_cases hl : v < τ.length
                · rw [List.getElem?_set_self (by rw [wipe_length]; exact hl), if_pos hl]
                · rw [List.getElem?_eq_none (by rw [List.length_set, wipe_length]; omega), if_neg hl]
              · rw [List.getElem?_set_ne hv]
                exact ih ((List.mem_cons.mp h).resolve_left fun z => hv z.symm)
          apply List.ext_getElem?
          intro n
          by_cases hn : n ∈ vs
          · rw [h1 hn, h1 hn, wipe_length]
          · rw [wipe_outV hn])
        cases b with
        | false =>
          rw [if_neg Bool.false_ne_true] at et
          show if false = true then _ else _
          rw [if_neg Bool.false_ne_true]
          exact ⟨hlt, A5, F5, G5, S5, acc, us, rest, s2.trans (s3.trans (s4.trans s5)), p2.trans (p4.trans p5), k5.wipe w5, hG5, rfl, Rps.mono (s3.trans (s4.trans s5)) _ _ ru, Nat.le_succ_of_le hla, et, ea⟩
        | true =>
          rw [if_pos rfl] at et
          show if true = true then _ else _
          rw [if_pos rfl]
          obtain ⟨⟨y, S6⟩, e6, et⟩ := bind_inv et
          obtain ⟨⟨rest', S7⟩, e7, et⟩ := bind_inv et
          cases et
          refine ⟨G5, sub_one hG5 trivial, he A5 F5 G5 S5 σ4 y S6 _ k5 e6 fun A6 F6 G6 v p6 s6 k6 r6 => ⟨fun c xs q => ?_, fun lost => ?_⟩⟩
          · exact k6.sub.same c _ (s6 c _ (k5.sub.keep q (fun z => z)))
          · have hG6 : G6 L = none := lost L _ upd_same hG5
            rw [mix_one hG5 hG6]
            have ru' : Rps K F6 us acc := Rps.mono (s3.trans (s4.trans (s5.trans s6))) _ _ ru
            refine ⟨us, upd_same, ?_, hlt, A6, F6, G6, S6, acc ++ [y], us ++ [v], rest', s2.trans (s3.trans (s4.trans (s5.trans s6))), p2.trans (p4.trans (p5.trans p6)), k6.wipe w5, hG6, upd_upd, ru'.append (.cons r6 .nil), ?_, e7, ?_⟩
            · rw [ru'.length]
              omega
            · rw [List.length_append, List.length_singleton]
              omega
            · rw [← ea, List.append_assoc]; rfl
  · have ei : i = ds.length := by omega
    subst ei
    rw [List.drop_length] at et
    cases et
    refine .inl ⟨w.stop _ _ sFH (Nat.le_refl _), ?_⟩
    rw [List.append_nil] at ea
    subst ea
    exact post A2 F2 G2 L us acc (p1.trans p2) (s1.trans s2) (k1.back k2 p2 s2) hG rfl ru (Nat.le_trans hla hz)
end

/-! ### the one reading of each judgement -/
def tOf (K : PySem.W.Frag) (g : M D) : TE := fun σ H Q => ∃ A F S d S', Ok K A F H S σ ∧ g S = some (d, S') ∧ ∀ A' F' H' v, A <+: A' → Same F F' → Ok K A' F' H' S' σ → Rp K F' v d → Q v H'
def ttOf (K : PySem.W.Frag) (g : M Bool) : TT := fun σ H Q => ∃ A F S d S', Ok K A F H S σ ∧ g S = some (d, S') ∧ ∀ A' F' H', A <+: A' → Same F F' → Ok K A' F' H' S' σ → Q d H'
def gOf (K : PySem.W.Frag) (tgt : List Nat) (g : D → Sx → Option Sx) : TG := fun v σ H Q => ∃ A F S d S', Ok K A F H S σ ∧ Rp K F v d ∧ g d S = some S' ∧ ∀ A' F' H' σ', A <+: A' → Same F F' → Ok K A' F' H' S' σ' → (∀ vs, (∀ i ∈ tgt, i ∈ vs) → wipe σ' vs = wipe σ vs) → Q σ' H'
def iOf (K : PySem.W.Frag) (g : M (List D)) : TI := fun σ H R => ∃ A F S ds S', Ok K A F H S σ ∧ g S = some (ds, S') ∧ ∀ A' F' H' J, A <+: A' → Same F F' → Ok K A' F' H' S' σ → Walk K F' J ds → ds.length ≤ sizeLine → R J H'
theorem GE.pe {X : Cx} {e : Expr} {g : M D} (h : GE X e g) : PE X e (tOf X.K g) := by
  obtain ⟨t, p, r⟩ := h.ex
  exact ⟨fun pins s σ H Q I ⟨A, F, S, d, S', k, e, post⟩ => p.run pins s σ H Q I (r A F H S σ d S' Q k e post)⟩
theorem rd_of {K : PySem.W.Frag} {g : M D} : RdE K (tOf K g) g := fun A F H S σ d S' Q k e post => ⟨A, F, S, d, S', k, e, post⟩
theorem GTs.pts {X : Cx} {es : List Expr} {g : M Bool} (h : GTs X es g) : PTs X es (ttOf X.K g) := by
  obtain ⟨t, p, r⟩ := h.ex
  exact ⟨fun pins s σ H Q I ⟨A, F, S, d, S', k, e, post⟩ => p.run pins s σ H Q I (r A F H S σ d S' Q k e post)⟩
theorem rd_tof {K : PySem.W.Frag} {g : M Bool} : RdT K (ttOf K g) g := fun A F H S σ d S' Q k e post => ⟨A, F, S, d, S', k, e, post⟩
theorem GG.pg {X : Cx} {tgt : List Nat} {e : Expr} {g : D → Sx → Option Sx} (h : GG X tgt e g) : PG X e (gOf X.K tgt g) := by
  obtain ⟨t, p, r⟩ := h.ex
  exact ⟨fun pins s σ H v u Q I rv ⟨A, F, S, d, S', k, rd, e, post⟩ => p.run pins s σ H v u Q I rv (r A F H S σ v d S' Q k rd e post)⟩
theorem rd_gof {K : PySem.W.Frag} {tgt : List Nat} {g : D → Sx → Option Sx} : RdG K tgt (gOf K tgt g) g := fun A F H S σ v d S' Q k r e post => ⟨A, F, S, d, S', k, r, e, post⟩
theorem GI.pi {X : Cx} {tg e : Expr} {g : M (List D)} (h : GI X tg e g) : PI X tg e (iOf X.K g) := by
  obtain ⟨t, p, r⟩ := h.ex
  exact ⟨fun pins s σ H R I ⟨A, F, S, d, S', k, e, post⟩ => p.run pins s σ H R I (r A F H S σ d S' R k e post)⟩
theorem rd_iof {K : PySem.W.Frag} {g : M (List D)} : RdI K (iOf K g) g := fun A F H S σ d S' Q k e post => ⟨A, F, S, d, S', k, e, post⟩

/-! ### comprehensions -/
section
variable {X : Cx} {pos : Pos} {elt tg iter : Expr} {ifs : List Expr} {scope : Scope} {gi : M (List D)} {gg : D → Sx → Option Sx} {gt : M Bool} {ge : M D} {tgt : List Nat}
/-- the block of a comprehension, wherever it stands -/
abbrev InBlk (X : Cx) (scope : Scope) (P : Cx → Prop) : Prop := ∀ (s : Shared) (H : Hp) (C : Addr) (cl : List (Str × Addr)) (fp : List Addr), P (X.blk s H scope (compEnvC scope cl C X.env) fp)
structure GN (X : Cx) (e : Expr) (g : M D) : Prop where
  ex : ∃ t, PE X e t ∧ RdN X.K t g
theorem GN.e {X : Cx} {e : Expr} {g : M D} (h : GN X e g) : GE X e g := let ⟨_, p, r⟩ := h.ex; ⟨_, p, r.e⟩
theorem n_lc (own : List (Str × Nat)) (hN : X.N.Nodup) (hi : GI X tg iter gi) (ok : BlkOk X.N X.env.scope scope own) (hg : InBlk X scope fun Y => GG Y tgt tg gg) (ht : InBlk X scope fun Y => GTs Y ifs gt) (he : InBlk X scope fun Y => GE Y elt ge)
    (hv : ∀ i ∈ tgt, i ∈ own.map (·.2) := by decide) (hc : X.calm = true := by rfl) (hs : ∀ x, foldedSetIterable iter X.env x = pure x := by intro _; rfl) : GN X (.ListComp elt [⟨tg, iter, ifs, 0⟩] scope pos) (gLc gi gg gt ge (own.map (·.2))) :=
  ⟨_, pe_lc hc hN hi.pi ok (fun s H C cl fp => pg_fr (hg s H C cl fp).pg) (fun s H C cl fp => pts_fr (ht s H C cl fp).pts) (fun s H C cl fp => pe_fr (he s H C cl fp).pe) hs, rd_lc rd_iof rd_gof rd_tof rd_of hv⟩
end
end Fu

set_option maxHeartbeats 4000000
namespace Fu
open PySem PySem.Spec PyProof.Rows L2 RZ

section
variable {K : PySem.W.Frag}
end
/-! ### two clauses -/
section
variable {K : PySem.W.Frag}
end
section
variable {X : Cx} {pos : Pos} {elt tg iter tg1 iter1 : Expr} {ifs ifs1 : List Expr} {scope : Scope} {gi gi1 : M (List D)} {gg gg1 : D → Sx → Option Sx} {gt gt1 : M Bool} {ge : M D} {tgt tgt1 : List Nat}
end
end Fu

set_option maxHeartbeats 4000000
namespace Fu
open PySem PySem.Spec PyProof.Rows L2 RZ

/-! ### statements -/
inductive Out where
  | nx (S : Sx)
  | rt (d : D) (S : Sx)
  | bk (S : Sx)
  | ct (S : Sx)
  | ro (j : Nat) (S : Sx)
/-- what a statement's end hands on; B: what stands for good, A0: the cells that were there -/
def OutP (K : PySem.W.Frag) (B : Hp) (A0 : List Addr) (o : Out) (E : Ends) : Prop := match o with
  | .nx S' => ∀ A F H σ, Same B F → A0 <+: A → Ok K A F H S' σ → E.nx σ H
  | .rt d S' => ∀ A F H σ v, Same B F → A0 <+: A → Ok K A F H S' σ → Rp K F v d → E.rt v H
  | .bk S' => ∀ A F H σ, Same B F → A0 <+: A → Ok K A F H S' σ → E.bk σ H
  | .ct S' => ∀ A F H σ, Same B F → A0 <+: A → Ok K A F H S' σ → E.ct σ H
  | .ro j S' => ∀ A F H σ a, Same B F → A0 <+: A → Ok K A F H S' σ → A[j]? = some a → E.rt (.ref a) H
def RdS (K : PySem.W.Frag) (P : Hp → Prop) (t : TS) (g : Sx → Option Out) : Prop := ∀ B A0 A F H S σ o (E : Ends), P B → Same B F → A0 <+: A → Ok K A F H S σ → g S = some o → OutP K B A0 o E → t E σ H
structure GS (X : Cx) (P : Hp → Prop) (st : Stmt) (g : Sx → Option Out) : Prop where
  ex : ∃ t, PS X st t ∧ RdS X.K P t g
structure GSs (X : Cx) (P : Hp → Prop) (st : List Stmt) (g : Sx → Option Out) : Prop where
  ex : ∃ t, PSs X st t ∧ RdS X.K P t g
def qNx : Sx → Option Out := fun S => some (.nx S)
def qSeq (g h : Sx → Option Out) : Sx → Option Out := fun S => (g S).bind fun o => match o with
  | .nx S1 => h S1
  | o => some o
def qDrop (g : M D) : Sx → Option Out := fun S => (g S).bind fun p => some (.nx p.2)
def qRet (g : M D) : Sx → Option Out := fun S => (g S).bind fun p => some (.rt p.1 p.2)
def qRetN : Sx → Option Out := fun S => some (.rt .none S)
def qIf (t : M Bool) (g h : Sx → Option Out) : Sx → Option Out := fun S => (t S).bind fun p => if p.1 = true then g p.2 else h p.2
def qSet (i : Nat) (g : M D) : Sx → Option Out := fun S => (g S).bind fun p => some (.nx ⟨p.2.sl.set i (some (.dat p.1)), p.2.os⟩)
def qAsg (gg : D → Sx → Option Sx) (g : M D) : Sx → Option Out := fun S => (g S).bind fun p => (gg p.1 p.2).bind fun S1 => some (.nx S1)
/-- a new list of one's own -/
def qOwn (i : Nat) (g : M D) : Sx → Option Out := fun S => (g S).bind fun p => match p.1 with
  | .list ds => some (.nx ⟨p.2.sl.set i (some (.own p.2.os.length)), p.2.os ++ [some (.lst ds)]⟩)
  | _ => none
def qNone : Sx → Option Out := fun _ => none
section
variable {X : Cx} {P : Hp → Prop} {st : Stmt} {sts : List Stmt} {g h : Sx → Option Out} {e : Expr} {ge : M D} {pos : Pos}
theorem ss_nil : GSs X P [] qNx := ⟨_, pss_nil, fun B A0 A F H S σ o E hP s p k e post => by cases e; exact post A F H σ s p k⟩
theorem rd_seq {K : PySem.W.Frag} {t u : TS} (hg : RdS K P t g) (hh : RdS K P u h) : RdS K P (tSeq t u) (qSeq g h) := by
  intro B A0 A F H S σ o E hP s p k e post
  obtain ⟨o1, e1, e⟩ := bind_inv e
  refine hg B A0 A F H S σ o1 _ hP s p k e1 ?_
  cases o1 with
  | nx S1 => exact fun A1 F1 H1 σ1 s1 p1 k1 => hh B A0 A1 F1 H1 S1 σ1 o E hP s1 p1 k1 e post
  | rt d S1 => cases e; exact post
  | bk S1 => cases e; exact post
  | ct S1 => cases e; exact post
  | ro j S1 => cases e; exact post
theorem ss_cons (h1 : GS X P st g) (h2 : GSs X P sts h) : GSs X P (st :: sts) (qSeq g h) :=
  let ⟨_, p1, r1⟩ := h1.ex; let ⟨_, p2, r2⟩ := h2.ex; ⟨_, pss_cons p1 p2, rd_seq r1 r2⟩
theorem ss_one (h1 : GS X P st g) : GSs X P [st] g := let ⟨_, p1, r1⟩ := h1.ex; ⟨_, pss_one p1, r1⟩
theorem s_never : GS X P st qNone := ⟨_, ps_never, fun B A0 A F H S σ o E hP s p k e post => by cases e⟩
theorem s_expr (he : GE X e ge) (hs : swapsWith e none pos.line X.env = pure false := by rfl) : GS X P (.Expr e pos) (qDrop ge) := by
  obtain ⟨t, p1, r1⟩ := he.ex
  refine ⟨_, ps_expr p1 hs, fun B A0 A F H S σ o E hP s p k e post => ?_⟩
  obtain ⟨⟨d, S1⟩, e1, e⟩ := bind_inv e
  cases e
  exact r1 A F H S σ d S1 _ k e1 fun A1 F1 H1 v p1 s1 k1 _ => post A1 F1 H1 σ (s.trans s1) (p.trans p1) k1
theorem s_ret (he : GE X e ge) : GS X P (.Return (some e) pos) (qRet ge) := by
  obtain ⟨t, p1, r1⟩ := he.ex
  refine ⟨_, ps_ret p1, fun B A0 A F H S σ o E hP s p k e post => ?_⟩
  obtain ⟨⟨d, S1⟩, e1, e⟩ := bind_inv e
  cases e
  exact r1 A F H S σ d S1 _ k e1 fun A1 F1 H1 v p1 s1 k1 rv => post A1 F1 H1 σ v (s.trans s1) (p.trans p1) k1 rv
theorem s_if {c : Expr} {a b : List Stmt} {gt : M Bool} (hc : GT X c gt) (ha : GSs X P a g) (hb : GSs X P b h) : GS X P (.If c a b pos) (qIf gt g h) := by
  obtain ⟨t, pc, rc⟩ := hc.ex
  obtain ⟨_, pa, ra⟩ := ha.ex
  obtain ⟨_, pb, rb⟩ := hb.ex
  refine ⟨_, ps_if pc pa pb, fun B A0 A F H S σ o E hP s p k e post => ?_⟩
  obtain ⟨⟨x, S1⟩, e1, e⟩ := bind_inv e
  refine rc A F H S σ x S1 _ k e1 fun A1 F1 H1 p1 s1 k1 => ?_
  cases x with
  | true => exact ra B A0 A1 F1 H1 S1 σ o E hP (s.trans s1) (p.trans p1) k1 e post
  | false => exact rb B A0 A1 F1 H1 S1 σ o E hP (s.trans s1) (p.trans p1) k1 e post
theorem rd_asgN {K : PySem.W.Frag} {t : TE} (i : Nat) (r : RdE K t ge) : RdS K P (tAsg t (gName i)) (qSet i ge) := by
  intro B A0 A F H S σ o E hP s p k e post
  obtain ⟨⟨d, S1⟩, e1, e⟩ := bind_inv e
  cases e
  exact r A F H S σ d S1 _ k e1 fun A1 F1 H1 v p1 s1 k1 rv => post A1 F1 H1 _ (s.trans s1) (p.trans p1) (k1.setDat rv)
theorem s_set {x : Str} {pos' : Pos} (i : Nat) (hN : X.N.Nodup) (he : GE X e ge) (hx : Loc X.env.scope x := by first | exact Or.inl rfl | exact Or.inr rfl) (hi : X.N[i]? = some x := by rfl) (hs : swapsWith e (some (.Name x pos')) pos.line X.env = pure false := by rfl)
    (hf : X.fn x = true ∨ X.env.scope.names.lookup x = some .local := by first | exact .inl rfl | exact .inr rfl | assumption) : GS X P (.Assign [.Name x pos'] e pos) (qSet i ge) :=
  let ⟨_, p1, r1⟩ := he.ex; ⟨_, ps_set hN hi hx p1 hs hf, rd_asgN i r1⟩
theorem s_asg {tg : Expr} {tgt : List Nat} {gg : D → Sx → Option Sx} (hg : GG X tgt tg gg) (he : GE X e ge) (hs : swapsWithSole [tg] e pos.line X.env = pure false := by rfl) (hw : swappedStores [tg] e X.env = pure none := by rfl)
    (h1 : (assignEach [tg] X.env).map (·.2) = [assign tg X.env] := by rfl) : GS X P (.Assign [tg] e pos) (qAsg gg ge) := by
  obtain ⟨t, pa, ra⟩ := he.ex
  obtain ⟨u, pb, rb⟩ := hg.ex
  refine ⟨_, ps_asg pa pb hs hw h1, fun B A0 A F H S σ o E hP s p k e post => ?_⟩
  obtain ⟨⟨d, S1⟩, e1, e⟩ := bind_inv e
  obtain ⟨S2, e2, e⟩ := bind_inv e
  cases e
  exact ra A F H S σ d S1 _ k e1 fun A1 F1 H1 v p1 s1 k1 rv => rb A1 F1 H1 S1 σ v d S2 _ k1 rv e2 fun A2 F2 H2 σ2 p2 s2 k2 _ => post A2 F2 H2 σ2 (s.trans (s1.trans s2)) (p.trans (p1.trans p2)) k2
/-- a, b = x, y -/
def qPar (i j : Nat) (g : M (List D)) : Sx → Option Out := fun S => (g S).bind fun p => match p.1 with
  | [d, e] => some (.nx ⟨(p.2.sl.set i (some (.dat d))).set j (some (.dat e)), p.2.os⟩)
  | _ => none
/-- a list that stands in the heap and is nobody's becomes a cell -/
theorem Ok.adopt {K : PySem.W.Frag} {A : List Addr} {F G : Hp} {S : Sx} {σ : L2.St} (k : Ok K A F G S σ) {p : Addr} {vs : List V} {ds : List D} (hp : G p = none) (r : Rps K F vs ds) (hz : ds.length ≤ sizeLine) :
    Ok K (A ++ [p]) F (upd G p (.lst vs)) ⟨S.sl, S.os ++ [some (.lst ds)]⟩ σ := k.cellNew hp trivial ⟨vs, upd_same, r, hz⟩
theorem rd_asgO {K : PySem.W.Frag} {t : TE} (i : Nat) (r : RdN K t ge) : RdS K P (tAsg t (gName i)) (qOwn i ge) := by
  intro B A0 A F H S σ o E hP s p k e post
  obtain ⟨⟨d, S1⟩, e1, e⟩ := bind_inv e
  refine r A F H S σ d S1 _ k e1 fun A1 F1 G1 L vs ds p1 s1 k1 hL ed rv hz => ?_
  subst ed
  cases e
  have k2 := k1.adopt hL rv hz
  exact post _ F1 _ _ (s.trans s1) (p.trans (p1.trans (List.prefix_append _ _))) (k2.setOwn (j := S1.os.length) (by rw [k1.alen]; simp))
/-- a new list goes out, nobody's yet -/
def qRetO (g : M D) : Sx → Option Out := fun S => (g S).bind fun p => match p.1 with
  | .list ds => some (.ro p.2.os.length ⟨p.2.sl, p.2.os ++ [some (.lst ds)]⟩)
  | _ => none
theorem s_retNew (he : GN X e ge) : GS X P (.Return (some e) pos) (qRetO ge) := by
  obtain ⟨t, p1, r1⟩ := he.ex
  refine ⟨_, ps_ret p1, fun B A0 A F H S σ o E hP s p k e post => ?_⟩
  obtain ⟨⟨d, S1⟩, e1, e⟩ := bind_inv e
  refine r1 A F H S σ d S1 _ k e1 fun A1 F1 G1 L vs ds p1 s1 k1 hL ed rv hz => ?_
  subst ed
  cases e
  exact post _ F1 _ σ L (s.trans s1) (p.trans (p1.trans (List.prefix_append _ _))) (k1.adopt hL rv hz) (by rw [k1.alen]; simp)
theorem s_own {x : Str} {pos' : Pos} (i : Nat) (hN : X.N.Nodup) (he : GN X e ge) (hx : Loc X.env.scope x := by first | exact Or.inl rfl | exact Or.inr rfl) (hi : X.N[i]? = some x := by rfl) (hs : swapsWith e (some (.Name x pos')) pos.line X.env = pure false := by rfl)
    (hf : X.fn x = true ∨ X.env.scope.names.lookup x = some .local := by first | exact .inl rfl | exact .inr rfl | assumption) : GS X P (.Assign [.Name x pos'] e pos) (qOwn i ge) :=
  let ⟨_, p1, r1⟩ := he.ex; ⟨_, ps_set hN hi hx p1 hs hf, rd_asgO i r1⟩
end
section
variable {X : Cx} {P : Hp → Prop} {pos spos py : Pos} {y : Str} {elt tg iter tg1 iter1 : Expr} {ifs ifs1 : List Expr} {scope : Scope} {gi gi1 : M (List D)} {gg gg1 : D → Sx → Option Sx} {gt gt1 : M Bool} {ge : M D} {tgt tgt1 : List Nat}
/-- name = [..], on one line -/
structure Lc1 (X : Cx) (i : Nat) (st : Stmt) (g : M D) : Prop where
  ex : ∃ t, PS X st (tAsg t (gName i)) ∧ RdN X.K t g
theorem lc1 (i : Nat) (own : List (Str × Nat)) (hN : X.N.Nodup) (hi : GI X tg iter gi) (ok : BlkOk X.N X.env.scope scope own) (hg : InBlk X scope fun Y => GG Y tgt tg gg) (ht : InBlk X scope fun Y => GTs Y ifs gt) (he : InBlk X scope fun Y => GE Y elt ge)
    (hy : X.N[i]? = some y := by rfl) (hyl : X.env.scope.names.lookup y = some .local := by rfl) (hv : ∀ i ∈ tgt, i ∈ own.map (·.2) := by decide) (hc : X.calm = true := by rfl) (hs : ∀ x, foldedSetIterable iter X.env x = pure x := by intro _; rfl)
    (hsw : swapsWith (.ListComp elt [⟨tg, iter, ifs, 0⟩] scope pos) (some (.Name y py)) spos.line X.env = pure true := by exact sw_true rfl rfl rfl (by decide +kernel)) :
    Lc1 X i (.Assign [.Name y py] (.ListComp elt [⟨tg, iter, ifs, 0⟩] scope pos) spos) (gLc gi gg gt ge (own.map (·.2))) :=
  ⟨_, ps_setLc hc hN hy hyl hsw hi.pi ok (fun s H C cl fp => pg_fr (hg s H C cl fp).pg) (fun s H C cl fp => pts_fr (ht s H C cl fp).pts) (fun s H C cl fp => pe_fr (he s H C cl fp).pe) hs, rd_lc rd_iof rd_gof rd_tof rd_of hv⟩
theorem s_setLc {i : Nat} {st : Stmt} (h : Lc1 X i st ge) : GS X P st (qSet i ge) := let ⟨_, p, r⟩ := h.ex; ⟨_, p, rd_asgN i r.e⟩
theorem s_ownLc {i : Nat} {st : Stmt} (h : Lc1 X i st ge) : GS X P st (qOwn i ge) := let ⟨_, p, r⟩ := h.ex; ⟨_, p, rd_asgO i r⟩
end

/-! ### new lists -/
section
variable {X : Cx} {pos p : Pos} {a b e : Expr} {es : List Expr} {ga gb : M D} {gs : M (List D)}
theorem n_lst (hs : GA X es gs) : GN X (.List es pos) (gLst gs) := by
  obtain ⟨u, pb, rb⟩ := hs.ex
  refine ⟨_, pe_lst pb, fun A F H S σ d S' Q k e post => ?_⟩
  obtain ⟨⟨x, S1⟩, h1, e⟩ := bind_inv e
  simp only at e
  split at e
  · rename_i hz
    cases e
    exact rb A F H S σ x _ _ k h1 fun A1 F1 H1 vs p1 s1 k1 r1 => ⟨by rw [r1.length]; exact hz, fun p hp => post A1 F1 H1 p vs x p1 s1 k1 hp rfl r1 hz⟩
  · cases e
theorem n_list (hm : X.mg "list" = none) (ha : GA X [e] gs) (hg : Gl X "list" := by rfl) (he : starEach [e] X.env = (false, eval e X.env) :: starEach [] X.env := by rfl) : GN X (.Call (.Name "list" p) [e] [] pos) (gCall dList gs) := by
  obtain ⟨u, pb, rb⟩ := ha.ex
  refine ⟨_, pe_callTy call_list_of hg hm (by decide +kernel) pb (by decide) (by decide) he (by rfl), fun A F H S σ d S' Q k e post => ?_⟩
  obtain ⟨⟨x, S1⟩, h1, e⟩ := bind_inv e
  obtain ⟨z, h2, e⟩ := bind_inv e
  cases e
  simp only at h2
  unfold dList at h2
  split at h2 <;> cases h2
  · refine rb A F H S σ _ _ _ k h1 fun A1 F1 H1 vs p1 s1 k1 r1 => ?_
    obtain ⟨v, rfl, rv⟩ := rps1 r1
    obtain ⟨a, vs, rfl, g1, g2, g3⟩ := rp_list_inv rv
    exact ⟨_, _, rfl, .inl (SqL.of (k1.sub.same _ _ g1)), fun l hl => post A1 F1 H1 l _ _ p1 s1 k1 hl rfl g2 g3⟩
  · refine rb A F H S σ _ _ _ k h1 fun A1 F1 H1 vs p1 s1 k1 r1 => ?_
    obtain ⟨v, rfl, rv⟩ := rps1 r1
    obtain ⟨a, vs, rfl, g1, g2, g3⟩ := rp_tup_inv rv
    exact ⟨_, _, rfl, .inr (sqT_same k1.sub.same g1), fun l hl => post A1 F1 H1 l _ _ p1 s1 k1 hl rfl g2 g3⟩
/-- [x] * n -/
def gRep (f : D → D → Option D) (ga gb : M D) : M D := fun S => (gBin f ga gb S).bind fun p => match p.1 with
  | .list ds => some (.list ds, p.2)
  | _ => none
theorem n_rep (ha : GE X a ga) (hb : GE X b gb) : GN X (.BinOp a .Mult b pos) (gRep dMul ga gb) := by
  obtain ⟨_, pa, ra⟩ := ha.ex
  obtain ⟨_, pb, rb⟩ := hb.ex
  refine ⟨_, pe_op op_mulAny pa pb, fun A F H S σ d S' Q k e post => ?_⟩
  obtain ⟨⟨z, S3⟩, h0, e⟩ := bind_inv e
  obtain ⟨⟨x, S1⟩, h1, h0⟩ := bind_inv h0
  obtain ⟨⟨y, S2⟩, h2, h0⟩ := bind_inv h0
  obtain ⟨z', h3, h0⟩ := bind_inv h0
  cases h0
  refine ra A F H S σ x S1 _ k h1 fun A1 F1 H1 v1 p1 s1 k1 r1 => rb A1 F1 H1 S1 σ y _ _ k1 h2 fun A2 F2 H2 v2 p2 s2 k2 r2 => ?_
  cases z <;> simp only at e <;> cases e
  rename_i zs
  cases x <;> cases y <;> simp only [dMul] at h3 <;> try cases h3
  · split at h3 <;> cases h3
  · split at h3
    · rename_i hz
      cases h3
      obtain ⟨a, xs, rfl, g1, g2, _⟩ := rp_list_inv r1
      cases rp_int_inv r2
      refine .inr ⟨a, _, xs, rfl, rfl, (s2.trans k2.sub.same) _ _ g1, hz.1, hz.2.1, by rw [g2.length]; exact hz.2.2, fun p hp => ?_⟩
      exact post A2 F2 H2 p _ _ (p1.trans p2) (s1.trans s2) k2 hp rfl ((Rps.mono s2 _ _ g2).rep _) (by rw [PyProof.Rows.lm_len_rep_flat, Nat.mul_comm]; exact hz.2.2)
    · cases h3
end
end Fu

set_option maxHeartbeats 4000000
namespace Fu
open PySem PySem.Spec PyProof.Rows L2 RZ

/-! ### lists that are written: items, length, comparisons -/
def ownOf (S : Sx) (i : Nat) : Option (Nat × List D) := match S.sl[i]? with
  | some (some (.own j)) => match S.os[j]? with
    | some (some (.lst cs)) => some (j, cs)
    | _ => none
  | _ => none
theorem own_at {K : PySem.W.Frag} {A : List Addr} {F H : Hp} {S : Sx} {σ : L2.St} {i j : Nat} {cs : List D} (k : Ok K A F H S σ) (h : ownOf S i = some (j, cs)) :
    ∃ a vs, S.sl[i]? = some (some (.own j)) ∧ S.os[j]? = some (some (.lst cs)) ∧ A[j]? = some a ∧ σ[i]? = some (some (.ref a)) ∧ F a = none ∧ H a = some (.lst vs) ∧ Rps K F vs cs ∧ cs.length ≤ sizeLine := by
  unfold ownOf at h
  split at h
  · rename_i j' ej
    split at h
    · rename_i cs' ec
      cases h
      obtain ⟨a, ha, ev⟩ := k.oslot i _ ej
      obtain ⟨a', ha', fa, vs, hv, r, hz⟩ := k.cell _ _ ec
      rw [ha] at ha'; cases ha'
      exact ⟨a, vs, ej, ec, ha, ev, fa, hv, r, hz⟩
    · cases h
  · cases h
/-- behind an expression: the cell as it stands by then -/
def cellOf (S : Sx) (j : Nat) : Option (List D) := match S.os[j]? with
  | some (some (.lst cs)) => some cs
  | _ => none
theorem cell_at {K : PySem.W.Frag} {A : List Addr} {F H : Hp} {S : Sx} {σ : L2.St} {j : Nat} {cs : List D} {a : Addr} (k : Ok K A F H S σ) (h : cellOf S j = some cs) (ha : A[j]? = some a) :
    ∃ vs, S.os[j]? = some (some (.lst cs)) ∧ F a = none ∧ H a = some (.lst vs) ∧ Rps K F vs cs ∧ cs.length ≤ sizeLine := by
  unfold cellOf at h
  split at h
  · rename_i cs' ec
    cases h
    obtain ⟨a', ha', fa, vs, hv, r, hz⟩ := k.cell _ _ ec
    rw [ha] at ha'; cases ha'
    exact ⟨vs, ec, fa, hv, r, hz⟩
  · cases h
section
variable {X : Cx} {P : Hp → Prop} {pos py p p2 apos : Pos} {y : Str} {b e : Expr} {es : List Expr} {gb ge : M D} {gs : M (List D)}
def gIxO (i : Nat) (gb : M D) : M D := fun S => (ownOf S i).bind fun o => (gb S).bind fun p => match p.1 with
  | .int n => (cellOf p.2 o.1).bind fun cs => (atI cs n).bind fun d => some (d, p.2)
  | _ => none
theorem e_ixO (i : Nat) (hb : GE X b gb) (hN : X.N[i]? = some y := by rfl) (hv : Vis X.env.scope y := by first | exact Or.inl rfl | exact Or.inr (Or.inl rfl) | exact Or.inr (Or.inr rfl)) (hs : PlainIx b := by exact fun _ _ => rfl) (hdy : (y == ("__debug__" : Str)) = false := by decide) (hcd : (y == ("__classdict__" : Str)) = false := by decide) :
    GE X (.Subscript (.Name y py) b pos) (gIxO i gb) := by
  obtain ⟨u, pb, rb⟩ := hb.ex
  refine ⟨_, pe_ix ix_list (pe_var hN hv hdy hcd) pb hs, fun A F H S σ d S' Q k h post => ?_⟩
  obtain ⟨⟨j, cs0⟩, e0, h⟩ := bind_inv h
  obtain ⟨⟨x, S1⟩, e1, h⟩ := bind_inv h
  obtain ⟨a, vs0, _, _, ha, ev, _⟩ := own_at k e0
  refine ⟨_, ev, rb A F H S σ x S1 _ k e1 fun A1 F1 H1 v p1 s1 k1 r1 => ?_⟩
  cases x <;> simp only at h <;> try cases h
  rename_i n
  obtain ⟨cs, e2, h⟩ := bind_inv h
  obtain ⟨d', e3, h⟩ := bind_inv h
  cases h
  obtain ⟨vs, _, _, hv', r, _⟩ := cell_at k1 e2 (prefix_at p1 ha)
  cases rp_int_inv r1
  obtain ⟨w, ew, rw'⟩ := rps_atI r e3
  exact ⟨a, vs, _, w, rfl, rfl, SqL.of hv', ew, post A1 F1 H1 w p1 s1 k1 rw'⟩
def gLenO (i : Nat) : M D := fun S => (ownOf S i).bind fun o => some (.int o.2.length, S)
theorem e_lenO (i : Nat) (hm : X.mg "len" = none) (hN : X.N[i]? = some y := by rfl) (hv : Vis X.env.scope y := by first | exact Or.inl rfl | exact Or.inr (Or.inl rfl) | exact Or.inr (Or.inr rfl)) (hdy : (y == ("__debug__" : Str)) = false := by decide) (hcd : (y == ("__classdict__" : Str)) = false := by decide)
    (hg : Gl X "len" := by rfl) (he : starEach [.Name y py] X.env = (false, eval (.Name y py) X.env) :: starEach [] X.env := by rfl) : GE X (.Call (.Name "len" p) [.Name y py] [] pos) (gLenO i) := by
  refine ⟨_, pe_callB call_len hg hm PySem.boot_len (pa_cons (pe_var hN hv hdy hcd) pa_nil he) (by decide) (by decide) he (by rfl), fun A F H S σ d S' Q k h post => ?_⟩
  obtain ⟨⟨j, cs⟩, e0, h⟩ := bind_inv h
  cases h
  obtain ⟨a, vs, _, _, ha, ev, _, hv', r, _⟩ := own_at k e0
  exact ⟨_, ev, _, _, rfl, .inl ⟨vs, SqL.of hv', r.length.symm⟩, post A F H _ (List.prefix_refl _) (Same.refl F) k (.int _)⟩
/-- own on the left, own on the right -/
def gOL (f : D → D → Option D) (i : Nat) (gb : M D) : M D := fun S => (ownOf S i).bind fun o => (gb S).bind fun p => (cellOf p.2 o.1).bind fun cs => match f (.list cs) p.1 with
  | some (.bool b) => some (.bool b, p.2)
  | _ => none
def gOR (f : D → D → Option D) (gb : M D) (i : Nat) : M D := fun S => (gb S).bind fun p => (ownOf p.2 i).bind fun o => match f p.1 (.list o.2) with
  | some (.bool b) => some (.bool b, p.2)
  | _ => none
/-! ### lists that are written: append, extend, pop, xs[k] = v -/
def setCell (S : Sx) (j : Nat) (cs : List D) : Sx := ⟨S.sl, S.os.set j (some (.lst cs))⟩
/-- xs.append(e), its value None -/
def gApp (i : Nat) (ge : M D) : M D := fun S => (ownOf S i).bind fun o => (ge S).bind fun p => (cellOf p.2 o.1).bind fun cs => if cs.length < sizeLine then some (.none, setCell p.2 o.1 (cs ++ [p.1])) else none
theorem e_append (i : Nat) (he : GE X e ge) (hN : X.N[i]? = some y := by rfl) (hv : Vis X.env.scope y := by first | exact Or.inl rfl | exact Or.inr (Or.inl rfl) | exact Or.inr (Or.inr rfl)) (hdy : (y == ("__debug__" : Str)) = false := by decide) (hcd : (y == ("__classdict__" : Str)) = false := by decide)
    (hbase : attributeBase (.Name y py) "append" X.env (eval (.Name y py) X.env) = eval (.Name y py) X.env := by rfl)
    (hfew : ((backTo pos (starEach [e] X.env)).all (fun x => !x.1) && (backToKw pos (keywordEach [] X.env)).all (fun x => x.1.isSome) && decide (([e] : List Expr).length + ([] : List Keyword).length + (if ([] : List Keyword).isEmpty then 0 else 1) < 30)) = true := by rfl)
    (hline : (apos.endLine == pos.line) = true := by rfl) (hst : starEach [e] X.env = (false, eval e X.env) :: starEach [] X.env := by rfl) : GE X (.Call (.Attribute (.Name y py) "append" apos) [e] [] pos) (gApp i ge) := by
  obtain ⟨t, pa, ra⟩ := he.ex
  refine ⟨_, pe_bm PySem.F.plainAttrs_list PySem.F.slot_list_append PySem.F.type_list_append mt_append (pe_var hN hv hdy hcd) (pa_cons pa pa_nil hst) hbase hfew hline hst (by rfl), fun A F H S σ d S' Q k h post => ?_⟩
  obtain ⟨⟨j, cs0⟩, e0, h⟩ := bind_inv h
  obtain ⟨⟨x, S1⟩, e1, h⟩ := bind_inv h
  obtain ⟨cs, e2, h⟩ := bind_inv h
  simp only at h
  split at h
  · rename_i hlt
    cases h
    obtain ⟨a, vs0, _, _, ha, ev, _, hv0, _, _⟩ := own_at k e0
    refine ⟨_, ev, .inl ⟨rfl, _, SqL.of hv0⟩, ra A F H S σ x S1 _ k e1 fun A1 F1 H1 v p1 s1 k1 r1 => ?_⟩
    obtain ⟨vs, ec, fa, hv', rr, hz⟩ := cell_at k1 e2 (prefix_at p1 ha)
    refine ⟨a, vs, v, rfl, rfl, hv', by rw [rr.length]; exact hlt, ?_⟩
    exact post A1 F1 _ _ p1 s1 (k1.cellSet ec (prefix_at p1 ha) trivial ⟨_, upd_same, rr.append (.cons r1 .nil), by rw [List.length_append]; exact hlt⟩) .non
  · cases h
def gExt (i : Nat) (ge : M D) : M D := fun S => (ownOf S i).bind fun o => (ge S).bind fun p => (cellOf p.2 o.1).bind fun cs => match p.1 with
  | .list xs => if cs.length + xs.length ≤ sizeLine then some (.none, setCell p.2 o.1 (cs ++ xs)) else none
  | _ => none
theorem e_extend (i : Nat) (he : GE X e ge) (hN : X.N[i]? = some y := by rfl) (hv : Vis X.env.scope y := by first | exact Or.inl rfl | exact Or.inr (Or.inl rfl) | exact Or.inr (Or.inr rfl)) (hdy : (y == ("__debug__" : Str)) = false := by decide) (hcd : (y == ("__classdict__" : Str)) = false := by decide)
    (hbase : attributeBase (.Name y py) "extend" X.env (eval (.Name y py) X.env) = eval (.Name y py) X.env := by rfl)
    (hfew : ((backTo pos (starEach [e] X.env)).all (fun x => !x.1) && (backToKw pos (keywordEach [] X.env)).all (fun x => x.1.isSome) && decide (([e] : List Expr).length + ([] : List Keyword).length + (if ([] : List Keyword).isEmpty then 0 else 1) < 30)) = true := by rfl)
    (hline : (apos.endLine == pos.line) = true := by rfl) (hst : starEach [e] X.env = (false, eval e X.env) :: starEach [] X.env := by rfl) : GE X (.Call (.Attribute (.Name y py) "extend" apos) [e] [] pos) (gExt i ge) := by
  obtain ⟨t, pa, ra⟩ := he.ex
  refine ⟨_, pe_bm PySem.F.plainAttrs_list PySem.F.slot_list_extend PySem.F.type_list_extend mt_extend (pe_var hN hv hdy hcd) (pa_cons pa pa_nil hst) hbase hfew hline hst (by rfl), fun A F H S σ d S' Q k h post => ?_⟩
  obtain ⟨⟨j, cs0⟩, e0, h⟩ := bind_inv h
  obtain ⟨⟨x, S1⟩, e1, h⟩ := bind_inv h
  obtain ⟨cs, e2, h⟩ := bind_inv h
  cases x <;> simp only at h <;> try cases h
  split at h
  · rename_i hlt
    cases h
    obtain ⟨a, vs0, _, _, ha, ev, _, hv0, _, _⟩ := own_at k e0
    refine ⟨_, ev, .inl ⟨rfl, _, SqL.of hv0⟩, ra A F H S σ _ S1 _ k e1 fun A1 F1 H1 v p1 s1 k1 r1 => ?_⟩
    obtain ⟨vs, ec, fa, hv', rr, hz⟩ := cell_at k1 e2 (prefix_at p1 ha)
    obtain ⟨b, us, rfl, g1, g2, g3⟩ := rp_list_inv r1
    refine ⟨a, b, vs, us, rfl, rfl, hv', k1.sub.same _ _ g1, by rw [rr.length, g2.length]; exact hlt, ?_⟩
    exact post A1 F1 _ _ p1 s1 (k1.cellSet ec (prefix_at p1 ha) trivial ⟨_, upd_same, rr.append g2, by rw [List.length_append]; exact hlt⟩) .non
  · cases h
def gPopAt (i : Nat) (ge : M D) : M D := fun S => (ownOf S i).bind fun o => (ge S).bind fun p => (cellOf p.2 o.1).bind fun cs => match p.1 with
  | .int n => if 0 ≤ n ∧ n < cs.length then (cs[n.toNat]?).bind fun d => some (d, setCell p.2 o.1 (cs.eraseIdx n.toNat)) else none
  | _ => none
theorem e_popAt (i : Nat) (he : GE X e ge) (hN : X.N[i]? = some y := by rfl) (hv : Vis X.env.scope y := by first | exact Or.inl rfl | exact Or.inr (Or.inl rfl) | exact Or.inr (Or.inr rfl)) (hdy : (y == ("__debug__" : Str)) = false := by decide) (hcd : (y == ("__classdict__" : Str)) = false := by decide)
    (hbase : attributeBase (.Name y py) "pop" X.env (eval (.Name y py) X.env) = eval (.Name y py) X.env := by rfl)
    (hfew : ((backTo pos (starEach [e] X.env)).all (fun x => !x.1) && (backToKw pos (keywordEach [] X.env)).all (fun x => x.1.isSome) && decide (([e] : List Expr).length + ([] : List Keyword).length + (if ([] : List Keyword).isEmpty then 0 else 1) < 30)) = true := by rfl)
    (hline : (apos.endLine == pos.line) = true := by rfl) (hst : starEach [e] X.env = (false, eval e X.env) :: starEach [] X.env := by rfl) : GE X (.Call (.Attribute (.Name y py) "pop" apos) [e] [] pos) (gPopAt i ge) := by
  obtain ⟨t, pa, ra⟩ := he.ex
  refine ⟨_, pe_bm PySem.F.plainAttrs_list PySem.F.slot_list_pop PySem.F.type_list_pop mt_popAt (pe_var hN hv hdy hcd) (pa_cons pa pa_nil hst) hbase hfew hline hst (by rfl), fun A F H S σ d S' Q k h post => ?_⟩
  obtain ⟨⟨j, cs0⟩, e0, h⟩ := bind_inv h
  obtain ⟨⟨x, S1⟩, e1, h⟩ := bind_inv h
  obtain ⟨cs, e2, h⟩ := bind_inv h
  cases x with
  | int n =>
    simp only at h
    split at h
    · rename_i hn
      obtain ⟨d', e3, h⟩ := bind_inv h
      cases h
      obtain ⟨a, vs0, _, _, ha, ev, _, hv0, _, _⟩ := own_at k e0
      refine ⟨_, ev, .inl ⟨rfl, _, SqL.of hv0⟩, ra A F H S σ _ S1 _ k e1 fun A1 F1 H1 v p1 s1 k1 r1 => ?_⟩
      obtain ⟨vs, ec, fa, hv', rr, hz⟩ := cell_at k1 e2 (prefix_at p1 ha)
      cases rp_int_inv r1
      obtain ⟨w, ew, rw'⟩ := rr.get e3
      have hl := line_int
      refine ⟨a, vs, n, n.toNat, w, rfl, rfl, hv', by omega, by omega, seqIndex_of hn.1 (by rw [rr.length]; exact hn.2), ew, ?_⟩
      refine post A1 F1 _ w p1 s1 (k1.cellSet ec (prefix_at p1 ha) trivial ⟨_, upd_same, rr.erase _, ?_⟩) rw'
      have := len_erase cs n.toNat
      omega
    · cases h
  | _ => cases h
/-- xs[k] = v -/
def qSetO (i : Nat) (gb ge : M D) : Sx → Option Out := fun S => (ge S).bind fun p => (ownOf p.2 i).bind fun o => (gb p.2).bind fun q => match q.1 with
  | .int n => (cellOf q.2 o.1).bind fun cs => (ixN cs.length n).bind fun m => some (.nx (setCell q.2 o.1 (cs.set m p.1)))
  | _ => none
theorem s_setO {spos : Pos} (i : Nat) (hb : GE X b gb) (he : GE X e ge) (hN : X.N[i]? = some y := by rfl) (hv : Vis X.env.scope y := by first | exact Or.inl rfl | exact Or.inr (Or.inl rfl) | exact Or.inr (Or.inr rfl)) (hdy : (y == ("__debug__" : Str)) = false := by decide) (hcd : (y == ("__classdict__" : Str)) = false := by decide)
    (ha : ∀ v, assign (.Subscript (.Name y py) b pos) X.env v = (do
      let ov ← holding [v] (eval (.Name y py) X.env)
      let iv ← holding [v, ov] (eval b X.env)
      standAt pos
      holding [v, ov, iv] (setItem ov iv v)
      release [v, ov, iv] []) := by intro _; rfl)
    (hs : swapsWithSole [.Subscript (.Name y py) b pos] e spos.line X.env = pure false := by rfl) (hw : swappedStores [.Subscript (.Name y py) b pos] e X.env = pure none := by rfl)
    (h1 : (assignEach [.Subscript (.Name y py) b pos] X.env).map (·.2) = [assign (.Subscript (.Name y py) b pos) X.env] := by rfl) : GS X P (.Assign [.Subscript (.Name y py) b pos] e spos) (qSetO i gb ge) := by
  obtain ⟨t, pe, re⟩ := he.ex
  obtain ⟨u, pb, rb⟩ := hb.ex
  refine ⟨_, ps_asg pe (pg_sub (pe_var hN hv hdy hcd) pb set_list ha) hs hw h1, fun B A0 A F H S σ o E hP s p k h post => ?_⟩
  obtain ⟨⟨d, S1⟩, e1, h⟩ := bind_inv h
  obtain ⟨⟨j, cs0⟩, e0, h⟩ := bind_inv h
  obtain ⟨⟨x, S2⟩, e2, h⟩ := bind_inv h
  cases x <;> simp only at h <;> try cases h
  rename_i n
  obtain ⟨cs, e3, h⟩ := bind_inv h
  obtain ⟨m, e4, h⟩ := bind_inv h
  cases h
  refine re A F H S σ d S1 _ k e1 fun A1 F1 H1 v p1 s1 k1 r1 => ?_
  obtain ⟨a, vs0, _, _, ha', ev, _, hv0, _, _⟩ := own_at k1 e0
  refine ⟨_, ev, rb A1 F1 H1 S1 σ _ S2 _ k1 e2 fun A2 F2 H2 w p2 s2 k2 r2 => ?_⟩
  cases rp_int_inv r2
  obtain ⟨vs, ec, fa, hv', rr, hz⟩ := cell_at k2 e3 (prefix_at p2 ha')
  refine ⟨a, vs, n, m, rfl, rfl, hv', by rw [rr.length]; exact e4, ?_⟩
  exact post A2 F2 _ _ (s.trans (s1.trans s2)) (p.trans (p1.trans p2)) (k2.cellSet ec (prefix_at p2 ha') trivial ⟨_, upd_same, Rps.set _ (r1.mono s2 _ _) rr, by rw [List.length_set]; exact hz⟩)

/-! ### x += e of numbers -/
end

/-! ### loops -/
def gLoop (gg : D → Sx → Option Sx) (body : Sx → Option Out) : List D → Sx → Option Out
  | [], S => some (.nx S)
  | d :: ds, S => (gg d S).bind fun S1 => (body S1).bind fun o => match o with
    | .nx S2 => gLoop gg body ds S2
    | .ct S2 => gLoop gg body ds S2
    | .bk S2 => some (.nx S2)
    | .rt d S2 => some (.rt d S2)
    | .ro j S2 => some (.ro j S2)
def qFor (gi : M (List D)) (gg : D → Sx → Option Sx) (body : Sx → Option Out) : Sx → Option Out := fun S => (gi S).bind fun p => gLoop gg body p.1 p.2
section
variable {K : PySem.W.Frag} {P : Hp → Prop}
/-- the loop, its walk over a heap W that B holds -/
theorem rd_loop {g : TG} {tb : TS} {gg : D → Sx → Option Sx} {body : Sx → Option Out} {tgt : List Nat} (hg : RdG K tgt g gg) (hb : RdS K P tb body) {B W : Hp} {A0 : List Addr} {J : It} {ds : List D} {E : Ends} {o : Out} (hP : P B) (w : Walk K W J ds) (hW : Same W B)
    (post : OutP K B A0 o E) {A : List Addr} {F H : Hp} {S : Sx} {σ : L2.St} (s : Same B F) (p : A0 <+: A) (k : Ok K A F H S σ) (e : gLoop gg body ds S = some o) :
    ∃ Wi : Nat → Nat → L2.St → Hp → Prop, (∃ m, Wi 0 m σ H) ∧ ∀ i m σ H, Wi i m σ H →
      (J.stop i H ∧ E.nx σ H) ∨ (J.go i H ∧ ∃ N : L2.St → Hp → Prop, (∀ σ' H', N σ' H' → ∃ m', m' < m ∧ Wi (i + 1) m' σ' H') ∧ ∀ x H', J.yld i H x H' → g x σ H' fun σ2 H2 => tb { E with nx := N, ct := N, bk := E.nx } σ2 H2) := by
  refine ⟨fun i m σ H => m = ds.length - i ∧ i ≤ ds.length ∧ ∃ A F S, Same B F ∧ A0 <+: A ∧ Ok K A F H S σ ∧ gLoop gg body (ds.drop i) S = some o, ⟨ds.length, by simp, Nat.zero_le _, A, F, S, s, p, k, by simpa using e⟩, ?_⟩
  rintro i m σ1 H1 ⟨rfl, hil, A1, F1, S1, s1, p1, k1, e1⟩
  have sWH : Same W H1 := (hW.trans s1).trans k1.sub.same
  by_cases hlt : i < ds.length
  · refine .inr ⟨w.go i _ sWH hlt, fun σ' H' => i + 1 ≤ ds.length ∧ ∃ A F S, Same B F ∧ A0 <+: A ∧ Ok K A F H' S σ' ∧ gLoop gg body (ds.drop (i + 1)) S = some o, fun σ' H' h => ⟨ds.length - (i + 1), by omega, rfl, h⟩, fun x H' hy => ?_⟩
    rw [List.drop_eq_getElem_cons hlt] at e1
    obtain ⟨S2, e2, e1⟩ := bind_inv (show (gg ds[i] S1).bind _ = _ from e1)
    obtain ⟨o2, e3, e1⟩ := bind_inv e1
    have key : ∃ F2, Same F1 F2 ∧ Ok K A1 F2 H' S1 σ1 ∧ Rp K F2 x ds[i] := by
      rcases w.yld i ds[i] _ x H' sWH (List.getElem?_eq_getElem hlt) hy with ⟨rfl, r⟩ | ⟨T, ws, es, rfl, hT, rfl, ed, r, hz2⟩
      · exact ⟨F1, Same.refl _, k1, (r.mono hW _ _).mono s1 _ _⟩
      · obtain ⟨s3, k3, r3⟩ := k1.newTup hT (Rps.mono s1 _ _ (Rps.mono hW _ _ r)) hz2
        exact ⟨_, s3, k3, by rw [ed]; exact r3⟩
    obtain ⟨F2, s2, k2, rx⟩ := key
    refine hg A1 F2 H' S1 σ1 x ds[i] S2 _ k2 rx e2 fun A3 F3 H3 σ3 p3 s3 k3 _ => ?_
    refine hb B A0 A3 F3 H3 S2 σ3 o2 _ hP (s1.trans (s2.trans s3)) (p1.trans p3) k3 e3 ?_
    cases o2 with
    | nx S4 => exact fun A4 F4 H4 σ4 s4 p4 k4 => ⟨hlt, A4, F4, S4, s4, p4, k4, e1⟩
    | ct S4 => exact fun A4 F4 H4 σ4 s4 p4 k4 => ⟨hlt, A4, F4, S4, s4, p4, k4, e1⟩
    | bk S4 => cases e1; exact post
    | rt d S4 => cases e1; exact post
    | ro j S4 => cases e1; exact post
  · have ei : i = ds.length := by omega
    subst ei
    rw [List.drop_length] at e1
    cases e1
    exact .inl ⟨w.stop _ _ sWH (Nat.le_refl _), post A1 F1 H1 σ1 s1 p1 k1⟩
end
section
variable {X : Cx} {P : Hp → Prop} {pos : Pos} {tg iter : Expr} {body : List Stmt} {gi : M (List D)} {gg : D → Sx → Option Sx} {g : Sx → Option Out} {tgt : List Nat}
theorem same_outp {K : PySem.W.Frag} {B B' : Hp} {A0 A0' : List Addr} {o : Out} {E : Ends} (s : Same B B') (p : A0 <+: A0') (h : OutP K B A0 o E) : OutP K B' A0' o E := by
  cases o with
  | nx S => exact fun A F H σ s1 p1 k => h A F H σ (s.trans s1) (p.trans p1) k
  | rt d S => exact fun A F H σ v s1 p1 k => h A F H σ v (s.trans s1) (p.trans p1) k
  | bk S => exact fun A F H σ s1 p1 k => h A F H σ (s.trans s1) (p.trans p1) k
  | ct S => exact fun A F H σ s1 p1 k => h A F H σ (s.trans s1) (p.trans p1) k
  | ro j S => exact fun A F H σ a s1 p1 k => h A F H σ a (s.trans s1) (p.trans p1) k
/-- over data that stand: the body may be judged over any base -/
theorem s_for (hp : PassesOwn (model X.prog X.w) X.A X.env X.xe) (hi : GI X tg iter gi) (hg : GG X tgt tg gg) (hb : GSs X P body g) (hPall : ∀ B, P B) (hc : X.calm = true := by rfl) (hs : ∀ x, foldedSetIterable iter X.env x = pure x := by intro _; rfl) : GS X P (.For tg iter body [] pos) (qFor gi gg g) := by
  obtain ⟨t, pi, ri⟩ := hi.ex
  obtain ⟨u, pg, rg⟩ := hg.ex
  obtain ⟨v, pb, rb⟩ := hb.ex
  refine ⟨_, ps_for hp hc pi pg pb hs, fun B A0 A F H S σ o E hP s p k e post => ?_⟩
  obtain ⟨⟨ds, S1⟩, e1, e⟩ := bind_inv e
  exact ri A F H S σ ds S1 _ k e1 fun A1 F1 H1 J p1 s1 k1 w _ => rd_loop rg rb (hPall F1) w (Same.refl F1) (same_outp (s.trans s1) p post) (Same.refl F1) (p1) k1 e
/-- over numbers -/
theorem s_for0 (hp : PassesOwn (model X.prog X.w) X.A X.env X.xe) (hi : GI0 X tg iter gi) (hg : GG X tgt tg gg) (hb : GSs X P body g) (hc : X.calm = true := by rfl) (hs : ∀ x, foldedSetIterable iter X.env x = pure x := by intro _; rfl) : GS X P (.For tg iter body [] pos) (qFor gi gg g) := by
  obtain ⟨t, pi, ri⟩ := hi.ex
  obtain ⟨u, pg, rg⟩ := hg.ex
  obtain ⟨v, pb, rb⟩ := hb.ex
  refine ⟨_, ps_for hp hc pi pg pb hs, fun B A0 A F H S σ o E hP s p k e post => ?_⟩
  obtain ⟨⟨ds, S1⟩, e1, e⟩ := bind_inv e
  exact ri A F H S σ ds S1 _ k e1 fun A1 F1 H1 J p1 s1 k1 w => rd_loop rg rb hP w (fun b o q => nomatch q) post (s.trans s1) (p.trans p1) k1 e
end
end Fu

set_option maxHeartbeats 4000000
namespace Fu
open PySem PySem.Spec PyProof.Rows L2 RZ

/-! ### defs -/
def initS (n : Nat) (ds : List D) : List (Option R) := ds.map (fun d => some (.dat d)) ++ List.replicate (n - ds.length) none
/-- a def's value by data -/
def mF (n : Nat) (g : Sx → Option Out) : List D → Option D := fun ds => (g ⟨initS n ds, []⟩).bind fun o => match o with
  | .nx _ => some .none
  | .rt d _ => some d
  | _ => none
/-- .. where the first argument is a list that it writes -/
def mIO (n : Nat) (g : Sx → Option Out) : List D → List D → Option (D × List D) := fun cs ds => (g ⟨some (.own 0) :: initS (n - 1) ds, [some (.lst cs)]⟩).bind fun o => match o with
  | .nx S => (cellOf S 0).bind fun c => some (.none, c)
  | .rt d S => (cellOf S 0).bind fun c => some (d, c)
  | _ => none
theorem initS_in {n : Nat} {ds : List D} {i : Nat} {r : R} (h : (initS n ds)[i]? = some (some r)) : ∃ d, ds[i]? = some d ∧ r = .dat d := by
  unfold initS at h
  by_cases hi : i < ds.length
  · rw [List.getElem?_append_left (by simpa using hi), List.getElem?_map] at h
    obtain ⟨d', e1, e2⟩ := Option.map_eq_some_iff.mp h
    cases e2
    exact ⟨d', e1, rfl⟩
  · rw [List.getElem?_append_right (by simp; omega)] at h
    have := List.mem_of_getElem? h
    rw [List.mem_replicate] at this
    exact nomatch this.2
theorem start_at {N : List Str} {vs : List V} {i : Nat} {v : V} (h : vs[i]? = some v) : (L2.start N vs)[i]? = some (some v) := by
  unfold L2.start
  rw [List.getElem?_append_left (by rw [List.length_map]; exact (List.getElem?_eq_some_iff.mp h).1), List.getElem?_map, h]
  rfl
theorem start_dat {K : PySem.W.Frag} {H : Hp} {N : List Str} {vs : List V} {ds : List D} (r : Rps K H vs ds) (hl : vs.length ≤ N.length) {H' : Hp} (s : Sub H H') : Ok K [] H H' ⟨initS N.length ds, []⟩ (L2.start N vs) := by
  refine ⟨s, ?_, rfl, List.nodup_nil, fun i q h => ?_, fun j c h => by simp at h, fun a h => by simp at h⟩
  · simp [initS, L2.start, r.length]
  · obtain ⟨d, e1, rfl⟩ := initS_in h
    obtain ⟨v, ev, rv⟩ := r.get e1
    exact ⟨v, start_at ev, .dat rv⟩
section
variable {P : Program} {w : World} {K : PySem.W.Frag} {mg : Str → Option Value} {base : Heap} {x qual : Str} {st : Stmt} {f : Addr} {fd : FuncData} {N ps : List Str} {k n : Nat} {g : Sx → Option Out}
abbrev AnyB : Hp → Prop := fun _ => True
/-- the context of the def's body -/
abbrev cxF (P : Program) (w : World) (K : PySem.W.Frag) (mg : Str → Option Value) (base : Heap) (N : List Str) (qual : Str) (st : Stmt) (f : Addr) (cdv : Value) (A : Around) (outer : List Env) (s : Shared) (H : Hp) (E : XK) : Cx := (cxOf CX0 P w K mg base N qual (defScope st) f cdv A outer s H E).nox
theorem fn_pure (F : Fun K x qual st f fd) (S : FnScope N ps (defScope st)) (hn : ps.length = n) (hN : n ≤ N.length)
    (body : ∀ (cdv : Value) (A : Around) (outer : List Env) (s : Shared) (H : Hp) (E : XK), Room k (A.deeper (envOfC qual (defScope st) s.heap.objs.size f cdv)) → GSs (cxF P w K mg base N qual st f cdv A outer s H E) AnyB (defBody st) g) :
    FnOk P w K mg base CX0 (k + 1) f fd ps (spF K n (mF N.length g)) := by
  refine F.ok S (spF_len hn) fun cdv A outer s H vs Q E hr h => ?_
  obtain ⟨ds, z, hd, r, e, post⟩ := h
  obtain ⟨t, p, rd⟩ := (body cdv A outer s H E hr).ex
  refine ⟨t, p, ?_⟩
  obtain ⟨o, e1, e⟩ := bind_inv e
  have hl : vs.length ≤ N.length := by rw [r.length, hd]; exact hN
  refine rd H [] [] H H _ (L2.start N vs) o _ trivial (Same.refl H) (List.prefix_refl _) (start_dat r hl (Sub.refl H)) e1 ?_
  cases o with
  | nx S => cases e; exact fun A1 F1 H1 σ1 s1 p1 k1 => post H1 .non (s1.trans k1.sub.same) .non
  | rt d S => cases e; exact fun A1 F1 H1 σ1 v s1 p1 k1 rv => post H1 v (s1.trans k1.sub.same) (rv.mono k1.sub.same _ _)
  | bk S => cases e
  | ct S => cases e
  | ro j S => cases e
theorem start_own {K : PySem.W.Frag} {F : Hp} {N : List Str} {a : Addr} {xs vs : List V} {cs ds : List D} (fa : F a = none) (rc : Rps K F xs cs) (hz : cs.length ≤ sizeLine) (r : Rps K F vs ds) (hl : vs.length + 1 ≤ N.length) :
    Ok K [a] F (upd F a (.lst xs)) ⟨some (.own 0) :: initS (N.length - 1) ds, [some (.lst cs)]⟩ (L2.start N (.ref a :: vs)) := by
  obtain ⟨m, M, rfl⟩ : ∃ m M, N = m :: M := by
    cases N with
    | nil => simp at hl
    | cons m M => exact ⟨m, M, rfl⟩
  have hl' : vs.length ≤ M.length := by simpa using hl
  have k := start_dat (N := M) r hl' (sub_one fa (o := .lst xs) trivial)
  have es : L2.start (m :: M) (.ref a :: vs) = some (.ref a) :: L2.start M vs := by
    unfold L2.start
    simp
  rw [es]
  simp only [List.length_cons, Nat.add_sub_cancel]
  refine ⟨k.sub, by simpa using k.len, rfl, by simp, fun i r h => ?_, fun j c h => ?_, fun b h => ?_⟩
  · cases i with
    | zero =>
      simp at h
      subst h
      exact ⟨_, rfl, .own rfl⟩
    | succ i =>
      obtain ⟨v, e1, r1⟩ := k.rslot i r (by simpa using h)
      exact ⟨v, by simpa using e1, r1.mono (List.nil_prefix) (Same.refl _) _ _⟩
  · cases j with
    | zero =>
      simp at h
      subst h
      exact ⟨a, rfl, fa, xs, upd_same, rc, hz⟩
    | succ j => simp at h
  · simp at h
    subst h
    exact ⟨_, upd_same⟩
theorem fn_io (F : Fun K x qual st f fd) (S : FnScope N ps (defScope st)) (hn : ps.length = n + 1) (hN : n + 1 ≤ N.length)
    (body : ∀ (cdv : Value) (A : Around) (outer : List Env) (s : Shared) (H : Hp) (E : XK), Room k (A.deeper (envOfC qual (defScope st) s.heap.objs.size f cdv)) → GSs (cxF P w K mg base N qual st f cdv A outer s H E) AnyB (defBody st) g) :
    FnOk P w K mg base CX0 (k + 1) f fd ps (spIO K n (mIO N.length g)) := by
  refine F.ok S (spIO_len hn) fun cdv A outer s H vs Q E hr h => ?_
  obtain ⟨a, xs, rest, F0, cs, ds, r, cs', rfl, fa, rfl, hz, rc, rr, hd, e, post⟩ := h
  obtain ⟨t, p, rd⟩ := (body cdv A outer s _ E hr).ex
  refine ⟨t, p, ?_⟩
  obtain ⟨o, e1, e⟩ := bind_inv e
  have hl : rest.length + 1 ≤ N.length := by rw [rr.length, hd]; exact hN
  have fin : ∀ (A1 : List Addr) (F1 H1 : Hp) (σ1 : L2.St) (S1 : Sx) (v : V) (d : D) (c : List D), Same F0 F1 → [a] <+: A1 → Ok K A1 F1 H1 S1 σ1 → Rp K F1 v d → cellOf S1 0 = some c → (d, c) = (r, cs') → Q v H1 := by
    intro A1 F1 H1 σ1 S1 v d c s1 p1 k1 rv hc ee
    cases ee
    have ha : A1[0]? = some a := prefix_at p1 rfl
    obtain ⟨us, ec, fa1, hv, rc1, hz1⟩ := cell_at k1 hc ha
    have s2 : Same F1 (fun b => if b = a then none else H1 b) := fun b o q => by
      show (if b = a then none else H1 b) = some o
      rw [if_neg (ne_of_none q fa1)]
      exact k1.sub.same b o q
    have := post (fun b => if b = a then none else H1 b) us v (s1.trans s2) (if_pos rfl) (Rps.mono s2 _ _ rc1) hz1 (rv.mono s2 _ _)
    rwa [show upd (fun b => if b = a then none else H1 b) a (.lst us) = H1 from ?_] at this
    funext b
    by_cases hb : b = a
    · subst hb; rw [upd_same, hv]
    · rw [upd_ne hb]; exact if_neg hb
  refine rd F0 [a] [a] F0 _ _ _ o _ trivial (Same.refl F0) (List.prefix_refl _) (start_own fa rc hz rr hl) e1 ?_
  cases o with
  | nx S =>
    obtain ⟨c, hc, e⟩ := bind_inv e
    exact fun A1 F1 H1 σ1 s1 p1 k1 => fin A1 F1 H1 σ1 S .non .none c s1 p1 k1 .non hc (by cases e; rfl)
  | rt d S =>
    obtain ⟨c, hc, e⟩ := bind_inv e
    exact fun A1 F1 H1 σ1 v s1 p1 k1 rv => fin A1 F1 H1 σ1 S v d c s1 p1 k1 rv hc (by cases e; rfl)
  | bk S => cases e
  | ct S => cases e
  | ro j S => cases e
end
theorem hu65 {A : Around} {k : Nat} (hr : Room k A) : A.units + 65 < cLine := by have := hr.un; omega


/-! ### defs that hand back a new list -/
def spN (K : PySem.W.Frag) (n : Nat) (f : List D → Option (List D)) : Sp := fun vs H Q _ => ∃ ds zs, ds.length = n ∧ Rps K H vs ds ∧ f ds = some zs ∧
  ∀ F p us, Same H F → F p = none → Rps K F us zs → zs.length ≤ sizeLine → Q (.ref p) (upd F p (.lst us))
theorem spN_len {K : PySem.W.Frag} {n : Nat} {f : List D → Option (List D)} {ps : List Str} (h : ps.length = n) : ∀ vs H Q E, spN K n f vs H Q E → vs.length = ps.length := by
  intro vs H Q E ⟨ds, z, e, r, _⟩
  rw [r.length, e, h]
def mN (n : Nat) (g : Sx → Option Out) : List D → Option (List D) := fun ds => (g ⟨initS n ds, []⟩).bind fun o => match o with
  | .ro j S => cellOf S j
  | _ => none
/-- the heap without the list at a -/
def lessH (H : Hp) (a : Addr) : Hp := fun b => if b = a then none else H b
theorem less_upd {H : Hp} {a : Addr} {o : HO} (h : H a = some o) : upd (lessH H a) a o = H := by
  funext b
  by_cases hb : b = a
  · subst hb; rw [upd_same, h]
  · rw [upd_ne hb]; exact if_neg hb
theorem less_same {K : PySem.W.Frag} {A : List Addr} {F H : Hp} {S : Sx} {σ : L2.St} (k : Ok K A F H S σ) {a : Addr} (fa : F a = none) : Same F (lessH H a) := fun b o q => by
  show (if b = a then none else H b) = some o
  rw [if_neg (ne_of_none q fa)]
  exact k.sub.same b o q
section
variable {P : Program} {w : World} {K : PySem.W.Frag} {mg : Str → Option Value} {base : Heap} {x qual : Str} {st : Stmt} {f : Addr} {fd : FuncData} {N ps : List Str} {k n : Nat} {g : Sx → Option Out}
theorem fn_new (F : Fun K x qual st f fd) (S : FnScope N ps (defScope st)) (hn : ps.length = n) (hN : n ≤ N.length)
    (body : ∀ (cdv : Value) (A : Around) (outer : List Env) (s : Shared) (H : Hp) (E : XK), Room k (A.deeper (envOfC qual (defScope st) s.heap.objs.size f cdv)) → GSs (cxF P w K mg base N qual st f cdv A outer s H E) AnyB (defBody st) g) :
    FnOk P w K mg base CX0 (k + 1) f fd ps (spN K n (mN N.length g)) := by
  refine F.ok S (spN_len hn) fun cdv A outer s H vs Q E hr h => ?_
  obtain ⟨ds, zs, hd, r, e, post⟩ := h
  obtain ⟨t, p, rd⟩ := (body cdv A outer s H E hr).ex
  refine ⟨t, p, ?_⟩
  obtain ⟨o, e1, e⟩ := bind_inv e
  have hl : vs.length ≤ N.length := by rw [r.length, hd]; exact hN
  refine rd H [] [] H H _ (L2.start N vs) o _ trivial (Same.refl H) (List.prefix_refl _) (start_dat r hl (Sub.refl H)) e1 ?_
  cases o with
  | nx S => cases e
  | rt d S => cases e
  | bk S => cases e
  | ct S => cases e
  | ro j S =>
    intro A1 F1 H1 σ1 a s1 p1 k1 ha
    obtain ⟨us, ec, fa, hv, rc, hz⟩ := cell_at k1 e ha
    have := post (lessH H1 a) a us (s1.trans (less_same k1 fa)) (if_pos rfl) (Rps.mono (less_same k1 fa) _ _ rc) hz
    rwa [less_upd hv] at this
end
def gCallN (n : Nat) (f : List D → Option (List D)) (g : M (List D)) : M D := fun S => (g S).bind fun p => if p.1.length = n then (f p.1).bind fun z => some (.list z, p.2) else none

/-! ### the script -/
section
variable {X : Cx} {pos p p2 py : Pos} {y : Str} {lo hi : Option Expr} {gl gh : M (Option Int)}
def scrOf (S : Sx) (i : Nat) : Option (List Int) := match S.sl[i]? with
  | some (some (.scr ns)) => some ns
  | _ => none
theorem scr_at {K : PySem.W.Frag} {A : List Addr} {F H : Hp} {S : Sx} {σ : L2.St} {i : Nat} {ns : List Int} (k : Ok K A F H S σ) (h : scrOf S i = some ns) : ns.length ≤ 63 ∧ ∃ a, σ[i]? = some (some (.ref a)) ∧ SqL K F a (ns.map V.int) := by
  unfold scrOf at h
  split at h
  · rename_i ns' e
    cases h
    exact k.sslot i _ e
  · cases h
def gScrSl (i : Nat) (gl gh : M (Option Int)) : M D := fun S => (scrOf S i).bind fun ns => (gl S).bind fun q => (gh q.2).bind fun r => some (.list ((cutL ns q.1 r.1).map .int), r.2)
def gScrLen (i : Nat) : M D := fun S => (scrOf S i).bind fun ns => some (.int ns.length, S)
theorem e_scrLen (i : Nat) (hm : X.mg "len" = none) (hN : X.N[i]? = some y := by rfl) (hv : Vis X.env.scope y := by first | exact Or.inl rfl | exact Or.inr (Or.inl rfl) | exact Or.inr (Or.inr rfl)) (hdy : (y == ("__debug__" : Str)) = false := by decide) (hcd : (y == ("__classdict__" : Str)) = false := by decide)
    (hg : Gl X "len" := by rfl) (he : starEach [.Name y py] X.env = (false, eval (.Name y py) X.env) :: starEach [] X.env := by rfl) : GE X (.Call (.Name "len" p) [.Name y py] [] pos) (gScrLen i) := by
  refine ⟨_, pe_callB call_len hg hm PySem.boot_len (pa_cons (pe_var hN hv hdy hcd) pa_nil he) (by decide) (by decide) he (by rfl), fun A F H S σ d S' Q k h post => ?_⟩
  obtain ⟨ns, e0, h⟩ := bind_inv h
  cases h
  obtain ⟨hz, a, ev, hs⟩ := scr_at k e0
  exact ⟨_, ev, _, _, rfl, .inl ⟨_, k.sub.same.seq hs, (List.length_map _).symm⟩, post A F H _ (List.prefix_refl _) (Same.refl F) k (.int _)⟩
end
/-- a def of the script that hands back a new list -/
def spScrN (K : PySem.W.Frag) (f : List Int → Option (List D)) : Sp := fun vs H Q _ => ∃ a ns zs, vs = [.ref a] ∧ SqL K H a (ns.map V.int) ∧ ns.length ≤ 63 ∧ f ns = some zs ∧
  ∀ F p us, Same H F → F p = none → Rps K F us zs → zs.length ≤ sizeLine → Q (.ref p) (upd F p (.lst us))
def mScrN (n : Nat) (g : Sx → Option Out) : List Int → Option (List D) := fun ns => (g ⟨some (.scr ns) :: List.replicate (n - 1) none, []⟩).bind fun o => match o with
  | .ro j S => cellOf S j
  | _ => none
/-- the law: True -/
def mScr (n : Nat) (g : Sx → Option Out) : List Int → Option D := fun ns => (g ⟨some (.scr ns) :: List.replicate (n - 1) none, []⟩).bind fun o => match o with
  | .rt d _ => some d
  | _ => none
/-- nothing that is written stands there -/
def NoLst (B : Hp) : Prop := ∀ b xs, B b ≠ some (.lst xs)
def spLaw (K : PySem.W.Frag) (f : List Int → Option D) : Sp := fun vs H Q _ => ∃ a ns, vs = [.ref a] ∧ SqL K H a (ns.map V.int) ∧ ns.length ≤ 63 ∧ NoLst H ∧ f ns = some (.bool true) ∧ ∀ H', Q (.bl true) H'
theorem start_scr {K : PySem.W.Frag} {H : Hp} {N : List Str} {a : Addr} {ns : List Int} (h : SqL K H a (ns.map V.int)) (hz : ns.length ≤ 63) (hN : 1 ≤ N.length) : Ok K [] H H ⟨some (.scr ns) :: List.replicate (N.length - 1) none, []⟩ (L2.start N [.ref a]) := by
  refine ⟨Sub.refl H, ?_, rfl, List.nodup_nil, fun i r e => ?_, fun j c e => by simp at e, fun b e => by simp at e⟩
  · simp [L2.start]
  · cases i with
    | zero =>
      simp at e
      subst e
      exact ⟨_, rfl, .scr hz h⟩
    | succ i =>
      have := List.mem_of_getElem? (show (List.replicate (N.length - 1) (none : Option R))[i]? = some (some r) by simpa using e)
      rw [List.mem_replicate] at this
      exact nomatch this.2
section
variable {P : Program} {w : World} {K : PySem.W.Frag} {mg : Str → Option Value} {base : Heap} {x qual : Str} {st : Stmt} {f : Addr} {fd : FuncData} {N ps : List Str} {k n : Nat} {g : Sx → Option Out}
theorem fn_scrN (F : Fun K x qual st f fd) (S : FnScope N ps (defScope st)) (hn : ps.length = 1) (hN : 1 ≤ N.length)
    (body : ∀ (cdv : Value) (A : Around) (outer : List Env) (s : Shared) (H : Hp) (E : XK), Room k (A.deeper (envOfC qual (defScope st) s.heap.objs.size f cdv)) → GSs (cxF P w K mg base N qual st f cdv A outer s H E) AnyB (defBody st) g) :
    FnOk P w K mg base CX0 (k + 1) f fd ps (spScrN K (mScrN N.length g)) := by
  refine F.ok S (fun vs H Q E h => by obtain ⟨a, ns, zs, rfl, _⟩ := h; exact hn.symm) fun cdv A outer s H vs Q E hr h => ?_
  obtain ⟨a, ns, zs, rfl, hs, hz, e, post⟩ := h
  obtain ⟨t, p, rd⟩ := (body cdv A outer s H E hr).ex
  refine ⟨t, p, ?_⟩
  obtain ⟨o, e1, e⟩ := bind_inv e
  refine rd H [] [] H H _ _ o _ trivial (Same.refl H) (List.prefix_refl _) (start_scr hs hz hN) e1 ?_
  cases o with
  | nx S => cases e
  | rt d S => cases e
  | bk S => cases e
  | ct S => cases e
  | ro j S =>
    intro A1 F1 H1 σ1 a s1 p1 k1 ha
    obtain ⟨us, ec, fa, hv, rc, hz⟩ := cell_at k1 e ha
    have := post (lessH H1 a) a us (s1.trans (less_same k1 fa)) (if_pos rfl) (Rps.mono (less_same k1 fa) _ _ rc) hz
    rwa [less_upd hv] at this
end

/-! ### a def by its name -/
def Has (P : Program) (w : World) (K : PySem.W.Frag) (mg : Str → Option Value) (base : Heap) (x : Str) (k : Nat) (ps : List Str) (sp : Sp) : Prop :=
  ∃ f fd, mg x = some (.ref f) ∧ PySem.W.keepIn K (.ref f) = true ∧ L2.Binds K fd ps [] ∧ FnOk P w K mg base CX0 k f fd ps sp
def DefAt (K : PySem.W.Frag) (mg : Str → Option Value) (x : Str) (st : Stmt) (ps : List Str) : Prop := ∃ f fd, mg x = some (.ref f) ∧ Fun K x x st f fd ∧ L2.Binds K fd ps []
theorem Has.imp {P : Program} {w : World} {K : PySem.W.Frag} {mg : Str → Option Value} {base : Heap} {x : Str} {k : Nat} {ps : List Str} {sp sp' : Sp} (h : Has P w K mg base x k ps sp) (i : ∀ vs H Q E, sp' vs H Q E → sp vs H Q E) : Has P w K mg base x k ps sp' :=
  let ⟨f, fd, a, b, c, F⟩ := h; ⟨f, fd, a, b, c, F.imp i⟩
section
variable {P : Program} {w : World} {K : PySem.W.Frag} {mg : Str → Option Value} {base : Heap} {x : Str} {st : Stmt} {N ps : List Str} {k n : Nat} {g : Sx → Option Out}
abbrev Body (P : Program) (w : World) (K : PySem.W.Frag) (mg : Str → Option Value) (base : Heap) (N : List Str) (x : Str) (st : Stmt) (k : Nat) (Pb : Hp → Prop) (g : Sx → Option Out) : Prop :=
  ∀ (f : Addr) (cdv : Value) (A : Around) (outer : List Env) (s : Shared) (H : Hp) (E : XK), Room k (A.deeper (envOfC x (defScope st) s.heap.objs.size f cdv)) → GSs (cxF P w K mg base N x st f cdv A outer s H E) Pb (defBody st) g
theorem has_pure (D : DefAt K mg x st ps) (S : FnScope N ps (defScope st)) (hn : ps.length = n) (hN : n ≤ N.length) (body : Body P w K mg base N x st k AnyB g) : Has P w K mg base x (k + 1) ps (spF K n (mF N.length g)) :=
  let ⟨f, fd, m, F, b⟩ := D; ⟨f, fd, m, F.kp, b, fn_pure F S hn hN (body f)⟩
theorem has_new (D : DefAt K mg x st ps) (S : FnScope N ps (defScope st)) (hn : ps.length = n) (hN : n ≤ N.length) (body : Body P w K mg base N x st k AnyB g) : Has P w K mg base x (k + 1) ps (spN K n (mN N.length g)) :=
  let ⟨f, fd, m, F, b⟩ := D; ⟨f, fd, m, F.kp, b, fn_new F S hn hN (body f)⟩
theorem has_io (D : DefAt K mg x st ps) (S : FnScope N ps (defScope st)) (hn : ps.length = n + 1) (hN : n + 1 ≤ N.length) (body : Body P w K mg base N x st k AnyB g) : Has P w K mg base x (k + 1) ps (spIO K n (mIO N.length g)) :=
  let ⟨f, fd, m, F, b⟩ := D; ⟨f, fd, m, F.kp, b, fn_io F S hn hN (body f)⟩
theorem has_scrN (D : DefAt K mg x st ps) (S : FnScope N ps (defScope st)) (hn : ps.length = 1) (hN : 1 ≤ N.length) (body : Body P w K mg base N x st k AnyB g) : Has P w K mg base x (k + 1) ps (spScrN K (mScrN N.length g)) :=
  let ⟨f, fd, m, F, b⟩ := D; ⟨f, fd, m, F.kp, b, fn_scrN F S hn hN (body f)⟩
end
section
variable {X : Cx} {pos p p2 py : Pos} {x y : Str} {e : Expr} {es : List Expr} {gs : M (List D)} {k n : Nat} {ps : List Str}
theorem e_callH {f : List D → Option D} (h : Has X.prog X.w X.K X.mg X.base x k ps (spF X.K n f)) (hr : Room k X.A) (ha : GA X (e :: es) gs) (hg : Gl X x := by rfl) (hdb : (x == ("__debug__" : Str)) = false := by decide)
    (he : starEach (e :: es) X.env = (false, eval e X.env) :: starEach es X.env := by rfl) (hpl : (backTo pos (starEach es X.env)).any (·.1) = false := by rfl) : GE X (.Call (.Name x p) (e :: es) [] pos) (gCallF n f gs) :=
  let ⟨fa, fd, m, kp, b, F⟩ := h; e_call F hr m kp b pass0 ha hg hdb he hpl
theorem e_callHIO {f : List D → List D → Option (D × List D)} (i : Nat) (h : Has X.prog X.w X.K X.mg X.base x k ps (spIO X.K n f)) (hr : Room k X.A) (ha : GA X es gs)
    (hN : X.N[i]? = some y := by rfl) (hv : Vis X.env.scope y := by first | exact Or.inl rfl | exact Or.inr (Or.inl rfl) | exact Or.inr (Or.inr rfl)) (hdy : (y == ("__debug__" : Str)) = false := by decide) (hcd : (y == ("__classdict__" : Str)) = false := by decide)
    (hg : Gl X x := by rfl) (hdb : (x == ("__debug__" : Str)) = false := by decide) (he : starEach (.Name y py :: es) X.env = (false, eval (.Name y py) X.env) :: starEach es X.env := by rfl) (hpl : (backTo pos (starEach es X.env)).any (·.1) = false := by rfl) :
    GE X (.Call (.Name x p) (.Name y py :: es) [] pos) (gIO i n f gs) :=
  let ⟨fa, fd, m, kp, b, F⟩ := h; e_callIO i F hr m kp b pass0 ha hN hv hdy hcd hg hdb he hpl
theorem mix_new {F1 H1 F' : Hp} {p : Addr} {o : HO} (hp : mixH F1 H1 (upd F' p o) p = some o) (hn : F' p = none) : mixH F1 H1 (upd F' p o) = upd (mixH F1 H1 F') p o := by
  funext b
  by_cases hb : b = p
  · subst hb; rw [upd_same, hp]
  · rw [upd_ne hb]
    unfold mixH
    rw [upd_ne hb]
theorem n_callH {f : List D → Option (List D)} (h : Has X.prog X.w X.K X.mg X.base x k ps (spN X.K n f)) (hr : Room k X.A) (ha : GA X (e :: es) gs) (hg : Gl X x := by rfl) (hdb : (x == ("__debug__" : Str)) = false := by decide)
    (he : starEach (e :: es) X.env = (false, eval e X.env) :: starEach es X.env := by rfl) (hpl : (backTo pos (starEach es X.env)).any (·.1) = false := by rfl) : GN X (.Call (.Name x p) (e :: es) [] pos) (gCallN n f gs) := by
  obtain ⟨fa, fd, m, kp, b, F⟩ := h
  obtain ⟨t, pa, ra⟩ := ha.ex
  refine ⟨_, pe_callF F hr hg m kp b .nil pass0 pa hdb he hpl, fun A F H S σ d S' Q k h post => ?_⟩
  obtain ⟨⟨ds, S1⟩, h1, h⟩ := bind_inv h
  simp only at h
  split at h
  · rename_i hn
    obtain ⟨z, h2, h⟩ := bind_inv h
    cases h
    refine ra A F H S σ ds _ _ k h1 fun A1 F1 H1 vs p1 s1 k1 r1 => ⟨F1, k1.sub, ds, z, hn, by rw [List.append_nil]; exact r1, h2, fun F' L us sm hL ru hz => ⟨fun b xs q => by
      rw [upd_ne (ne_of_none (sm b _ q) hL)]; exact sm b _ q, fun lost => ?_⟩⟩
    have lostF : ∀ b o, H1 b = some o → F1 b = none → F' b = none := fun b o ho hf => by
      have := lost b o ho hf
      by_cases hb : b = L
      · subst hb; exact hL
      · rwa [upd_ne hb] at this
    have hLH : H1 L = none := by
      cases q : H1 L with
      | none => rfl
      | some u =>
        cases q2 : F1 L with
        | none => have := lost L u q q2; rw [upd_same] at this; cases this
        | some v => rw [sm L v q2] at hL; cases hL
    rw [mix_new (by rw [mix_free hLH, upd_same]) hL]
    exact post A1 F' _ L us z p1 (s1.trans sm) (k1.mix sm lostF) (by rw [mix_free hLH]; exact hL) rfl ru hz
  · cases h
def gCallScr (i : Nat) (f : List Int → Option (List D)) : M D := fun S => (scrOf S i).bind fun ns => (f ns).bind fun z => some (.list z, S)
theorem n_callScr {f : List Int → Option (List D)} (i : Nat) (h : Has X.prog X.w X.K X.mg X.base x k ps (spScrN X.K f)) (hr : Room k X.A)
    (hN : X.N[i]? = some y := by rfl) (hv : Vis X.env.scope y := by first | exact Or.inl rfl | exact Or.inr (Or.inl rfl) | exact Or.inr (Or.inr rfl)) (hdy : (y == ("__debug__" : Str)) = false := by decide) (hcd : (y == ("__classdict__" : Str)) = false := by decide)
    (hg : Gl X x := by rfl) (hdb : (x == ("__debug__" : Str)) = false := by decide) (he : starEach [.Name y py] X.env = (false, eval (.Name y py) X.env) :: starEach [] X.env := by rfl) : GN X (.Call (.Name x p) [.Name y py] [] pos) (gCallScr i f) := by
  obtain ⟨fa, fd, m, kp, b, F⟩ := h
  refine ⟨_, pe_callF F hr hg m kp b .nil pass0 (pa_cons (pe_var hN hv hdy hcd) pa_nil he) hdb he (by rfl), fun A F H S σ d S' Q k h post => ?_⟩
  obtain ⟨ns, h1, h⟩ := bind_inv h
  obtain ⟨z, h2, h⟩ := bind_inv h
  cases h
  obtain ⟨hz, a, ev, hs⟩ := scr_at k h1
  refine ⟨_, ev, F, k.sub, a, ns, z, by rfl, hs, hz, h2, fun F' L us sm hL ru hz => ⟨fun b xs q => by
      rw [upd_ne (ne_of_none (sm b _ q) hL)]; exact sm b _ q, fun lost => ?_⟩⟩
  have lostF : ∀ b o, H b = some o → F b = none → F' b = none := fun b o ho hf => by
    have := lost b o ho hf
    by_cases hb : b = L
    · subst hb; exact hL
    · rwa [upd_ne hb] at this
  have hLH : H L = none := by
    cases q : H L with
    | none => rfl
    | some u =>
      cases q2 : F L with
      | none => have := lost L u q q2; rw [upd_same] at this; cases this
      | some v => rw [sm L v q2] at hL; cases hL
  rw [mix_new (by rw [mix_free hLH, upd_same]) hL]
  exact post A F' _ L us z (List.prefix_refl _) sm (k.mix sm lostF) (by rw [mix_free hLH]; exact hL) rfl ru hz
theorem e_gintE {i : Int} (hm : ∃ t, X.mg x = some (.int i t)) (hg : Gl X x := by rfl) (hd : (x == ("__debug__" : Str)) = false := by decide) : GE X (.Name x pos) (gC (.int i)) := let ⟨_, m⟩ := hm; e_gint m hg hd
theorem e_gstrE {z : Str} (hm : ∃ t, X.mg x = some (.str z t)) (hg : Gl X x := by rfl) (hz : z.length ≤ sizeLine := by decide) (hd : (x == ("__debug__" : Str)) = false := by decide) : GE X (.Name x pos) (gC (.str z)) := let ⟨_, m⟩ := hm; e_gstr m hg hz hd
end
end Fu

set_option maxHeartbeats 4000000
namespace Fu
open PySem PySem.Spec PyProof.Rows L2 RZ

section
variable {K : PySem.W.Frag} {F H : Hp}
end

/-! ### sorted(xs) of data -/
def sortOk (xs : List D) : Bool := (xs.all fun d => xs.all fun e => PySem.W.alike d e) && ((xs.all fun d => match d with
  | .tuple (_ :: _) => true
  | _ => false) || (xs.all fun d => match d with
  | .none => false
  | .tuple _ => false
  | _ => true)) && xs.all fun d => d.depth ≤ 20 && d.canLay0
abbrev leD : D → D → Bool := PySem.W.dataLe false (fun d : D => d)
def dSorted : List D → Option D
  | [.list xs] => if sortOk xs = true then some (.list (xs.mergeSort leD)) else none
  | [.tuple xs] => none
  | _ => none
theorem sortOk_all {xs : List D} (h : sortOk xs = true) : PySem.W.AllAlike xs ∧ PySem.W.Sortable xs ∧ ∀ d ∈ xs, d.depth ≤ 20 ∧ d.canLay0 = true := by
  unfold sortOk at h
  rw [Bool.and_eq_true, Bool.and_eq_true, Bool.or_eq_true] at h
  obtain ⟨⟨h1, h2⟩, h3⟩ := h
  refine ⟨fun d hd e he => List.all_eq_true.mp (List.all_eq_true.mp h1 d hd) e he, ?_, fun d hd => ?_⟩
  · rcases h2 with h2 | h2
    · refine .inl fun d hd => ?_
      have := List.all_eq_true.mp h2 d hd
      split at this
      · exact ⟨_, _, rfl⟩
      · cases this
    · refine .inr fun d hd => ?_
      have := List.all_eq_true.mp h2 d hd
      refine ⟨fun e => ?_, fun ys e => ?_⟩
      · rw [e] at this; cases this
      · rw [e] at this; cases this
  · have := List.all_eq_true.mp h3 d hd
    rw [Bool.and_eq_true] at this
    exact ⟨of_decide_eq_true this.1, this.2⟩
/-- its reading: values and data side by side -/
def rSorted (K : PySem.W.Frag) : List V → Hp → VK → Prop := fun xs H Q => ∃ (a : Addr) (ps : List (V × D)), xs = [.ref a] ∧ SqL K H a (ps.map (·.1)) ∧ (∀ p ∈ ps, Dp K H p.1 p.2) ∧ sortOk (ps.map (·.2)) = true ∧ ps.length ≤ sizeLine ∧
  ∀ p, H p = none → Q (.ref p) (upd H p (.lst ((ps.mergeSort (PySem.W.dataLe false fun q : V × D => q.2)).map (·.1))))
theorem each_mk {X : Cx} {pins : List (Addr × Obj)} {σ : L2.St} {H : Hp} {s : Shared} (I : Inv X pins σ H s) : ∀ {ps : List (V × D)} {us : List Value}, Vals (ps.map (·.1)) us → (∀ p ∈ ps, Dp X.K H p.1 p.2) →
    PySem.W.EachIs (fun (v : Value) (b : V × D) => RelV b.1 v) us ps ∧ PySem.W.EachIs (fun (v : Value) (b : V × D) => ∃ as, Reads s.heap v b.2 as) us ps
  | [], us, r, _ => by cases r; exact ⟨.nil, .nil⟩
  | p :: ps, us, r, h => by
    rw [List.map_cons] at r
    cases r with
    | cons r1 r2 =>
      obtain ⟨a, b⟩ := each_mk I r2 fun q hq => h q (List.mem_cons_of_mem _ hq)
      exact ⟨.cons r1 a, .cons (Dp.reads I _ _ _ (h p List.mem_cons_self) r1) b⟩
theorem each_vals : ∀ {ps : List (V × D)} {us : List Value}, PySem.W.EachIs (fun (v : Value) (b : V × D) => RelV b.1 v) us ps → Vals (ps.map (·.1)) us
  | [], _, .nil => .nil
  | _ :: _, _, .cons r t => .cons r (each_vals t)
theorem call_sortedAll {X : Cx} {k : Nat} (hr : Room k X.A) : CallR X (.builtin "sorted") (rSorted X.K) := by
  intro pins s σ H xs us Q I r h
  obtain ⟨a, ps, rfl, hs, hd, so, hz, q⟩ := h
  obtain ⟨u, rfl, ru⟩ := vals1 r
  cases ru
  obtain ⟨its, rv, pl, hzl⟩ := I.list hs
  obtain ⟨e1, e2⟩ := each_mk I rv hd
  obtain ⟨al, sb, dp⟩ := sortOk_all so
  have hun := hr.un
  refine PySem.W.sorted_data (β := V × D) (enc := fun b => b.2) pl.isList e1 e2 al sb hz (fun b hb => ?_) fun out ho eo => ?_
  · have := (dp b.2 (List.mem_map.mpr ⟨b, hb, rfl⟩)).1
    omega
  · have rv2 := each_vals eo
    obtain ⟨c, hc⟩ := sortedAll_at s.heap its out.toArray
    refine ⟨.ref (s.heap.objs.size + 1), _, I.laid (t' := s.toks) (o := .lst ((ps.mergeSort (PySem.W.dataLe false fun q : V × D => q.2)).map (·.1))) (fun b o hb => sortedAll_old hb) (Nat.le_succ _) ⟨?_, out, c, rv2, hc⟩, rfl, q _ (I.hok.fresh (Nat.le_succ _))⟩
    rw [List.length_map, List.length_mergeSort]
    exact hz
theorem zip_rps {K : PySem.W.Frag} {F : Hp} : ∀ {vs : List V} {ds : List D}, Rps K F vs ds → (vs.zip ds).map (·.1) = vs ∧ (vs.zip ds).map (·.2) = ds ∧ ∀ p ∈ vs.zip ds, Rp K F p.1 p.2
  | _, [], h => by cases h; exact ⟨rfl, rfl, fun p hp => by cases hp⟩
  | _, d :: ds, h => by
    cases h with
    | cons h1 h2 =>
      obtain ⟨a, b, c⟩ := zip_rps h2
      refine ⟨by rw [List.zip_cons_cons, List.map_cons, a], by rw [List.zip_cons_cons, List.map_cons, b], fun p hp => ?_⟩
      rw [List.zip_cons_cons] at hp
      rcases List.mem_cons.mp hp with rfl | hp
      · exact h1
      · exact c p hp
theorem rps_zip {K : PySem.W.Frag} {F : Hp} : ∀ {ps : List (V × D)}, (∀ p ∈ ps, Rp K F p.1 p.2) → Rps K F (ps.map (·.1)) (ps.map (·.2))
  | [], _ => .nil
  | p :: ps, h => .cons (h p List.mem_cons_self) (rps_zip fun q hq => h q (List.mem_cons_of_mem _ hq))
theorem rd_sorted {K : PySem.W.Frag} : RdC K (rSorted K) dSorted := by
  intro A F H S σ xs ds z Q k r h post
  unfold dSorted at h
  split at h
  · split at h
    · rename_i ys hso
      cases h
      obtain ⟨v, rfl, rv⟩ := rps1 r
      obtain ⟨a, vs, rfl, h1, h2, h3⟩ := rp_list_inv rv
      obtain ⟨z1, z2, z3⟩ := zip_rps h2
      have hl : (vs.zip ys).length = ys.length := by rw [List.length_zip, h2.length]; omega
      refine ⟨a, vs.zip ys, rfl, SqL.of (by rw [z1]; exact k.sub.same _ _ h1), fun p hp => ?_, by rw [z2]; exact hso, by rw [hl]; exact h3, fun p hp => ?_⟩
      · exact Rp.dp _ _ ((sortOk_all hso).2.2 p.2 (by rw [← z2]; exact List.mem_map.mpr ⟨p, hp, rfl⟩)).2 ((z3 p hp).mono k.sub.same _ _)
      · have e2 : ((vs.zip ys).mergeSort (PySem.W.dataLe false fun q : V × D => q.2)).map (·.2) = ys.mergeSort leD := by
          have := List.map_mergeSort (s := leD) (r := PySem.W.dataLe false fun q : V × D => q.2) (f := fun q : V × D => q.2) (l := vs.zip ys) (fun a _ b _ => rfl)
          rw [this, z2]
        have rr := rps_zip (K := K) (F := F) (ps := (vs.zip ys).mergeSort (PySem.W.dataLe false fun q : V × D => q.2)) fun p hp => z3 p (List.mem_mergeSort.mp hp)
        rw [e2] at rr
        obtain ⟨s1, k1, r1⟩ := k.newList hp rr (by rw [List.length_mergeSort]; exact h3)
        exact post _ _ _ s1 k1 r1
    · cases h
  · cases h
  · cases h

/-! ### max(xs), min(xs) of data -/
/-! ### sum(xs) of ints -/
def allInts : List D → Option (List Int)
  | [] => some []
  | .int b :: ds => (allInts ds).bind fun bs => some (b :: bs)
  | _ => none
theorem allInts_map : ∀ {ds : List D} {bs : List Int}, allInts ds = some bs → ds = bs.map .int
  | [], _, h => by cases h; rfl
  | .int b :: ds, _, h => by
    obtain ⟨bs, h1, h2⟩ := bind_inv h
    cases h2
    rw [List.map_cons, allInts_map h1]
  | .none :: _, _, h => by simp [allInts] at h
  | .bool _ :: _, _, h => by simp [allInts] at h
  | .str _ :: _, _, h => by simp [allInts] at h
  | .list _ :: _, _, h => by simp [allInts] at h
  | .tuple _ :: _, _, h => by simp [allInts] at h
  | .dict _ :: _, _, h => by simp [allInts] at h
theorem allInts_of : ∀ bs : List Int, allInts (bs.map .int) = some bs
  | [] => rfl
  | b :: bs => by
    show (allInts (bs.map .int)).bind _ = _
    rw [allInts_of bs]; rfl
theorem rps_ints {K : PySem.W.Frag} {F : Hp} : ∀ {vs : List V} {bs : List Int}, Rps K F vs (bs.map .int) → vs = bs.map V.int
  | _, [], h => by cases h; rfl
  | _, b :: bs, h => by
    cases h with
    | cons h1 h2 => rw [rp_int_inv h1, rps_ints h2]; rfl
section
variable {X : Cx} {pos p p2 : Pos} {e : Expr} {es : List Expr} {gs : M (List D)} {k : Nat}
theorem e_sorted (hr : Room k X.A) (hm : X.mg "sorted" = none) (ha : GA X [e] gs) (hg : Gl X "sorted" := by rfl) (he : starEach [e] X.env = (false, eval e X.env) :: starEach [] X.env := by rfl) : GE X (.Call (.Name "sorted" p) [e] [] pos) (gCall dSorted gs) :=
  e_callB (call_sortedAll hr) rd_sorted hm (by decide +kernel) ha hg (he := he) (hpl := by rfl)
end
end Fu

set_option maxHeartbeats 4000000
namespace Fu
open PySem PySem.Spec PyProof.Rows L2
/-! ### list(range(..)), xs[::-1], len(set(ints)) -/
section
variable {X : Cx} {pos p p2 p3 p4 : Pos} {a b e e2 : Expr} {ga gb ge ge2 : M D}
theorem rps_rg {K : PySem.W.Frag} {F : Hp} (lo hi : Int) : Rps K F (rgV lo hi) (rng lo (hi - lo).toNat) := by
  have h := Rps.ints (K := K) (H := F) ((List.range (hi - lo).toNat).map fun i : Nat => lo + (i : Int))
  rw [List.map_map, List.map_map] at h
  exact h
def gListRng1 (g : M D) : M D := fun S => (g S).bind fun q => match q.1 with
  | .int j => if -4611686018427387904 ≤ j ∧ j ≤ 16777216 then some (.list (rng 0 j.toNat), q.2) else none
  | _ => none
theorem n_listRng1 (hm : X.mg "list" = none) (hr : X.mg "range" = none) (ha : GE X e ge) (hc : X.calm = true := by rfl) (hg : Gl X "list" := by rfl) (hg2 : Gl X "range" := by rfl)
    (hs : starEach [e] X.env = (false, eval e X.env) :: starEach [] X.env := by rfl) (hs2 : starEach [.Call (.Name "range" p2) [e] [] p3] X.env = (false, eval (.Call (.Name "range" p2) [e] [] p3) X.env) :: starEach [] X.env := by rfl) :
    GN X (.Call (.Name "list" p) [.Call (.Name "range" p2) [e] [] p3] [] pos) (gListRng1 ge) := by
  obtain ⟨_, pa, ra⟩ := ha.ex
  refine ⟨_, pe_listRg hc hg hm (prg_1 hg2 hr pa hs) hs2, fun A F H S σ d S' Q k h post => ?_⟩
  obtain ⟨⟨x, S1⟩, h1, h⟩ := bind_inv h
  cases x with
  | int j =>
    simp only at h
    split at h
    · rename_i hj
      cases h
      refine ra A F H S σ _ _ _ k h1 fun A1 F1 H1 v s1 f1 k1 r1 => ?_
      cases rp_int_inv r1
      refine ⟨j, rfl, ⟨by omega, by omega, by omega, by omega, by omega⟩, fun q hq => post A1 F1 H1 q _ _ s1 f1 k1 hq rfl ?_ ?_⟩
      · have := rps_rg (K := X.K) (F := F1) 0 j
        rwa [Int.sub_zero] at this
      · rw [rng_len, sizeLine_eq]; omega
    · cases h
  | _ => cases h
def dRevL : D → Option D
  | .list xs => some (.list xs.reverse)
  | _ => none
theorem n_revL {k : Nat} (ha : GE X e ge) : GN X (.Subscript e (.Slice none none (some (.UnaryOp .USub (.Constant (.int 1) k p) p2)) p3) pos) (gUn dRevL ge) := by
  obtain ⟨_, pa, ra⟩ := ha.ex
  refine ⟨_, pe_revL pa, fun A F H S σ d S' Q k h post => ?_⟩
  obtain ⟨⟨x, S1⟩, h1, h⟩ := bind_inv h
  obtain ⟨z, h2, h⟩ := bind_inv h
  cases h
  cases x <;> simp only [dRevL] at h2 <;> cases h2
  refine ra A F H S σ _ _ _ k h1 fun A1 F1 H1 v s1 f1 k1 r1 => ?_
  obtain ⟨l, vs, rfl, g1, g2, g3⟩ := rp_list_inv r1
  exact ⟨l, vs, rfl, SqL.of (k1.sub.same _ _ g1), fun q hq => post A1 F1 H1 q _ _ s1 f1 k1 hq rfl g2.reverse (by rw [List.length_reverse]; exact g3)⟩
/-- how many unlike ones -/
def unlike (ns : List Int) : Nat := (PyProof.Rows.firstMet (fun i => ns.getD i 0) ns.length).length
def tManyI (K : PySem.W.Frag) (ta : TE) : TE := fun σ H Q => ta σ H fun x H1 => ∃ (l : Addr) (ns : List Int), x = .ref l ∧ SqL K H1 l (ns.map V.int) ∧ ns.length ≤ 4000 ∧ Q (.int (unlike ns : Nat)) H1
theorem pe_manyI {ta : TE} (g1 : Gl X "len") (m1 : X.mg "len" = none) (g2 : Gl X "set") (m2 : X.mg "set" = none) (ha : PE X e ta) (hc : X.calm = true) (na : starEach [e] X.env = (false, eval e X.env) :: starEach [] X.env) :
    PE X (.Call (.Name "len" p) [.Call (.Name "set" p2) [e] [] p3] [] pos) (tManyI X.K ta) := ⟨fun ps s σ H Q I h => by
  refine Call_ (ld_blt I g1 m1 boot_len (PyProof.Rows.callWith_builtin1 (PyProof.Rows.args_cons ?_ rfl) rfl rfl))
  refine Call_ (ld_blt I g2 m2 boot_set (PyProof.Rows.callWith_type1 (PyProof.Rows.args_cons ?_ na) na rfl))
  refine thn (ha.run ps s σ H _ I h) fun v t ⟨x, G, J, r, q⟩ => PyProof.Rows.args_nil ?_
  obtain ⟨l, ns, ex, hl, hz, q⟩ := q
  subst ex
  cases r
  obtain ⟨its, ri, pl, _⟩ := J.list hl
  have hn : its.toArray.size = ns.length := by rw [List.size_toArray, ← ri.length, List.length_map]
  have hb : its.toArray.size + 1 < scanBound := by rw [hn]; unfold scanBound; omega
  refine call_set_list (J.ok.hd hc) pl.isList (by simpa using RZ.intsAre_vals ri) hb fun h' tk st keep => PyProof.Rows.args_nil ?_
  rw [hn] at st
  obtain ⟨o, es, ep, tb, ho, hex, hd, _, _, _, hf, hcount⟩ := st
  have hle : unlike ns ≤ ns.length := PyProof.Rows.firstMet_length_le _ _
  have J2 : Inv X ps σ G { t with heap := h', toks := tk } := J.kept fun c u eu => keep c u (Heap.lt_size eu) eu
  exact call_len_set ho hex hd hf (by rw [hcount]; unfold unlike at hle; omega) ⟨.int (unlike ns), G, J2.tok _, ⟨_, by rw [hcount]; rfl⟩, q⟩⟩
def dLenSet : D → Option D
  | .list ds => (allInts ds).bind fun ns => if ns.length ≤ 4000 then some (.int (unlike ns : Nat)) else none
  | _ => none
theorem e_lenSet (m1 : X.mg "len" = none) (m2 : X.mg "set" = none) (ha : GE X e ge) (hc : X.calm = true := by rfl) (g1 : Gl X "len" := by rfl) (g2 : Gl X "set" := by rfl) (na : starEach [e] X.env = (false, eval e X.env) :: starEach [] X.env := by rfl) :
    GE X (.Call (.Name "len" p) [.Call (.Name "set" p2) [e] [] p3] [] pos) (gUn dLenSet ge) := by
  obtain ⟨_, pa, ra⟩ := ha.ex
  refine ⟨_, pe_manyI g1 m1 g2 m2 pa hc na, fun A F H S σ d S' Q k h post => ?_⟩
  obtain ⟨⟨x, S1⟩, h1, h⟩ := bind_inv h
  obtain ⟨z, h2, h⟩ := bind_inv h
  cases h
  cases x <;> simp only [dLenSet] at h2 <;> try cases h2
  obtain ⟨ns, h3, h2⟩ := bind_inv h2
  split at h2
  · rename_i hz
    cases h2
    refine ra A F H S σ _ _ _ k h1 fun A1 F1 H1 v s1 f1 k1 r1 => ?_
    obtain ⟨l, vs, rfl, q1, q2, q3⟩ := rp_list_inv r1
    have e := allInts_map h3
    subst e
    cases rps_ints q2
    exact ⟨l, ns, rfl, SqL.of (k1.sub.same _ _ q1), hz, post A1 F1 H1 _ s1 f1 k1 (.int _)⟩
  · cases h2
end
end Fu

set_option maxHeartbeats 4000000
namespace Fu
open PySem PySem.Spec PyProof.Rows L2
/-! ### promises of functions that may ask what is being shown: with no show under way around them -/
structure FnG (P : Program) (w : World) (K : PySem.W.Frag) (mg : Str → Option Value) (base : Heap) (k : Nat) (fa : Addr) (fd : FuncData) (ps : List Str) (sp : Sp) : Prop where
  len : ∀ vs H Q E, sp vs H Q E → vs.length = ps.length
  go : ∀ (A : Around) (out : List Env) (t : Shared) (H : Hp) (ar : Args) (us : List Value) (vs : List V) (Q : VK) (E : XK), Room k A → A.guards = some [] → Env0 P w K mg base A out t H → BindsTo t fd ar (ps.zip us) → Vals vs us → sp vs H Q E →
    codeAny (model P w) A (.call (.ref fa) ar) (CR CX0 out P w H t Q E) t
section
variable {P : Program} {w : World} {K : PySem.W.Frag} {mg : Str → Option Value} {base : Heap} {x qual : Str} {st : Stmt} {f : Addr} {fd : FuncData} {N ps : List Str} {k n : Nat} {sp : Sp}
theorem FnG.of (F : FnOk P w K mg base CX0 k f fd ps sp) : FnG P w K mg base k f fd ps sp := ⟨F.len, fun A out t H ar us vs Q E hr _ => F.run A out t H ar us vs Q E hr⟩
theorem fun_okG (F : L2.Fun K x qual st f fd) (S : FnScope N ps (defScope st)) (len : ∀ vs H Q E, sp vs H Q E → vs.length = ps.length)
    (hb : ∀ (cdv : Value) (A : Around) (out : List Env) (t : Shared) (H : Hp) (vs : List V) (Q : VK) (E : XK), Room k (A.deeper (envOfC qual (defScope st) t.heap.objs.size f cdv)) → A.guards = some [] → sp vs H Q E →
      ∃ u, PSs (cxOf CX0 P w K mg base N qual (defScope st) f cdv A out t H E).nox (defBody st) u ∧ u { nx := fun _ G => Q .non G, rt := Q } (start N vs) H) : FnG P w K mg base (k + 1) f fd ps sp := by
  obtain ⟨oc, od, kV, doc, pm, an, cdv, ct, osl, rfl, lk, hcd⟩ := F.ex
  refine ⟨len, fun A out t H ar us vs Q E hr hg e0 hbd hv hs => ?_⟩
  have many := len _ _ _ _ hs
  have inK : K.In t.heap := e0.mod.kin.keeps fun b o z => (e0.bs b o z).1
  have nol : t.heap.NoLimit := e0.mod.nolimit.keeps fun b o z => (e0.bs b o z).1
  have kinds : ∀ q ∈ ps.zip us, (defScope st).names.lookup q.1 = some .local ∨ ((defScope st).names.lookup q.1 = some .cell ∧ ((cellsFrom (t.heap.objs.size + 1) (defScope st).names []).lookup q.1).isSome = true) := by
    rintro ⟨m, v⟩ hq
    exact (S.par m (List.of_mem_zip hq).1).imp id fun z => ⟨z, PySem.W.cellsFrom_some _ _ _ (.inl z)⟩
  refine codeAny_call_function hr.depth (inK _ _ lk) rfl S.co S.gen rfl (PySem.W.codeRec_of inK hcd) (hbd _ _ _ _ ?_)
  refine wpAny_newFunctionEnv_cells S.kind kinds fun en hen t1 made => ?_
  subst hen
  refine ⟨nol.keeps made.toInCall.keep, codeAny_func ?_⟩
  obtain ⟨u, hu, q⟩ := hb cdv A out t H vs Q E (hr.deeper _) hg hs
  have J : Inv (cxOf CX0 P w K mg base N qual (defScope st) f cdv A out t H E) [] (start N vs) H t1 := inv_start S hr.hd e0 many hv made
  have back : ∀ {σ : L2.St} {G : Hp} {v : V} {z : Value} {t2 : Shared}, Inv (cxOf CX0 P w K mg base N qual (defScope st) f cdv A out t H E) [] σ G t2 → RelV v z → Q v G → CE out P w H t Q z t2 := fun {σ G v z t2} I r p => ⟨v, G, I.os, I.bare, I.base, I.hok, r, p⟩
  refine wpAny_mono (hu.nox.run [] t1 (start N vs) H _ J q) (fun fl t2 z => ?_) fun e t2 z => z
  cases fl with
  | next =>
    obtain ⟨σ, G, I, p⟩ := z
    exact back (v := V.non) (z := Value.none) I rfl p
  | ret y =>
    obtain ⟨v, σ, G, I, r, p⟩ := z
    exact back I r p
  | cont => exact z.elim fun _ z => z.elim fun _ z => z.2.elim
  | brk => exact z.elim fun _ z => z.elim fun _ z => z.2.elim
end
section
variable {X : Cx} {k : Nat} {f : Addr} {fd : FuncData} {ps : List Str} {sp : Sp} {E : XK} {x : Str} {p pos : Pos} {e : Expr} {es : List Expr} {t : TA}
end
/-! ### the law's call, from such a promise -/
theorem law_callG {P : Program} {w : World} {K : PySem.W.Frag} {mg mb : Str → Option Value} {k : Nat} {fa ad : Addr} {fd : FuncData} {x : Str} {sp : Sp} {t : Shared} {us : List Value} {ms : List Int}
    (inK : K.In t.heap) (gl : t.heap.Ns mainGlobals mg) (bl : t.heap.Ns builtinsNs mb) (boot : ∀ y : Str, y ≠ "__name__" → mb y = bootBuiltins y) (nol : t.heap.NoLimit) (ng : t.gens = #[])
    (scr : t.heap.get? ad = some { cls := .type "list", data := .seq us.toArray }) (isI : IntsAre us ms) (few : ms.length ≤ sizeLine) (rm : Room k callerA)
    (F : ∀ b : Heap, K.In b → b.Ns mainGlobals mg → FnG P w K mg b k fa fd [x] sp) (bd : ∀ (q : Shared) (u : Value), BindsTo q fd ⟨[u], []⟩ [(x, u)])
    (due : ∀ G : Hp, Only G → SqL K G ad (ms.map V.int) → sp [.ref ad] G (fun v _ => v = .bl true) fun _ _ _ => False) :
    codeAny (model P w) callerA (.call (.ref fa) ⟨[.ref ad], []⟩) (fun r q => r = .ok (.ret (.bool true)) ∧ OldK t.heap q.heap ∧ q.os = t.os ∧ AllBare q.gens) t := by
  have vals := vals_ints isI
  have size := isI.length
  have main : ∀ G : Hp, Only G → SqL K G ad (ms.map V.int) → HOk P w G t.heap → (∀ b, G b ≠ none → b = ad) → (G ad ≠ none → K.lookup ad = none) →
      codeAny (model P w) callerA (.call (.ref fa) ⟨[.ref ad], []⟩) (fun r q => r = .ok (.ret (.bool true)) ∧ OldK t.heap q.heap ∧ q.os = t.os ∧ AllBare q.gens) t := by
    intro G only sq okG one free
    have put : ∀ {c : Addr} {o : Obj}, t.heap.get? c = some o → G c = none → (hidT t.heap G).get? c = some o := fun a b => hidT_get a b
    have noD : ∀ {c : Addr} {o : Obj} {es : Array DictEntry} {ep : Nat}, t.heap.get? c = some o → o.data = .dict es ep → G c = none := by
      intro c o es ep h1 h2
      cases z : G c with
      | none => rfl
      | some u =>
        obtain rfl : c = ad := one c (by rw [z]; simp)
        rw [scr] at h1
        cases h1
        exact absurd (show Data.seq us.toArray _ = Data.dict es ep from h2) (fun y => nomatch y)
    have space : ∀ {c : Addr} {m : Str → Option Value}, t.heap.Ns c m → (hidT t.heap G).Ns c m := by
      rintro c m ⟨o, es, ep, h1, h2, h3⟩
      exact ⟨o, es, ep, put h1 (noD h1 h2), h2, h3⟩
    have inB : K.In (hidT t.heap G) := by
      intro c o h1
      refine put (inK c o h1) ?_
      cases z : G c with
      | none => rfl
      | some u =>
        obtain rfl : c = ad := one c (by rw [z]; simp)
        rw [free (by rw [z]; simp)] at h1
        cases h1
    have md : Mod K mg (hidT t.heap G) := by
      obtain ⟨mc, h1, h2⟩ := nol
      exact ⟨inB, space gl, ⟨mb, space bl, boot⟩, ⟨mc, space h1, h2⟩⟩
    have ev : Env0 P w K mg (hidT t.heap G) callerA [] t G := ⟨rfl, md, fun c o z => of_hidT z, Nat.le_of_eq (hidT_size _ _), trivial, (fun c z => (List.not_mem_nil (show c ∈ ([] : List Addr) from z)).elim), okG, .of_eq ng⟩
    refine codeAny_mono ((F _ inB (space gl)).go callerA [] t G ⟨[.ref ad], []⟩ [.ref ad] [.ref ad] _ _ rm rfl ev (bd t (.ref ad)) (.cons rfl .nil) (due G only sq)) fun z q y => ?_
    cases z with
    | error e => exact (show False from y).elim
    | ok fl =>
      cases fl with
      | ret u =>
        obtain ⟨v, G', osE, bareE, un, okG', rel, vt⟩ := y
        have vt : v = .bl true := vt
        subst vt
        obtain rfl : u = Value.bool true := rel
        refine ⟨rfl, OldK.of_keep fun c o h1 => ?_, osE, bareE⟩
        cases z : G c with
        | none => exact un.keep c o h1 z (fun h => List.not_mem_nil (show c ∈ ([] : List Addr) from h)) (by simp)
        | some u =>
          rcases only c with h2 | ⟨oc, xs, h2⟩
          · rw [z] at h2; cases h2
          · have h3 := un.frzs c oc _ h2
            have h4 := (okG c _ h2).1
            have h5 := (okG' c _ h3).1
            rw [h1] at h4
            cases h4
            exact h5
      | next => exact y.elim
      | cont => exact y.elim
      | brk => exact y.elim
  cases hk : K.lookup ad with
  | some o =>
    have z := inK ad o hk
    rw [scr] at z
    cases z
    exact main (fun _ => none) (fun _ => .inl rfl) (.inr ⟨_, us.toArray, _, hk, rfl, rfl, rfl, by rw [List.size_toArray, size]; exact few, by simpa using vals⟩) (fun c u z => nomatch (show (none : Option HO) = some u from z)) (fun c z => absurd rfl z) fun z => absurd rfl z
  | none =>
    refine main (fun c => if c = ad then some (.frz { cls := .type "list", data := .seq us.toArray } (.lst (ms.map V.int))) else none) ?_ (.inl (.inr ⟨{ cls := .type "list", data := .seq us.toArray }, if_pos rfl⟩)) ?_ ?_ fun _ => hk
    · intro c
      by_cases hc : c = ad
      · exact .inr ⟨_, _, if_pos hc⟩
      · exact .inl (if_neg hc)
    · intro c u z
      by_cases hc : c = ad
      · have y := (if_pos hc).symm.trans z
        cases y
        subst hc
        exact ⟨scr, by rw [List.length_map]; exact few, us, _, vals, scr⟩
      · have y := (if_neg hc).symm.trans z
        cases y
    · intro c z
      by_cases hc : c = ad
      · exact hc
      · exact absurd (if_neg hc) z
theorem walk_ofG {l : PySem.W.OpenLaw} {n k : Nat} {q : Program} {loose : List Str} {XP : (Str → Option Value) → Heap → Prop} {YP : World → Heap → Prop} {d : DefRec} {K : Params → PySem.W.Frag} {sp : World → Sp} {x : Str}
    (hn : l.most = some n) (hn2 : n ≤ sizeLine) (hdf : d.params.defaults = []) (rm : Room k callerA) (hY : ∀ (w : World) (h : Heap), YP w h → (K w.params).In h)
    (F : ∀ (w : World) (mg : Str → Option Value) (fa : Addr) (h : Heap), (K w.params).In h → h.Ns mainGlobals mg → mg d.name = some (.ref fa) →
      ∃ fd : FuncData, (∀ (s : Shared) (u : Value), BindsTo s fd ⟨[u], []⟩ [(x, u)]) ∧ ∀ b : Heap, (K w.params).In b → b.Ns mainGlobals mg → FnG l.prog w (K w.params) mg b k fa fd [x] (sp w))
    (due : ∀ (w : World) (G : Hp) (ad : Addr) (ms : List Int), ms.length ≤ n → Only G → SqL (K w.params) G ad (ms.map V.int) → sp w [.ref ad] G (fun v _ => v = .bl true) fun _ _ _ => False) :
    PySem.W.WalkO q loose XP YP l.row.toRowW d [] (fun f vs => PySem.call f vs) := by
  refine Att.attach_call hn hdf fun w s0 t mg mb fa o pm cd doc ad us ms g Y h1 h2 h3 h4 h5 h6 h7 h8 => ?_
  obtain ⟨fd, bd, FF⟩ := F w mg fa _ (hY w _ Y) g.T.g h4
  exact law_callG (hY w _ Y) g.T.g g.T.b g.T.builtins g.T.nolimit h8 h5 h6 (Nat.le_trans h7 hn2) rm FF bd fun G a b => due w G ad ms h7 a b
end Fu

set_option maxHeartbeats 4000000
namespace Fu
open PySem PySem.Spec PyProof.Rows L2
/-! ### defs whose promise wants that no show is under way -/
section
variable {P : Program} {w : World} {K : PySem.W.Frag} {mg : Str → Option Value} {base : Heap} {x qual : Str} {st : Stmt} {f : Addr} {fd : FuncData} {N ps : List Str} {k n : Nat} {g : Sx → Option Out}
theorem fn_lawG {Pb : Hp → Prop} (hPb : ∀ B, NoLst B → Pb B) (F : Fun K x qual st f fd) (S : FnScope N ps (defScope st)) (hn : ps.length = 1) (hN : 1 ≤ N.length)
    (body : ∀ (cdv : Value) (A : Around) (outer : List Env) (s : Shared) (H : Hp) (E : XK), Room k (A.deeper (envOfC qual (defScope st) s.heap.objs.size f cdv)) → A.guards = some [] → GSs (cxF P w K mg base N qual st f cdv A outer s H E) Pb (defBody st) g) :
    FnG P w K mg base (k + 1) f fd ps (spLaw K (mScr N.length g)) := by
  refine fun_okG F S (fun vs H Q E h => by obtain ⟨a, ns, rfl, _⟩ := h; exact hn.symm) fun cdv A outer s H vs Q E hr hgd h => ?_
  obtain ⟨a, ns, rfl, hs, hz, hB, e, post⟩ := h
  obtain ⟨t, p, rd⟩ := (body cdv A outer s H E hr hgd).ex
  refine ⟨t, p, ?_⟩
  obtain ⟨o, e1, e⟩ := bind_inv e
  refine rd H [] [] H H _ _ o _ (hPb H hB) (Same.refl H) (List.prefix_refl _) (start_scr hs hz hN) e1 ?_
  cases o with
  | nx S => cases e
  | rt d S =>
    cases e
    intro A1 F1 H1 σ1 v s1 p1 k1 rv
    cases rv
    exact post H1
  | bk S => cases e
  | ct S => cases e
  | ro j S => cases e
end
section
variable {X : Cx} {pos p p2 : Pos} {x : Str} {e : Expr} {es : List Expr} {gs : M (List D)} {f : List D → Option D} {k n : Nat} {fa : Addr} {fd : FuncData} {ps : List Str} {E : XK}
end
section
variable {P : Program} {w : World} {K : PySem.W.Frag} {mg : Str → Option Value} {base : Heap} {x : Str} {st : Stmt} {N ps : List Str} {k n : Nat} {g : Sx → Option Out}
abbrev BodyG (P : Program) (w : World) (K : PySem.W.Frag) (mg : Str → Option Value) (base : Heap) (N : List Str) (x : Str) (st : Stmt) (k : Nat) (Pb : Hp → Prop) (g : Sx → Option Out) : Prop :=
  ∀ (f : Addr) (cdv : Value) (A : Around) (outer : List Env) (s : Shared) (H : Hp) (E : XK), Room k (A.deeper (envOfC x (defScope st) s.heap.objs.size f cdv)) → A.guards = some [] → GSs (cxF P w K mg base N x st f cdv A outer s H E) Pb (defBody st) g
end
section
variable {X : Cx} {pos p p2 py : Pos} {x y : Str} {e : Expr} {es : List Expr} {gs : M (List D)} {k n : Nat} {ps : List Str}
end
end Fu

set_option maxHeartbeats 4000000
namespace Fu
open PySem PySem.Spec PyProof.Rows L2
/-! ### repr of lists and tuples -/
def showOk (d : D) : Bool := d.showable && !d.hasDict && d.canLay0 && decide (d.depth ≤ 60) && decide (d.shown.length ≤ 16777216)
theorem showOk_all {d : D} (h : showOk d = true) : d.showable = true ∧ d.hasDict = false ∧ d.canLay0 = true ∧ d.depth ≤ 60 ∧ d.shown.length ≤ sizeLine := by
  unfold showOk at h
  simp only [Bool.and_eq_true, decide_eq_true_eq, Bool.not_eq_true'] at h
  exact ⟨h.1.1.1.1, h.1.1.1.2, h.1.1.2, h.1.2, by rw [sizeLine_eq]; exact h.2⟩
def rRepr (K : PySem.W.Frag) : List V → Hp → VK → Prop := fun xs H Q => ∃ (a : Addr) (d : D), xs = [.ref a] ∧ Dp K H (.ref a) d ∧ showOk d = true ∧ Q (.str d.shown) H
theorem call_reprD {X : Cx} {k : Nat} (hr : Room k X.A) (hgd : X.A.guards = some []) : CallR X (.builtin "repr") (rRepr X.K) := by
  intro pins s σ H xs us Q I r h
  obtain ⟨a, d, rfl, hd, ok, q⟩ := h
  obtain ⟨u, rfl, ru⟩ := vals1 r
  cases ru
  obtain ⟨h1, h2, h3, h4, h5⟩ := showOk_all ok
  obtain ⟨as, rd⟩ := Dp.reads I d _ _ hd rfl
  have hun := hr.un
  exact repr_of_reads' rd h1 (fun e => by rw [h2] at e; cases e) hgd (by omega) (fun _ _ e => e) (fun h' u tk keep => ⟨.str d.shown, H, I.kept (t' := tk) keep, ⟨u, rfl⟩, q⟩) h5
def dRepr : List D → Option D
  | [.list xs] => if showOk (.list xs) = true then some (.str (PyData.list xs).shown) else none
  | [.tuple xs] => if showOk (.tuple xs) = true then some (.str (PyData.tuple xs).shown) else none
  | _ => none
theorem rd_repr {K : PySem.W.Frag} : RdC K (rRepr K) dRepr := by
  intro A F H S σ xs ds z Q k r h post
  unfold dRepr at h
  split at h
  · split at h
    · rename_i ys ok
      cases h
      obtain ⟨v, rfl, rv⟩ := rps1 r
      have rv2 := rv.mono k.sub.same _ _
      obtain ⟨a, vs, rfl, g1, g2, g3⟩ := rp_list_inv rv
      obtain ⟨h1, h2, h3, h4, h5⟩ := showOk_all ok
      exact ⟨a, _, rfl, Rp.dp _ _ h3 rv2, ok, post F H _ (Same.refl F) k (.str h5)⟩
    · cases h
  · split at h
    · rename_i ys ok
      cases h
      obtain ⟨v, rfl, rv⟩ := rps1 r
      have rv2 := rv.mono k.sub.same _ _
      obtain ⟨a, vs, rfl, g1, g2, g3⟩ := rp_tup_inv rv
      obtain ⟨h1, h2, h3, h4, h5⟩ := showOk_all ok
      exact ⟨a, _, rfl, Rp.dp _ _ h3 rv2, ok, post F H _ (Same.refl F) k (.str h5)⟩
    · cases h
  · cases h
section
variable {X : Cx} {pos p p2 : Pos} {e : Expr} {es : List Expr} {gs : M (List D)} {k : Nat}
theorem e_repr (hr : Room k X.A) (hgd : X.A.guards = some []) (hm : X.mg "repr" = none) (ha : GA X [e] gs) (hg : Gl X "repr" := by rfl) (he : starEach [e] X.env = (false, eval e X.env) :: starEach [] X.env := by rfl) : GE X (.Call (.Name "repr" p) [e] [] pos) (gCall dRepr gs) :=
  e_callB (call_reprD hr hgd) rd_repr hm (by decide +kernel) ha hg (he := he) (hpl := by rfl)
end
end Fu

set_option maxHeartbeats 4000000
namespace Fu
open PySem PySem.Spec PyProof.Rows L2
/-! ### a < b < c, list + list as a new list -/
section
variable {X : Cx} {pos p p2 : Pos} {a b c e : Expr} {ga gb gc : M D} {op op' : CmpOp}
end
end Fu

set_option maxHeartbeats 4000000
namespace Fu
open PySem PySem.Spec PyProof.Rows L2
/-! ### xs.count(x), slices as new lists -/
section
variable {X : Cx} {pos p p2 apos : Pos} {a b e o : Expr} {ga gb ge go : M D} {k : Nat} {gl gh : M (Option Int)} {lo hi : Option Expr}
end
end Fu

set_option maxHeartbeats 4000000
namespace Fu
open PySem PySem.Spec PyProof.Rows L2
/-! ### an item of an own list as a target among others -/
section
variable {X : Cx} {pos p p2 py : Pos} {y : Str} {b : Expr} {gb : M D} {tgt : List Nat}
end
end Fu

set_option maxHeartbeats 4000000
namespace Fu
open PySem PySem.Spec PyProof.Rows L2
/-! ### a def that calls itself, where it may go no deeper: nothing is promised -/
section
variable {P : Program} {w : World} {K : PySem.W.Frag} {mg : Str → Option Value} {base : Heap} {x : Str} {st : Stmt} {ps : List Str} {k n : Nat}
end
end Fu

set_option maxHeartbeats 4000000
namespace Fu
open PySem PySem.Spec PyProof.Rows L2 RZ
/-! ### slices of a list that is written: the list stays one's own -/
def gSlO (i : Nat) (gl gh : M (Option Int)) : M D := fun S => match S.sl[i]? with
  | some (some (.own j)) => (gl S).bind fun q => (gh q.2).bind fun r => (cellOf r.2 j).bind fun cs => some (.list (cutL cs q.1 r.1), r.2)
  | some (some (.dat (.list xs))) => (gl S).bind fun q => (gh q.2).bind fun r => some (.list (cutL xs q.1 r.1), r.2)
  | _ => none
section
variable {X : Cx} {P : Hp → Prop} {pos py p p2 p3 p4 apos : Pos} {x y : Str} {a b c d e : Expr} {es : List Expr} {ga gb gc gd ge : M D} {gs : M (List D)} {lo hi : Option Expr} {gl gh : M (Option Int)}
theorem n_slO (i : Nat) (hl : GO X lo gl) (hh : GO X hi gh) (hN : X.N[i]? = some y := by rfl) (hv : Vis X.env.scope y := by first | exact Or.inl rfl | exact Or.inr (Or.inl rfl) | exact Or.inr (Or.inr rfl)) (hdy : (y == ("__debug__" : Str)) = false := by decide) (hcd : (y == ("__classdict__" : Str)) = false := by decide) :
    GN X (.Subscript (.Name y py) (.Slice lo hi none p2) pos) (gSlO i gl gh) := by
  obtain ⟨_, pl, rl⟩ := hl.ex
  obtain ⟨_, ph, rh⟩ := hh.ex
  refine ⟨_, pe_slice sl_list (pe_var hN hv hdy hcd) pl ph, fun A F H S σ d S' Q k h post => ?_⟩
  unfold gSlO at h
  split at h
  · rename_i j ej
    obtain ⟨⟨l, S2⟩, h2, h⟩ := bind_inv h
    obtain ⟨⟨u, S3⟩, h3, h⟩ := bind_inv h
    obtain ⟨cs, h4, h⟩ := bind_inv h
    cases h
    obtain ⟨a, ha, ev⟩ := k.oslot i j ej
    refine ⟨_, ev, rl A F H S σ l _ _ k h2 fun A2 F2 H2 p2 s2 k2 => rh A2 F2 H2 _ σ u _ _ k2 h3 fun A3 F3 H3 p3 s3 k3 => ?_⟩
    obtain ⟨vs, ec, fa, hv', r, hz⟩ := cell_at k3 h4 (prefix_at (p2.trans p3) ha)
    exact ⟨a, vs, rfl, SqL.of hv', fun q hq => post A3 F3 H3 q _ _ (p2.trans p3) (s2.trans s3) k3 hq rfl (rps_cut r l u) (Nat.le_trans (cutL_le _ _ _) hz)⟩
  · rename_i xs ej
    obtain ⟨⟨l, S2⟩, h2, h⟩ := bind_inv h
    obtain ⟨⟨u, S3⟩, h3, h⟩ := bind_inv h
    cases h
    obtain ⟨v, ev, rv⟩ := k.slot i _ ej
    obtain ⟨a, vs, rfl, g1, g2, g3⟩ := rp_list_inv rv
    refine ⟨_, ev, rl A F H S σ l _ _ k h2 fun A2 F2 H2 p2 s2 k2 => rh A2 F2 H2 _ σ u _ _ k2 h3 fun A3 F3 H3 p3 s3 k3 => ?_⟩
    have g1' := s3 _ _ (s2 _ _ g1)
    exact ⟨a, vs, rfl, SqL.of (k3.sub.same _ _ g1'), fun q hq => post A3 F3 H3 q _ _ (p2.trans p3) (s2.trans s3) k3 hq rfl (rps_cut (Rps.mono (s2.trans s3) _ _ g2) l u) (Nat.le_trans (cutL_le _ _ _) g3)⟩
  · cases h

/-! ### xs += e, a list that is written -/
def qAugL (i : Nat) (ge : M D) : Sx → Option Out := fun S => (ownOf S i).bind fun o => (ge S).bind fun p => (cellOf p.2 o.1).bind fun cs => match p.1 with
  | .list xs => if cs.length + xs.length ≤ sizeLine then some (.nx ⟨p.2.sl.set i (some (.own o.1)), p.2.os.set o.1 (some (.lst (cs ++ xs)))⟩) else none
  | _ => none
theorem s_augL (i : Nat) (hN : X.N.Nodup) (he : GE X e ge) (hx : Loc X.env.scope y := by first | exact Or.inl rfl | exact Or.inr rfl) (hi : X.N[i]? = some y := by rfl)
    (hf : X.fn y = true ∨ X.env.scope.names.lookup y = some .local := by first | exact .inl rfl | exact .inr rfl | assumption) : GS X P (.AugAssign (.Name y py) .Add e pos) (qAugL i ge) := by
  obtain ⟨t, pe, re⟩ := he.ex
  refine ⟨_, ps_aug hN hi hx pe (show PIp X .Add rExt2 from iop_ext) hf, fun B A0 A F H S σ o E hP s p k h post => ?_⟩
  obtain ⟨⟨j, cs0⟩, e0, h⟩ := bind_inv h
  obtain ⟨⟨d, S1⟩, e1, h⟩ := bind_inv h
  obtain ⟨cs, e2, h⟩ := bind_inv h
  cases d <;> simp only at h <;> try cases h
  split at h
  · rename_i hlt
    cases h
    obtain ⟨a, vs0, _, _, ha, ev, _⟩ := own_at k e0
    refine ⟨_, ev, re A F H S σ _ S1 _ k e1 fun A1 F1 H1 v p1 s1 k1 r1 => ?_⟩
    obtain ⟨vs, ec, fa, hv', rr, hz⟩ := cell_at k1 e2 (prefix_at p1 ha)
    obtain ⟨b, us, rfl, g1, g2, g3⟩ := rp_list_inv r1
    refine ⟨a, b, vs, us, rfl, rfl, hv', k1.sub.same _ _ g1, by rw [rr.length, g2.length]; exact hlt, ?_⟩
    have k2 := (k1.cellSet ec (prefix_at p1 ha) trivial (o := .lst (vs ++ us)) (c' := .lst (cs ++ _)) ⟨_, upd_same, rr.append g2, by rw [List.length_append]; exact hlt⟩)
    exact post A1 F1 _ _ (s.trans s1) (p.trans p1) (k2.setOwn (prefix_at p1 ha))
  · cases h

/-! ### the script: walked, as a list -/
theorem walk_scr {K : PySem.W.Frag} {F : Hp} {a : Addr} {ns : List Int} (h : SqL K F a (ns.map V.int)) : Walk K F (Itl K a) (ns.map .int) where
  stop := fun i H s hi => ⟨_, s.seq h, by simpa using hi⟩
  go := fun i H s hi => by
    have hi' : i < (ns.map V.int).length := by simpa using hi
    exact ⟨_, _, s.seq h, List.getElem?_eq_getElem hi'⟩
  yld := fun i d H x H' s hd y => by
    obtain ⟨e, y⟩ := y
    have := y _ (s.seq h)
    rw [List.getElem?_map] at hd this
    obtain ⟨n, hn, rfl⟩ := Option.map_eq_some_iff.mp hd
    rw [hn] at this
    cases this
    exact .inl ⟨e, .int n⟩
def gScrI (i : Nat) : M (List D) := fun S => (scrOf S i).bind fun ns => some (ns.map .int, S)
theorem i_scr {tg : Expr} (i : Nat) (hN : X.N[i]? = some y := by rfl) (hv : Vis X.env.scope y := by first | exact Or.inl rfl | exact Or.inr (Or.inl rfl) | exact Or.inr (Or.inr rfl)) (hdy : (y == ("__debug__" : Str)) = false := by decide) (hcd : (y == ("__classdict__" : Str)) = false := by decide) :
    GI X tg (.Name y py) (gScrI i) := by
  refine ⟨_, pi_list (pe_var hN hv hdy hcd), fun A F H S σ ds S' R k e post => ?_⟩
  obtain ⟨ns, h1, e⟩ := bind_inv e
  cases e
  obtain ⟨hz, a, ev, hs⟩ := scr_at k h1
  refine ⟨_, ev, a, rfl, ⟨_, k.sub.same.seq hs⟩, post A F H _ (List.prefix_refl _) (Same.refl F) k (walk_scr hs) ?_⟩
  rw [List.length_map]
  have h2 : (63 : Nat) ≤ sizeLine := by decide
  omega
def gScrList (i : Nat) : M D := fun S => (scrOf S i).bind fun ns => some (.list (ns.map .int), S)
theorem n_scrList (i : Nat) (hm : X.mg "list" = none) (hN : X.N[i]? = some y := by rfl) (hv : Vis X.env.scope y := by first | exact Or.inl rfl | exact Or.inr (Or.inl rfl) | exact Or.inr (Or.inr rfl)) (hdy : (y == ("__debug__" : Str)) = false := by decide) (hcd : (y == ("__classdict__" : Str)) = false := by decide)
    (hg : Gl X "list" := by rfl) (he : starEach [.Name y py] X.env = (false, eval (.Name y py) X.env) :: starEach [] X.env := by rfl) : GN X (.Call (.Name "list" p) [.Name y py] [] pos) (gScrList i) := by
  refine ⟨_, pe_callTy call_list_of hg hm (by decide +kernel) (pa_cons (pe_var hN hv hdy hcd) pa_nil he) (by decide) (by decide) he (by rfl), fun A F H S σ d S' Q k h post => ?_⟩
  obtain ⟨ns, h1, h⟩ := bind_inv h
  cases h
  obtain ⟨hz, a, ev, hs⟩ := scr_at k h1
  refine ⟨_, ev, _, _, rfl, .inl (k.sub.same.seq hs), fun l hl => post A F H l _ _ (List.prefix_refl _) (Same.refl F) k hl rfl (Rps.ints ns) ?_⟩
  rw [List.length_map]
  have h2 : (63 : Nat) ≤ sizeLine := by decide
  omega

/-! ### enumerate(xs) -/
def enumD : Nat → List D → List D
  | _, [] => []
  | n, x :: xs => .tuple [.int (n : Int), x] :: enumD (n + 1) xs
theorem enumD_len : ∀ (n : Nat) (xs : List D), (enumD n xs).length = xs.length
  | _, [] => rfl
  | n, _ :: xs => by rw [enumD, List.length_cons, enumD_len (n + 1) xs, List.length_cons]
theorem enumD_at : ∀ (n : Nat) (xs : List D) (i : Nat), (enumD n xs)[i]? = (xs[i]?).map fun x => .tuple [.int ((n + i : Nat) : Int), x]
  | _, [], i => by simp [enumD]
  | n, x :: xs, 0 => by simp [enumD]
  | n, x :: xs, i + 1 => by
    rw [enumD, List.getElem?_cons_succ, enumD_at (n + 1) xs i, List.getElem?_cons_succ, show n + 1 + i = n + (i + 1) by omega]
theorem walk_enum {K : PySem.W.Frag} {F : Hp} {a : Addr} {vs : List V} {xs : List D} (h : F a = some (.lst vs)) (r : Rps K F vs xs) : Walk K F (Ite K a) (enumD 0 xs) where
  stop := fun i H s hi => ⟨vs, SqL.of (s _ _ h), by rw [enumD_len] at hi; rw [r.length]; exact hi⟩
  go := fun i H s hi => by
    rw [enumD_len] at hi
    obtain ⟨v, e, _⟩ := r.get (List.getElem?_eq_getElem hi)
    exact ⟨vs, v, SqL.of (s _ _ h), e⟩
  yld := fun i d H x H' s hd y => by
    obtain ⟨T, v, rfl, hT, rfl, e1⟩ := y
    rw [enumD_at] at hd
    obtain ⟨d1, hd1, rfl⟩ := Option.map_eq_some_iff.mp hd
    obtain ⟨v', g1, r1⟩ := r.get hd1
    have f1 := e1 vs (SqL.of (s _ _ h))
    rw [g1] at f1; cases f1
    refine .inr ⟨T, _, _, rfl, hT, rfl, rfl, .cons ?_ (.cons r1 .nil), by show 2 ≤ sizeLine; decide⟩
    rw [Nat.zero_add]
    exact .int _
def gEnum (g : M (List D)) : M (List D) := fun S => (g S).bind fun p => match p.1 with
  | [.list xs] => some (enumD 0 xs, p.2)
  | _ => none
theorem i_enum {elts : List Expr} {kk : Nat} {tpos : Pos} (hm : X.mg "enumerate" = none) (ha : GA X [e] gs) (hg : Gl X "enumerate" := by rfl) (hs : starEach [e] X.env = [(false, eval e X.env)] := by rfl) : GI X (.Tuple elts kk tpos) (.Call (.Name "enumerate" p) [e] [] pos) (gEnum gs) := by
  obtain ⟨t, pa, ra⟩ := ha.ex
  refine ⟨_, pi_enum hg hm pa hs, fun A F H S σ ds S' R k e post => ?_⟩
  obtain ⟨⟨xs, S1⟩, h1, e⟩ := bind_inv e
  simp only at e
  split at e
  · cases e
    refine ra A F H S σ _ _ _ k h1 fun A1 F1 H1 vs p1 s1 k1 r1 => ?_
    obtain ⟨v, rfl, q1⟩ := rps1 r1
    obtain ⟨a, ws, rfl, g1, g2, g3⟩ := rp_list_inv q1
    exact ⟨a, ws, rfl, SqL.of (k1.sub.same _ _ g1), post A1 F1 H1 _ p1 s1 k1 (walk_enum g1 g2) (by rw [enumD_len]; exact g3)⟩
  · cases e

/-! ### a < b <= c < d -/
def tChain3 (r1 r2 r3 : R2) (ta tb tc td : TE) : TE := fun σ H Q => ta σ H fun x H1 => tb σ H1 fun y H2 => r1 x y H2 fun z H3 => ∃ k, z = .bl k ∧
  (if k = true then tc σ H3 fun w H4 => r2 y w H4 fun z H5 => ∃ k, z = .bl k ∧ (if k = true then td σ H5 fun u H6 => r3 w u H6 Q else Q (.bl false) H5) else Q (.bl false) H3)
theorem pt_chain3 {o1 o2 o3 : CmpOp} {r1 r2 r3 : R2} {ta tb tc td : TE} (h1 : OpR X (compareOp o1) r1) (h2 : OpR X (compareOp o2) r2) (h3 : OpR X (compareOp o3) r3) (ha : PE X a ta) (hb : PE X b tb) (hc : PE X c tc) (hd : PE X d td)
    (hm : lastMarks [o1, o2, o3] [b, c, d] = false := by with_unfolding_all rfl) : PT X (.Compare a [o1, o2, o3] [b, c, d] pos) (tTest (tChain3 r1 r2 r3 ta tb tc td)) := by
  refine ⟨fun pins s σ H Q I h => ?_⟩
  refine isTrue_chain (thn (ha.run pins s σ H _ I h) fun v s1 ⟨x, H1, I1, e1, q1⟩ => test_link (thn (hb.run pins s1 σ H1 _ I1 q1) fun u s2 ⟨y, H2, I2, e2, q2⟩ =>
    thn (h1 pins s2 σ H2 x y v u _ I2 e1 e2 q2) fun d s3 ⟨z, H3, I3, e3, k, e, q3⟩ => ?_)) hm
  subst e
  cases e3
  refine wpAny_truthy_bool ?_
  cases k with
  | false =>
    obtain ⟨k', e', q'⟩ := q3
    cases e'
    exact ite_ff ⟨H3, I3, q'⟩
  | true =>
    refine ite_tt (test_link (thn (hc.run pins s3 σ H3 _ I3 q3) fun w' s4 ⟨z', H4, I4, e4, q4⟩ => thn (h2 pins s4 σ H4 y z' u w' _ I4 e2 e4 q4) fun d s5 ⟨z2, H5, I5, e5, k2, e6, q5⟩ => ?_))
    subst e6
    cases e5
    refine wpAny_truthy_bool ?_
    cases k2 with
    | false =>
      obtain ⟨k', e', q'⟩ := q5
      cases e'
      exact ite_ff ⟨H5, I5, q'⟩
    | true =>
      refine ite_tt (test_last (thn (hd.run pins s5 σ H5 _ I5 q5) fun w2 s6 ⟨z3, H6, I6, e6, q6⟩ => thn (h3 pins s6 σ H6 z' z3 w' w2 _ I6 e4 e6 q6) fun d' s7 ⟨z4, H7, I7, e7, k3, e8, q7⟩ => ?_))
      subst e8
      cases e7
      exact wpAny_truthy_bool ⟨H7, I7, q7⟩
def gChain3 (f f' f'' : D → D → Option D) (ga gb gc gd : M D) : M D := fun S => (ga S).bind fun p => (gb p.2).bind fun q => match f p.1 q.1 with
  | some (.bool true) => (gc q.2).bind fun r => match f' q.1 r.1 with
    | some (.bool true) => (gd r.2).bind fun t => (f'' r.1 t.1).bind fun z => some (z, t.2)
    | some (.bool false) => some (.bool false, r.2)
    | _ => none
  | some (.bool false) => some (.bool false, q.2)
  | _ => none
theorem rd_chain3 {K : PySem.W.Frag} {r r' r'' : R2} {f f' f'' : D → D → Option D} {ta tb tc td : TE} (hf : RdOp K r f) (hf' : RdOp K r' f') (hf'' : RdOp K r'' f'') (ra : RdE K ta ga) (rb : RdE K tb gb) (rc : RdE K tc gc) (rd : RdE K td gd) : RdE K (tChain3 r r' r'' ta tb tc td) (gChain3 f f' f'' ga gb gc gd) := by
  intro A F H S σ d S' Q k h post
  obtain ⟨⟨x, S1⟩, h1, h⟩ := bind_inv h
  obtain ⟨⟨y, S2⟩, h2, h⟩ := bind_inv h
  simp only at h
  refine ra A F H S σ x S1 _ k h1 fun A1 F1 H1 v1 p1 s1 k1 r1 => rb A1 F1 H1 S1 σ y S2 _ k1 h2 fun A2 F2 H2 v2 p2 s2 k2 r2 => ?_
  split at h
  · rename_i e
    obtain ⟨⟨w, S3⟩, h3, h⟩ := bind_inv h
    simp only at h
    refine hf A2 F2 H2 _ σ v1 v2 x y _ _ k2 (r1.mono s2 _ _) r2 e fun F3 H3 v s3 k3 r3 => ?_
    cases rp_bool_inv r3
    refine ⟨true, rfl, ?_⟩
    rw [if_pos rfl]
    refine rc A2 F3 H3 _ σ w _ _ k3 h3 fun A4 F4 H4 v4 p4 s4 k4 r4 => ?_
    split at h
    · rename_i e'
      obtain ⟨⟨u, S5⟩, h5, h⟩ := bind_inv h
      obtain ⟨z, h6, h⟩ := bind_inv h
      cases h
      refine hf' A4 F4 H4 _ σ v2 v4 y w _ _ k4 (r2.mono (s3.trans s4) _ _) r4 e' fun F5 H5 v s5 k5 r5 => ?_
      cases rp_bool_inv r5
      refine ⟨true, rfl, ?_⟩
      rw [if_pos rfl]
      refine rd A4 F5 H5 _ σ u _ _ k5 h5 fun A6 F6 H6 v6 p6 s6 k6 r6 => ?_
      exact hf'' A6 F6 H6 _ σ v4 v6 w u _ Q k6 (r4.mono (s5.trans s6) _ _) r6 h6 fun F7 H7 v7 s7 k7 r7 => post A6 F7 H7 v7 ((p1.trans p2).trans (p4.trans p6)) (s1.trans (s2.trans (s3.trans (s4.trans (s5.trans (s6.trans s7)))))) k7 r7
    · rename_i e'
      cases h
      refine hf' A4 F4 H4 _ σ v2 v4 y w _ _ k4 (r2.mono (s3.trans s4) _ _) r4 e' fun F5 H5 v s5 k5 r5 => ?_
      cases rp_bool_inv r5
      refine ⟨false, rfl, ?_⟩
      rw [if_neg (by decide)]
      exact post A4 F5 H5 _ ((p1.trans p2).trans p4) (s1.trans (s2.trans (s3.trans (s4.trans s5)))) k5 (.bl false)
    · cases h
  · rename_i e
    cases h
    refine hf A2 F2 H2 _ σ v1 v2 x y _ _ k2 (r1.mono s2 _ _) r2 e fun F3 H3 v s3 k3 r3 => ?_
    cases rp_bool_inv r3
    refine ⟨false, rfl, ?_⟩
    rw [if_neg (by decide)]
    exact post A2 F3 H3 _ (p1.trans p2) (s1.trans (s2.trans s3)) k3 (.bl false)
  · cases h
theorem t_chain3 {o1 o2 o3 : CmpOp} {r1 r2 r3 : R2} {f f' f'' : D → D → Option D} (h1 : OpR X (compareOp o1) r1) (h2 : OpR X (compareOp o2) r2) (h3 : OpR X (compareOp o3) r3) (hf : RdOp X.K r1 f) (hf' : RdOp X.K r2 f') (hf'' : RdOp X.K r3 f'') (ha : GE X a ga) (hb : GE X b gb) (hc : GE X c gc) (hd : GE X d gd)
    (hm : lastMarks [o1, o2, o3] [b, c, d] = false := by with_unfolding_all rfl) : GT X (.Compare a [o1, o2, o3] [b, c, d] pos) (gB (gChain3 f f' f'' ga gb gc gd)) := by
  obtain ⟨_, pa, ra⟩ := ha.ex
  obtain ⟨_, pb, rb⟩ := hb.ex
  obtain ⟨_, pc, rc⟩ := hc.ex
  obtain ⟨_, pd, rd⟩ := hd.ex
  exact ⟨_, pt_chain3 h1 h2 h3 pa pb pc pd hm, rd_test (rd_chain3 hf hf' hf'' ra rb rc rd)⟩
end
end Fu

set_option maxHeartbeats 4000000
namespace Fu
open PySem PySem.Spec PyProof.Rows L2 RZ
section
variable {X : Cx} {P : Hp → Prop} {pos py p p2 p3 p4 apos : Pos} {x y : Str} {a b c d e e2 e3 o : Expr} {es : List Expr} {ga gb gc gd ge go g2 : M D} {gs : M (List D)} {k : Nat}
/-! ### xs[::c], c is 1 or -1 -/
def tStepL (K : PySem.W.Frag) (te tc : TE) : TE := fun σ H Q => te σ H fun x H1 => ∃ a, x = .ref a ∧ tPart tc σ H1 fun o H2 => ∃ (c : Int) (xs : List V), o = some c ∧ SqL K H2 a xs ∧ (c = 1 ∨ c = -1) ∧ ∀ p, H2 p = none → Q (.ref p) (upd H2 p (.lst (if c = 1 then xs else xs.reverse)))
theorem pe_stepL {te tc : TE} (he : PE X e te) (hc : PE X c tc) (hs : ∀ l q : Addr, subscripted (.Slice none none (some c) p3) false (.ref l) (.ref q) = operate [.ref l, .ref q] (getItem (.ref l) (.ref q)) := by intro _ _; with_unfolding_all rfl) :
    PE X (.Subscript e (.Slice none none (some c) p3) pos) (tStepL X.K te tc) := by
  refine ⟨fun pins s σ H Q I h => ?_⟩
  refine Subscript_ (thn (he.run pins s σ H _ I h) fun v s1 ⟨x, H1, I1, r1, q1⟩ => ?_)
  obtain ⟨a, ex, q1⟩ := q1
  subst ex
  cases r1
  refine wpAny_Slice (thn (po_none.run pins s1 σ H1 (fun o H2 => o = none ∧ H2 = H1) I1 ⟨rfl, rfl⟩) fun vl s2 ⟨l, H2, I2, pl, el, e2⟩ => ?_)
  subst el e2
  refine thn (po_none.run pins s2 σ H2 (fun o H3 => o = none ∧ H3 = H2) I2 ⟨rfl, rfl⟩) fun vu s3 ⟨u, H3, I3, pu, eu, e3⟩ => ?_
  subst eu e3
  refine thn ((po_some hc).run pins s3 σ H3 _ I3 q1) fun vs s4 ⟨o, H4, I4, ps, q4⟩ => ?_
  obtain ⟨cc, xs, rfl, hx, hcc, q⟩ := q4
  have I5 : Inv X pins σ H4 { s4 with heap := s4.heap.push { cls := .type "slice", data := .fields #[vl, vu, vs] } } := I4.kept (t' := s4.toks) fun b ob q => Heap.get?_push_of_some _ q
  obtain ⟨its, r, ht, hz⟩ := I5.list hx
  have hlen := r.length
  refine tail_any (ops := [.ref a, .ref s4.heap.objs.size]) ht.isList.typeIs (PySem.slot_list_getitem.lookup) ?_ (hs _ _)
  refine wpAny_getItem_list_slice ht.isList (Heap.IsSliceOf.new _ vl vu vs) pl pu ps (by rcases hcc with rfl | rfl <;> decide) ?_ (by rw [List.size_toArray]; omega)
  rcases hcc with rfl | rfl
  · rw [show slicePick its.toArray none none (some 1) = slicePick its.toArray none none none from rfl, slicePick_cut]
    have e1 : (its.drop (HT.sIx its.length 0 none)).take (HT.sIx its.length its.length none - HT.sIx its.length 0 none) = its := by simp [HT.sIx]
    rw [e1]
    refine ⟨.ref _, _, I5.laid (t' := s4.toks) (o := .lst xs) (fun b ob q => Heap.get?_push_of_some _ q) (Nat.le_refl _) ?_, rfl, q _ (I5.hok.fresh (Nat.le_refl _))⟩
    exact ⟨hz, _, 0, r, Heap.get?_push_size _ rfl⟩
  · rw [PySem.W.krv_pick]
    refine ⟨.ref _, _, I5.laid (t' := s4.toks) (o := .lst xs.reverse) (fun b ob q => Heap.get?_push_of_some _ q) (Nat.le_refl _) ?_, rfl, q _ (I5.hok.fresh (Nat.le_refl _))⟩
    exact ⟨by rw [List.length_reverse]; exact hz, _, 0, r.reverse, Heap.get?_push_size _ rfl⟩
def gStepL (ga gc : M D) : M D := fun S => (ga S).bind fun p => (gc p.2).bind fun q => match p.1, q.1 with
  | .list xs, .int c => if c = 1 then some (.list xs, q.2) else if c = -1 then some (.list xs.reverse, q.2) else none
  | _, _ => none
theorem n_stepL (ha : GE X e ge) (hc : GE X c gc) (hs : ∀ l q : Addr, subscripted (.Slice none none (some c) p3) false (.ref l) (.ref q) = operate [.ref l, .ref q] (getItem (.ref l) (.ref q)) := by intro _ _; with_unfolding_all rfl) :
    GN X (.Subscript e (.Slice none none (some c) p3) pos) (gStepL ge gc) := by
  obtain ⟨_, pa, ra⟩ := ha.ex
  obtain ⟨_, pc, rc⟩ := hc.ex
  refine ⟨_, pe_stepL pa pc hs, fun A F H S σ d S' Q k h post => ?_⟩
  obtain ⟨⟨x, S1⟩, h1, h⟩ := bind_inv h
  obtain ⟨⟨y, S2⟩, h2, h⟩ := bind_inv h
  cases x <;> try (simp only at h; cases h)
  cases y <;> try (simp only at h; cases h)
  rename_i xs cc
  simp only at h
  refine ra A F H S σ _ _ _ k h1 fun A1 F1 H1 v s1 f1 k1 r1 => ?_
  obtain ⟨l, vs, rfl, g1, g2, g3⟩ := rp_list_inv r1
  refine ⟨l, rfl, rc A1 F1 H1 _ σ _ _ _ k1 h2 fun A2 F2 H2 u s2 f2 k2 r2 => ?_⟩
  cases rp_int_inv r2
  have g1' := f2 _ _ g1
  split at h
  · rename_i hc
    cases h
    exact ⟨cc, rfl, cc, vs, rfl, SqL.of (k2.sub.same _ _ g1'), .inl hc, fun q hq => post A2 F2 H2 q _ _ (s1.trans s2) (f1.trans f2) k2 hq rfl (by rw [if_pos hc]; exact Rps.mono f2 _ _ g2) g3⟩
  · rename_i hc
    split at h
    · rename_i hc2
      cases h
      exact ⟨cc, rfl, cc, vs, rfl, SqL.of (k2.sub.same _ _ g1'), .inr hc2, fun q hq => post A2 F2 H2 q _ _ (s1.trans s2) (f1.trans f2) k2 hq rfl (by rw [if_neg hc]; exact (Rps.mono f2 _ _ g2).reverse) (by rw [List.length_reverse]; exact g3)⟩
    · cases h
/-! ### xs.index(x) -/
def dIndex : D → D → Option D
  | .list ds, d => if SeqAt.shaped d = true ∧ SeqAt.shaped (.list ds) = true then (ds.findIdx? fun z => PyData.eqv z d).map (fun j : Nat => PyData.int (j : Int)) else none
  | _, _ => none
theorem e_index (hr : Room k X.A) (ho : GE X o go) (he : GE X e ge) (hbase : attributeBase o "index" X.env (eval o X.env) = eval o X.env := by rfl)
    (hfew : ((backTo pos (starEach [e] X.env)).all (fun x => !x.1) && (backToKw pos (keywordEach [] X.env)).all (fun x => x.1.isSome) && decide (([e] : List Expr).length + ([] : List Keyword).length + (if ([] : List Keyword).isEmpty then 0 else 1) < 30)) = true := by rfl)
    (hline : (apos.endLine == pos.line) = true := by rfl) (hst : starEach [e] X.env = (false, eval e X.env) :: starEach [] X.env := by rfl) : GE X (.Call (.Attribute o "index" apos) [e] [] pos) (gBin dIndex go ge) := by
  obtain ⟨_, po, ro⟩ := ho.ex
  obtain ⟨_, pe, re⟩ := he.ex
  refine ⟨_, pe_bm PySem.F.plainAttrs_list PySem.F.slot_list_index PySem.F.type_list_index (mt_indexD (hu65 hr)) po (pa_cons pe pa_nil hst) hbase hfew hline hst (by rfl), fun A F H S σ z S' Q k h post => ?_⟩
  obtain ⟨⟨x, S1⟩, h1, h⟩ := bind_inv h
  obtain ⟨⟨y, S2⟩, h2, h⟩ := bind_inv h
  obtain ⟨w, h3, h⟩ := bind_inv h
  cases h
  obtain ⟨ds, rfl⟩ : ∃ ds, x = .list ds := by
    cases x <;> simp only [dIndex] at h3 <;> first | cases h3 | exact ⟨_, rfl⟩
  simp only [dIndex] at h3
  split at h3
  · rename_i ok
    obtain ⟨j, hj, rfl⟩ := Option.map_eq_some_iff.mp h3
    refine ro A F H S σ _ _ _ k h1 fun A1 F1 H1 v s1 f1 k1 r1 => ?_
    have r1' := r1
    obtain ⟨l, vs, rfl, g1, g2, g3⟩ := rp_list_inv r1
    refine ⟨.inl ⟨rfl, _, SqL.of (k1.sub.same _ _ g1)⟩, re A1 F1 H1 _ σ _ _ _ k1 h2 fun A2 F2 H2 u s2 f2 k2 r2 => ?_⟩
    have hlt := (List.findIdx?_eq_some_iff_getElem.mp hj)
    obtain ⟨hl, hp, hn⟩ := hlt
    exact ⟨l, u, y, ds, j, ds[j], rfl, rfl, (r1'.mono f2 _ _).dpH k2.sub.same ok.2, r2.dpH k2.sub.same ok.1, ok.2, ok.1, List.getElem?_eq_getElem hl, hp, fun m z' hm hz => by
      obtain ⟨hml, rfl⟩ := List.getElem?_eq_some_iff.mp hz
      have := hn m hm
      simpa using this, post A2 F2 H2 _ (s1.trans s2) (f1.trans f2) k2 (.int _)⟩
  · cases h3
/-! ### max(a, b, c) -/
end
end Fu

set_option maxHeartbeats 4000000
namespace Fu
open PySem PySem.Spec PyProof.Rows L2 RZ
/-! ### calls that look at lists of one's own: they stay one's own, the answer holds no list -/
mutual
def hardD : D → Bool
  | .none | .bool _ | .int _ | .str _ => true
  | .list _ | .dict _ => false
  | .tuple ds => hardDs ds
def hardDs : List D → Bool
  | [] => true
  | d :: ds => hardD d && hardDs ds
end
mutual
theorem Rp.hard {K : PySem.W.Frag} {F H : Hp} (ht : ∀ b xs, SqT K H b xs → SqT K F b xs) : ∀ (d : D) (v : V), hardD d = true → Rp K H v d → Rp K F v d
  | .none, _, _, h => by cases h; exact .non
  | .bool b, _, _, h => by cases h; exact .bl b
  | .int i, _, _, h => by cases h; exact .int i
  | .str x, _, _, h => by
    cases h with
    | str hz => exact .str hz
  | .list ds, _, c, _ => by simp [hardD] at c
  | .dict kvs, _, c, _ => by simp [hardD] at c
  | .tuple ds, _, c, h => by
    cases h with
    | tup hs ha hz => exact .tup (ht _ _ hs) (Rps.hard ht ds _ (by simpa [hardD] using c) ha) hz
theorem Rps.hard {K : PySem.W.Frag} {F H : Hp} (ht : ∀ b xs, SqT K H b xs → SqT K F b xs) : ∀ (ds : List D) (vs : List V), hardDs ds = true → Rps K H vs ds → Rps K F vs ds
  | [], _, _, h => by cases h; exact .nil
  | d :: ds, _, c, h => by
    have c' : hardD d = true ∧ hardDs ds = true := by simpa [hardDs] using c
    cases h with
    | cons h1 h2 => exact .cons (Rp.hard ht d _ c'.1 h1) (Rps.hard ht ds _ c'.2 h2)
end
section
variable {X : Cx} {pos py p p2 : Pos} {x y : Str} {e : Expr} {es : List Expr} {ge : M D} {gs : M (List D)} {k n : Nat} {ps : List Str}
/-- what was not there before is known for good -/
def newH (F H H' : Hp) : Hp := fun b => match H b with
  | none => H' b
  | some _ => F b
theorem newH_new {F H H' : Hp} {b : Addr} (h : H b = none) : newH F H H' b = H' b := by unfold newH; rw [h]
theorem newH_old {F H H' : Hp} {b : Addr} {o : HO} (h : H b = some o) : newH F H H' b = F b := by unfold newH; rw [h]
theorem Ok.newH {K : PySem.W.Frag} {A : List Addr} {F H H' : Hp} {S : Sx} {σ : L2.St} (k : Ok K A F H S σ) (s : Same H H') : Same F (newH F H H') ∧ Ok K A (newH F H H') H' S σ := by
  have sm : Same F (Fu.newH F H H') := fun b o q => by
    rw [newH_old (k.sub.same b o q)]; exact q
  refine ⟨sm, k.grow ⟨fun b o q => ?_, fun b o q n => ?_⟩ sm (fun a _ o q => s a o q) fun a ha q => ?_⟩
  · cases e : H b with
    | none => rw [newH_new e] at q; exact q
    | some u => rw [newH_old e] at q; exact s b o (k.sub.same b o q)
  · cases e : H b with
    | none => rw [newH_new e, q] at n; cases n
    | some u =>
      rw [newH_old e] at n
      have := s b u e
      rw [q] at this; cases this
      exact k.sub.loose b o e n
  · obtain ⟨o, ho⟩ := k.trk a ha
    rw [newH_old ho]; exact q
theorem sqT_newH {K : PySem.W.Frag} {A : List Addr} {F H H' : Hp} {S : Sx} {σ : L2.St} (k : Ok K A F H S σ) (s : Same H H') {b : Addr} {xs : List V} (h : SqT K H' b xs) : SqT K (Fu.newH F H H') b xs := by
  have go : ∀ o, H' b = some o → ¬ Loose o → Fu.newH F H H' b = some o := fun o q nl => by
    cases e : H b with
    | none => rw [newH_new e]; exact q
    | some u =>
      have := s b u e
      rw [q] at this; cases this
      rw [newH_old e]
      exact k.sub.keep e nl
  rcases h with (h | ⟨o, h⟩) | h
  · exact .inl (.inl (go _ h (fun z => z)))
  · exact .inl (.inr ⟨o, go _ h (fun z => z)⟩)
  · exact .inr h
end
end Fu

set_option maxHeartbeats 4000000
namespace Fu
open PySem PySem.Spec PyProof.Rows L2 RZ
/-! ### looks: an expression that writes nothing sees one's own lists as data; they stay one's own -/
def mapO {α β : Type} (f : α → Option β) : List α → Option (List β)
  | [] => some []
  | x :: xs => (f x).bind fun y => (mapO f xs).map fun ys => y :: ys
def snapR (os : List (Option Cell)) : Nat → R → Option D
  | 0, .dat d => some d
  | 0, _ => none
  | _ + 1, .dat d => some d
  | _ + 1, .scr _ => none
  | _ + 1, .exc _ => none
  | n + 1, .tup rs => (mapO (snapR os n) rs).map .tuple
  | n + 1, .own j => match os[j]? with
    | some (some (.lst ds)) => some (.list ds)
    | some (some (.lR rs)) => (mapO (snapR os n) rs).map .list
    | _ => none
def sealS (os : List (Option Cell)) : Option R → Option R
  | some (.scr ns) => some (.scr ns)
  | some (.exc c) => some (.exc c)
  | some r => (snapR os 8 r).map .dat
  | none => none
def sealAll (S : Sx) : Sx := ⟨S.sl.map (sealS S.os), S.os.map fun _ => none⟩
section
variable {K : PySem.W.Frag} {A : List Addr} {F H H' : Hp} {S : Sx} {σ : L2.St}
theorem mapO_len {α β : Type} {f : α → Option β} : ∀ {xs : List α} {ys : List β}, mapO f xs = some ys → ys.length = xs.length
  | [], _, h => by cases h; rfl
  | x :: xs, _, h => by
    obtain ⟨y, _, h⟩ := bind_inv h
    obtain ⟨ys, h1, rfl⟩ := Option.map_eq_some_iff.mp h
    rw [List.length_cons, List.length_cons, mapO_len h1]
theorem snaps_ok {n : Nat} {os : List (Option Cell)} {P : V → R → Prop} (h : ∀ r v d, snapR os n r = some d → P v r → Rp K H v d) : ∀ (rs : List R) (vs : List V) (ds : List D), mapO (snapR os n) rs = some ds → (∀ (i : Nat) r, rs[i]? = some r → ∃ v, vs[i]? = some v ∧ P v r) → vs.length = rs.length → Rps K H vs ds
  | [], vs, _, e, _, l => by
    cases e
    have : vs = [] := List.length_eq_zero_iff.mp l
    rw [this]; exact .nil
  | r :: rs, vs, _, e, g, l => by
    obtain ⟨d, e1, e⟩ := bind_inv e
    obtain ⟨ds, e2, rfl⟩ := Option.map_eq_some_iff.mp e
    cases vs with
    | nil => cases l
    | cons v vs =>
      obtain ⟨v', e3, p⟩ := g 0 r rfl
      cases e3
      exact .cons (h r v d e1 p) (snaps_ok h rs vs ds e2 (fun i r hr => by simpa using g (i + 1) r (by simpa using hr)) (by simpa using l))
theorem snap_ok (k : Ok K A F H S σ) : ∀ (n : Nat) (r : R) (v : V) (d : D), snapR S.os n r = some d → Rr K A F v r → Rp K H v d := by
  intro n
  induction n with
  | zero =>
    intro r v d e q
    cases q with
    | dat q => cases e; exact Rp.mono k.sub.same _ _ q
    | own _ => cases e
    | scr _ _ => cases e
    | tup _ _ _ => cases e
    | exc _ _ => cases e
  | succ n ih =>
    intro r v d e q
    cases q with
    | dat q => cases e; exact Rp.mono k.sub.same _ _ q
    | scr _ _ => cases e
    | exc _ _ => cases e
    | tup hs hr hz =>
      obtain ⟨ds, e1, rfl⟩ := Option.map_eq_some_iff.mp e
      exact .tup (sqT_same k.sub.same hs) (snaps_ok ih _ _ _ e1 (fun i r h => hr.get h) hr.length) (by rw [mapO_len e1]; exact hz)
    | @own j a ha =>
      unfold snapR at e
      split at e
      · rename_i ds ej
        cases e
        obtain ⟨a', e1, fa, vs, hv, r, hz⟩ := k.cell j _ ej
        rw [ha] at e1; cases e1
        exact .lst hv (Rps.mono k.sub.same _ _ r) hz
      · rename_i rs ej
        obtain ⟨ds, e2, rfl⟩ := Option.map_eq_some_iff.mp e
        obtain ⟨a', e1, fa, vs, hv, r, hz⟩ := k.cell j _ ej
        rw [ha] at e1; cases e1
        exact .lst hv (snaps_ok ih _ _ _ e2 (fun i r' h => r.get h) r.length) (by rw [mapO_len e2]; exact hz)
      · cases e
theorem Ok.view (k : Ok K A F H S σ) : Ok K A H H (sealAll S) σ where
  sub := Sub.refl H
  len := by rw [← k.len]; simp [sealAll]
  alen := by rw [← k.alen]; simp [sealAll]
  nd := k.nd
  rslot := fun i r h => by
    unfold sealAll at h
    simp only [List.getElem?_map, Option.map_eq_some_iff] at h
    obtain ⟨x, hx, h⟩ := h
    unfold sealS at h
    split at h
    · rename_i ns
      cases h
      obtain ⟨v, e, q⟩ := k.rslot i _ hx
      exact ⟨v, e, q.mono (List.prefix_refl _) k.sub.same _ _⟩
    · rename_i c'
      cases h
      obtain ⟨v, e, q⟩ := k.rslot i _ hx
      exact ⟨v, e, q.mono (List.prefix_refl _) k.sub.same _ _⟩
    · rename_i r' nr nr2
      obtain ⟨d, e1, rfl⟩ := Option.map_eq_some_iff.mp h
      obtain ⟨v, e, q⟩ := k.rslot i _ hx
      exact ⟨v, e, .dat (snap_ok k _ _ _ _ e1 q)⟩
    · cases h
  cell := fun j c h => by
    unfold sealAll at h
    simp only [List.getElem?_map, Option.map_eq_some_iff] at h
    obtain ⟨_, _, h⟩ := h
    cases h
  trk := k.trk
end
section
variable {X : Cx} {e : Expr} {g : M D} {gt : M Bool}
def gView (g : M D) : M D := fun S => (g (sealAll S)).bind fun q => if hardD q.1 = true then some (q.1, S) else none
theorem e_view (h : GE X e g) : GE X e (gView g) := by
  obtain ⟨t, p, r⟩ := h.ex
  refine ⟨t, p, fun A F H S σ d S' Q k e post => ?_⟩
  obtain ⟨⟨d, S1⟩, e1, e⟩ := bind_inv e
  simp only at e
  split at e
  · rename_i hz
    cases e
    refine r A H H _ σ d S1 Q k.view e1 fun A1 F1 H1 v p1 s1 k1 r1 => ?_
    have sm : Same H H1 := s1.trans k1.sub.same
    obtain ⟨s2, k2⟩ := k.newH sm
    exact post A _ H1 v (List.prefix_refl _) s2 k2 (Rp.hard (fun b xs q => sqT_newH k sm (sqT_same k1.sub.same q)) _ _ hz r1)
  · cases e
end
end Fu

set_option maxHeartbeats 4000000
namespace Fu
open PySem

/-! ### data: shaped, equal -/
theorem shaped_iff {d : D} : SeqAt.shaped d = true ↔ d.canLay0 = true ∧ d.depth ≤ 64 := by
  unfold SeqAt.shaped
  rw [Bool.and_eq_true, decide_eq_true_eq]
@[simp] theorem shaped_int (i : Int) : SeqAt.shaped (.int i) = true := by simp [shaped_iff, PyData.canLay0, PyData.depth]
@[simp] theorem shaped_bool (b : Bool) : SeqAt.shaped (.bool b) = true := by simp [shaped_iff, PyData.canLay0, PyData.depth]
@[simp] theorem shaped_none : SeqAt.shaped .none = true := by simp [shaped_iff, PyData.canLay0, PyData.depth]
@[simp] theorem dEq_int (a b : Int) : dEq (.int a) (.int b) = some (.bool (decide (a = b))) := by
  simp [dEq, PyData.eqv, Bool.beq_eq_decide_eq]
@[simp] theorem dNe_int (a b : Int) : dNe (.int a) (.int b) = some (.bool (!decide (a = b))) := by
  simp [dNe, PyData.eqv, Bool.beq_eq_decide_eq]
theorem dNe_self {d : D} (h : SeqAt.shaped d = true) : dNe d d = some (.bool false) := by
  unfold dNe
  rw [if_pos ⟨h, h⟩, SeqAt.eqv_refl _ (shaped_iff.mp h).1]; rfl
/-- lists (tuples) of things of one shape, their depth at most n -/
def Fine (n : Nat) (d : D) : Prop := d.canLay0 = true ∧ d.depth ≤ n
theorem Fine.mono {m n : Nat} {d : D} (h : Fine m d) (l : m ≤ n) : Fine n d := ⟨h.1, Nat.le_trans h.2 l⟩
theorem Fine.shaped {n : Nat} {d : D} (h : Fine n d) (l : n ≤ 64 := by decide) : SeqAt.shaped d = true := shaped_iff.mpr ⟨h.1, Nat.le_trans h.2 l⟩
theorem fine_all {n : Nat} : ∀ {ds : List D}, (∀ d ∈ ds, Fine n d) → PyData.canLayAll0 ds = true ∧ PyData.depthAll ds ≤ n
  | [], _ => ⟨rfl, Nat.zero_le _⟩
  | d :: ds, h => by
    obtain ⟨a, b⟩ := fine_all fun e he => h e (List.mem_cons_of_mem _ he)
    have c := h d List.mem_cons_self
    exact ⟨by simp [PyData.canLayAll0, a, c.1], by simp only [PyData.depthAll]; exact Nat.max_le.mpr ⟨c.2, b⟩⟩
theorem fine_list {n : Nat} {ds : List D} (h : ∀ d ∈ ds, Fine n d) : Fine (n + 1) (.list ds) := by
  obtain ⟨a, b⟩ := fine_all h
  exact ⟨by simpa [PyData.canLay0] using a, by simp only [PyData.depth]; omega⟩
theorem fine_tup {n : Nat} {ds : List D} (h : ∀ d ∈ ds, Fine n d) : Fine (n + 1) (.tuple ds) := by
  obtain ⟨a, b⟩ := fine_all h
  exact ⟨by simpa [PyData.canLay0] using a, by simp only [PyData.depth]; omega⟩
theorem fine_int (i : Int) : Fine 0 (.int i) := ⟨by simp [PyData.canLay0], by simp [PyData.depth]⟩
theorem fine_str {x : Str} (h : PyData.strOk x = true) : Fine 0 (.str x) := ⟨by simpa [PyData.canLay0] using h, by simp [PyData.depth]⟩
/-- one sign -/
def ch (c : Nat) : D := .str ⟨#[c]⟩
theorem fine_ch {c : Nat} (h : c < 0x110000) : Fine 0 (ch c) := fine_str (by simp [PyData.strOk, h])
theorem ch_inj {a b : Nat} (h : ch a = ch b) : a = b := by
  unfold ch at h
  injection h with h
  injection h with h
  have := congrArg (fun z : Array Nat => z.toList) h
  simpa using this
theorem dEq_ch {a b : Nat} (ha : a < 0x110000) (hb : b < 0x110000) : dEq (ch a) (ch b) = some (.bool (decide (a = b))) := by
  unfold dEq
  rw [if_pos ⟨(fine_ch ha).shaped, (fine_ch hb).shaped⟩]
  congr 2
  unfold ch
  simp only [PyData.eqv]
  by_cases h : a = b
  · subst h; simp
  · rw [decide_eq_false h, beq_eq_false_iff_ne]
    intro e
    exact h (ch_inj (congrArg PyData.str e))
theorem dNe_ch {a b : Nat} (ha : a < 0x110000) (hb : b < 0x110000) : dNe (ch a) (ch b) = some (.bool (!decide (a = b))) := by
  have h := dEq_ch ha hb
  unfold dEq at h
  unfold dNe
  rw [if_pos ⟨(fine_ch ha).shaped, (fine_ch hb).shaped⟩] at h ⊢
  injection h with h
  injection h with h
  rw [h]

/-! ### comprehensions that change nothing else -/
theorem backS_same {old new : List (Option R)} {vs : List Nat} (h : wipeS new vs = wipeS old vs) : backS old new vs = old := by
  have hl : old.length = new.length := by
    have := congrArg List.length h
    rw [wipeS_len, wipeS_len] at this
    exact this.symm
  apply List.ext_getElem?
  intro n
  rw [backS_in hl]
  by_cases hn : n ∈ vs
  · rw [if_pos hn]
  · rw [if_neg hn]
    have := congrArg (fun l => l[n]?) h
    have h2 : (wipeS new vs)[n]? = (wipeS old vs)[n]? := this
    rwa [wipeS_out hn, wipeS_out hn] at h2
/-! ### loops -/
theorem loop_inv {gg : D → Sx → Option Sx} {body : Sx → Option Out} (I : Nat → Sx → Prop) : ∀ (ds : List D) (n : Nat) (S : Sx), I n S → (∀ i d S, ds[i]? = some d → I (n + i) S → ∃ S1 S2, gg d S = some S1 ∧ body S1 = some (.nx S2) ∧ I (n + i + 1) S2) →
    ∃ S', gLoop gg body ds S = some (.nx S') ∧ I (n + ds.length) S'
  | [], n, S, h0, _ => ⟨S, rfl, h0⟩
  | d :: ds, n, S, h0, hs => by
    obtain ⟨S1, S2, h1, h2, h3⟩ := hs 0 d S rfl h0
    obtain ⟨S', h4, h5⟩ := loop_inv I ds (n + 1) S2 h3 fun i e T he hI => by
      have := hs (i + 1) e T (by simpa using he) (by rwa [show n + (i + 1) = n + 1 + i by omega])
      rwa [show n + (i + 1) + 1 = n + 1 + i + 1 by omega] at this
    refine ⟨S', ?_, by rwa [show n + (d :: ds).length = n + 1 + ds.length by simp; omega]⟩
    rw [gLoop]
    simp only [h1, h2, Option.bind_some]
    exact h4
theorem rng_at {lo : Int} {n i : Nat} {d : D} (h : (rng lo n)[i]? = some d) : i < n ∧ d = .int (lo + i) := by
  unfold rng at h
  rw [List.getElem?_map] at h
  obtain ⟨j, hj, rfl⟩ := Option.map_eq_some_iff.mp h
  obtain ⟨h1, h2⟩ := List.getElem?_eq_some_iff.mp hj
  simp at h1 h2
  subst h2
  exact ⟨h1, rfl⟩
theorem atI_ok {α : Type} {xs : List α} {i : Int} (h0 : 0 ≤ i) (h1 : i < xs.length) : L2.atI xs i = xs[i.toNat]? := by
  unfold L2.atI L2.ixN
  rw [if_pos h0, if_pos h1]; rfl
theorem line_eq : sizeLine = 16777216 := sizeLine_eq
end Fu

set_option maxHeartbeats 4000000
namespace Fu
open PySem

/-! ### plain data: no truth value inside; there python's equality is equality -/
mutual
def plain : D → Bool
  | .none | .int _ | .str _ => true
  | .bool _ | .dict _ => false
  | .list xs | .tuple xs => plains xs
def plains : List D → Bool
  | [] => true
  | x :: xs => plain x && plains xs
end
mutual
theorem eqv_plain : ∀ d e : D, plain d = true → plain e = true → (PyData.eqv d e = true ↔ d = e)
  | .none, e, _, h => by cases e <;> simp [PyData.eqv, plain] at h ⊢
  | .int i, e, _, h => by cases e <;> simp [PyData.eqv, plain] at h ⊢
  | .str i, e, _, h => by cases e <;> simp [PyData.eqv, plain] at h ⊢
  | .bool b, _, h, _ => by simp [plain] at h
  | .dict b, _, h, _ => by simp [plain] at h
  | .list xs, e, h1, h2 => by
    cases e with
    | list ys =>
      simp only [plain] at h1 h2
      rw [PyData.eqv, eqvs_plain xs ys h1 h2]
      exact ⟨fun h => by rw [h], fun h => by injection h⟩
    | _ => simp [PyData.eqv, plain] at h2 ⊢
  | .tuple xs, e, h1, h2 => by
    cases e with
    | tuple ys =>
      simp only [plain] at h1 h2
      rw [PyData.eqv, eqvs_plain xs ys h1 h2]
      exact ⟨fun h => by rw [h], fun h => by injection h⟩
    | _ => simp [PyData.eqv, plain] at h2 ⊢
theorem eqvs_plain : ∀ xs ys : List D, plains xs = true → plains ys = true → (PyData.eqvAll xs ys = true ↔ xs = ys)
  | [], ys, _, _ => by cases ys <;> simp [PyData.eqvAll]
  | x :: xs, [], _, _ => by simp [PyData.eqvAll]
  | x :: xs, y :: ys, h1, h2 => by
    simp only [plains, Bool.and_eq_true] at h1 h2
    rw [PyData.eqvAll, Bool.and_eq_true, eqv_plain x y h1.1 h2.1, eqvs_plain xs ys h1.2 h2.2]
    exact ⟨fun h => by rw [h.1, h.2], fun h => by injection h; exact ⟨by assumption, by assumption⟩⟩
end
theorem plains_all {xs : List D} : plains xs = true ↔ ∀ d ∈ xs, plain d = true := by
  induction xs with
  | nil => simp [plains]
  | cons x xs ih => simp [plains, ih]
/-- good data: plain, of shape, not deep -/
structure Good (n : Nat) (d : D) : Prop where
  fine : Fine n d
  plain : plain d = true
theorem Good.shaped {n : Nat} {d : D} (h : Good n d) (l : n ≤ 64 := by decide) : SeqAt.shaped d = true := h.fine.shaped l
theorem Good.mono {m n : Nat} {d : D} (h : Good m d) (l : m ≤ n) : Good n d := ⟨h.fine.mono l, h.plain⟩
theorem good_int (i : Int) : Good 0 (.int i) := ⟨fine_int i, rfl⟩
theorem good_list {n : Nat} {ds : List D} (h : ∀ d ∈ ds, Good n d) : Good (n + 1) (.list ds) := ⟨fine_list fun d hd => (h d hd).fine, plains_all.mpr fun d hd => (h d hd).plain⟩
theorem good_tup {n : Nat} {ds : List D} (h : ∀ d ∈ ds, Good n d) : Good (n + 1) (.tuple ds) := ⟨fine_tup fun d hd => (h d hd).fine, plains_all.mpr fun d hd => (h d hd).plain⟩
open Classical in
open Classical in
/-! ### what a run answers, forwards -/
def Ev {α : Type} (x : Option (α × Sx)) (Q : α → Sx → Prop) : Prop := ∃ a S, x = some (a, S) ∧ Q a S
def Es (x : Option Sx) (Q : Sx → Prop) : Prop := ∃ S, x = some S ∧ Q S
def Eo (x : Option Out) (Q : Out → Prop) : Prop := ∃ o, x = some o ∧ Q o
def Ed {α : Type} (x : Option α) (Q : α → Prop) : Prop := ∃ d, x = some d ∧ Q d
theorem Ev.mono {α : Type} {x : Option (α × Sx)} {P Q : α → Sx → Prop} (h : Ev x P) (f : ∀ a S, P a S → Q a S) : Ev x Q := let ⟨a, S, e, p⟩ := h; ⟨a, S, e, f a S p⟩
theorem Eo.mono {x : Option Out} {P Q : Out → Prop} (h : Eo x P) (f : ∀ a, P a → Q a) : Eo x Q := let ⟨a, e, p⟩ := h; ⟨a, e, f a p⟩
theorem Ed.of {α : Type} {x : Option α} {d : α} {Q : α → Prop} (e : x = some d) (h : Q d) : Ed x Q := ⟨d, e, h⟩
theorem Ev.of {α : Type} {x : Option (α × Sx)} {d : α} {S : Sx} {Q : α → Sx → Prop} (e : x = some (d, S)) (h : Q d S) : Ev x Q := ⟨d, S, e, h⟩
theorem Ev.eq {α : Type} {x : Option (α × Sx)} {d : α} {S : Sx} (h : Ev x fun a T => a = d ∧ T = S) : x = some (d, S) := by
  obtain ⟨a, T, e, rfl, rfl⟩ := h; exact e
theorem Es.eq {x : Option Sx} {S : Sx} (h : Es x fun T => T = S) : x = some S := by
  obtain ⟨T, e, rfl⟩ := h; exact e
section
variable {α : Type} {S : Sx} {Q : D → Sx → Prop} {P : Bool → Sx → Prop} {L : List D → Sx → Prop} {O : Option Int → Sx → Prop} {Z : Out → Prop} {W : Sx → Prop}
theorem ev_c {d : D} (h : Q d S) : Ev (gC d S) Q := ⟨d, S, rfl, h⟩
theorem ev_var {sl : List (Option R)} {os : List (Option Cell)} {i : Nat} (h : ∃ d, sl[i]? = some (some (.dat d)) ∧ Q d ⟨sl, os⟩) : Ev (gVar i ⟨sl, os⟩) Q := by
  obtain ⟨d, e, h⟩ := h
  exact ⟨d, _, by unfold gVar; simp only [e], h⟩
theorem ev_bin {f : D → D → Option D} {ga gb : M D} (h : Ev (ga S) fun d S1 => Ev (gb S1) fun e S2 => Ed (f d e) fun z => Q z S2) : Ev (gBin f ga gb S) Q := by
  obtain ⟨d, S1, e1, e, S2, e2, z, e3, q⟩ := h
  exact ⟨z, S2, by simp only [gBin, e1, e2, e3, Option.bind_some], q⟩
theorem ev_un {f : D → Option D} {ga : M D} (h : Ev (ga S) fun d S1 => Ed (f d) fun z => Q z S1) : Ev (gUn f ga S) Q := by
  obtain ⟨d, S1, e1, z, e3, q⟩ := h
  exact ⟨z, S1, by simp only [gUn, e1, e3, Option.bind_some], q⟩
theorem ev_nil (h : L [] S) : Ev (gNil S) L := ⟨_, _, rfl, h⟩
theorem ev_cons {g : M D} {gs : M (List D)} (h : Ev (g S) fun d S1 => Ev (gs S1) fun ds S2 => L (d :: ds) S2) : Ev (gCons g gs S) L := by
  obtain ⟨d, S1, e1, e, S2, e2, q⟩ := h
  exact ⟨_, S2, by simp only [gCons, e1, e2, Option.bind_some], q⟩
theorem ev_tup {g : M (List D)} (h : Ev (g S) fun ds S1 => ds.length ≤ 16777216 ∧ Q (.tuple ds) S1) : Ev (gTup g S) Q := by
  obtain ⟨d, S1, e1, l, q⟩ := h
  exact ⟨_, S1, by simp only [gTup, e1, Option.bind_some, line_eq, if_pos l], q⟩
theorem ev_lst {g : M (List D)} (h : Ev (g S) fun ds S1 => ds.length ≤ 16777216 ∧ Q (.list ds) S1) : Ev (gLst g S) Q := by
  obtain ⟨d, S1, e1, l, q⟩ := h
  exact ⟨_, S1, by simp only [gLst, e1, Option.bind_some, line_eq, if_pos l], q⟩
theorem ev_call {f : List D → Option D} {g : M (List D)} (h : Ev (g S) fun ds S1 => Ed (f ds) fun z => Q z S1) : Ev (gCall f g S) Q := by
  obtain ⟨d, S1, e1, z, e3, q⟩ := h
  exact ⟨z, S1, by simp only [gCall, e1, e3, Option.bind_some], q⟩
theorem ev_callF {n : Nat} {f : List D → Option D} {g : M (List D)} (h : Ev (g S) fun ds S1 => ds.length = n ∧ Ed (f ds) fun z => Q z S1) : Ev (gCallF n f g S) Q := by
  obtain ⟨d, S1, e1, l, z, e3, q⟩ := h
  exact ⟨z, S1, by simp only [gCallF, e1, e3, Option.bind_some, if_pos l], q⟩
theorem ev_isi {T : String} {g : M D} (h : Ev (g S) fun d S1 => Q (.bool (isT T d)) S1) : Ev (gIsi T g S) Q := by
  obtain ⟨d, S1, e1, q⟩ := h
  exact ⟨_, S1, by simp only [gIsi, e1, Option.bind_some], q⟩
theorem ev_isi2 {T U : String} {g : M D} (h : Ev (g S) fun d S1 => Q (.bool (isT T d || isT U d)) S1) : Ev (gIsi2 T U g S) Q := by
  obtain ⟨d, S1, e1, q⟩ := h
  exact ⟨_, S1, by simp only [gIsi2, e1, Option.bind_some], q⟩
theorem ev_andV {g k : M D} (h : Ev (g S) fun d S1 => ∃ b, d = .bool b ∧ (b = true → Ev (k S1) fun e S2 => ∃ c, e = .bool c ∧ Q (.bool c) S2) ∧ (b = false → Q (.bool false) S1)) : Ev (gAndV g k S) Q := by
  obtain ⟨d, S1, e1, b, rfl, h1, h2⟩ := h
  cases b with
  | true => 
    obtain ⟨e, S2, e2, c, rfl, q⟩ := h1 rfl
    exact ⟨_, S2, by simp [gAndV, e1, e2], q⟩
  | false => exact ⟨_, S1, by simp [gAndV, e1], h2 rfl⟩
theorem ev_orV {g k : M D} (h : Ev (g S) fun d S1 => ∃ b, d = .bool b ∧ (b = false → Ev (k S1) fun e S2 => ∃ c, e = .bool c ∧ Q (.bool c) S2) ∧ (b = true → Q (.bool true) S1)) : Ev (gOrV g k S) Q := by
  obtain ⟨d, S1, e1, b, rfl, h1, h2⟩ := h
  cases b with
  | false => 
    obtain ⟨e, S2, e2, c, rfl, q⟩ := h1 rfl
    exact ⟨_, S2, by simp [gOrV, e1, e2], q⟩
  | true => exact ⟨_, S1, by simp [gOrV, e1], h2 rfl⟩
theorem ev_notV {g : M D} (h : Ev (g S) fun d S1 => ∃ b, d = .bool b ∧ Q (.bool !b) S1) : Ev (gNotV g S) Q := by
  obtain ⟨d, S1, e1, b, rfl, q⟩ := h
  exact ⟨_, S1, by simp [gNotV, e1], q⟩
theorem ev_B {g : M D} (h : Ev (g S) fun d S1 => ∃ b, d = .bool b ∧ P b S1) : Ev (gB g S) P := by
  obtain ⟨d, S1, e1, b, rfl, q⟩ := h
  exact ⟨b, S1, by simp only [gB, e1, Option.bind_some], q⟩
theorem ev_and {g k : M Bool} (h : Ev (g S) fun b S1 => (b = true → Ev (k S1) P) ∧ (b = false → P false S1)) : Ev (gAnd g k S) P := by
  obtain ⟨b, S1, e1, h1, h2⟩ := h
  cases b with
  | true => 
    obtain ⟨c, S2, e2, q⟩ := h1 rfl
    exact ⟨_, S2, by simp [gAnd, e1, e2], q⟩
  | false => exact ⟨_, S1, by simp [gAnd, e1], h2 rfl⟩
theorem ev_or {g k : M Bool} (h : Ev (g S) fun b S1 => (b = false → Ev (k S1) P) ∧ (b = true → P true S1)) : Ev (gOr g k S) P := by
  obtain ⟨b, S1, e1, h1, h2⟩ := h
  cases b with
  | false => 
    obtain ⟨c, S2, e2, q⟩ := h1 rfl
    exact ⟨_, S2, by simp [gOr, e1, e2], q⟩
  | true => exact ⟨_, S1, by simp [gOr, e1], h2 rfl⟩
theorem ev_not {g : M Bool} (h : Ev (g S) fun b S1 => P (!b) S1) : Ev (gNot g S) P := by
  obtain ⟨b, S1, e1, q⟩ := h
  exact ⟨_, S1, by simp [gNot, e1], q⟩
theorem ev_yes (h : P true S) : Ev (gYes S) P := ⟨_, _, rfl, h⟩
theorem ev_if {t : M Bool} {g k : M D} (h : Ev (t S) fun b S1 => (b = true → Ev (g S1) Q) ∧ (b = false → Ev (k S1) Q)) : Ev (gIf t g k S) Q := by
  obtain ⟨b, S1, e1, h1, h2⟩ := h
  cases b with
  | true => 
    obtain ⟨c, S2, e2, q⟩ := h1 rfl
    exact ⟨_, S2, by simp [gIf, e1, e2], q⟩
  | false =>
    obtain ⟨c, S2, e2, q⟩ := h2 rfl
    exact ⟨_, S2, by simp [gIf, e1, e2], q⟩
theorem ev_no (h : O none S) : Ev (gNo S) O := ⟨_, _, rfl, h⟩
theorem ev_so {g : M D} (h : Ev (g S) fun d S1 => ∃ i, d = .int i ∧ O (some i) S1) : Ev (gSo g S) O := by
  obtain ⟨d, S1, e1, i, rfl, q⟩ := h
  exact ⟨_, S1, by simp only [gSo, e1, Option.bind_some], q⟩
theorem ev_sl {g : M D} {gl gh : M (Option Int)} (h : Ev (g S) fun d S1 => Ev (gl S1) fun lo S2 => Ev (gh S2) fun hi S3 => Ed (dSl d lo hi) fun z => Q z S3) : Ev (gSl g gl gh S) Q := by
  obtain ⟨d, S1, e1, lo, S2, e2, hi, S3, e3, z, e4, q⟩ := h
  exact ⟨z, S3, by simp only [gSl, e1, e2, e3, e4, Option.bind_some], q⟩
theorem ev_items {g : M D} (h : Ev (g S) fun d S1 => Ed (itemsOf d) fun xs => L xs S1) : Ev (gItems g S) L := by
  obtain ⟨d, S1, e1, xs, e2, q⟩ := h
  exact ⟨xs, S1, by simp only [gItems, e1, e2, Option.bind_some], q⟩
theorem ev_rng1 {g : M (List D)} (h : Ev (g S) fun ds S1 => ∃ n : Int, ds = [.int n] ∧ -4611686018427387904 ≤ n ∧ n ≤ 16777216 ∧ L (rng 0 n.toNat) S1) : Ev (gRng1 g S) L := by
  obtain ⟨ds, S1, e1, n, rfl, l1, l2, q⟩ := h
  exact ⟨_, S1, by simp only [gRng1, e1, Option.bind_some, line_eq]; rw [if_pos ⟨by omega, by omega⟩], q⟩
theorem ev_rng2 {g : M (List D)} (h : Ev (g S) fun ds S1 => ∃ i j : Int, ds = [.int i, .int j] ∧ -4294967296 ≤ i ∧ i ≤ 4294967296 ∧ -4294967296 ≤ j ∧ j ≤ 4294967296 ∧ j - i ≤ 16777216 ∧ L (rng i (j - i).toNat) S1) : Ev (gRng2 g S) L := by
  obtain ⟨ds, S1, e1, i, j, rfl, l1, l2, l3, l4, l5, q⟩ := h
  exact ⟨_, S1, by simp only [gRng2, e1, Option.bind_some, line_eq]; rw [if_pos ⟨by omega, by omega, by omega, by omega, by omega⟩], q⟩
theorem es_name {i : Nat} {d : D} (h : W ⟨S.sl.set i (some (.dat d)), S.os⟩) : Es (sName i d S) W := ⟨_, rfl, h⟩
theorem es_tup2 {i j : Nat} {d e : D} (h : W ⟨(S.sl.set i (some (.dat d))).set j (some (.dat e)), S.os⟩) : Es (sTup 2 (sCons (sName i) (sCons (sName j) sNil)) (.tuple [d, e]) S) W := ⟨_, rfl, h⟩
theorem es_tup3 {i j k : Nat} {d e f : D} (h : W ⟨((S.sl.set i (some (.dat d))).set j (some (.dat e))).set k (some (.dat f)), S.os⟩) : Es (sTup 3 (sCons (sName i) (sCons (sName j) (sCons (sName k) sNil))) (.tuple [d, e, f]) S) W := ⟨_, rfl, h⟩
/-- what goes on after a statement -/
def Then (h : Sx → Option Out) (Z : Out → Prop) : Out → Prop
  | .nx S => Eo (h S) Z
  | .rt d S => Z (.rt d S)
  | .bk S => Z (.bk S)
  | .ct S => Z (.ct S)
  | .ro j S => Z (.ro j S)
theorem eo_seq {g h : Sx → Option Out} (e : Eo (g S) (Then h Z)) : Eo (qSeq g h S) Z := by
  obtain ⟨o, e1, q⟩ := e
  cases o with
  | nx S1 =>
    obtain ⟨o2, e2, q⟩ := q
    exact ⟨o2, by simp only [qSeq, e1, Option.bind_some, e2], q⟩
  | _ => exact ⟨_, by simp only [qSeq, e1, Option.bind_some], q⟩
theorem then_nx' {h : Sx → Option Out} {S1 : Sx} (e : ∃ S2, S1 = S2 ∧ Eo (h S2) Z) : Then h Z (.nx S1) := by obtain ⟨_, rfl, e⟩ := e; exact e
theorem eo_nx (h : Z (.nx S)) : Eo (qNx S) Z := ⟨_, rfl, h⟩
theorem eo_drop {g : M D} (h : Ev (g S) fun _ S1 => Z (.nx S1)) : Eo (qDrop g S) Z := by
  obtain ⟨d, S1, e1, q⟩ := h
  exact ⟨_, by simp only [qDrop, e1, Option.bind_some], q⟩
theorem eo_ret {g : M D} (h : Ev (g S) fun d S1 => Z (.rt d S1)) : Eo (qRet g S) Z := by
  obtain ⟨d, S1, e1, q⟩ := h
  exact ⟨_, by simp only [qRet, e1, Option.bind_some], q⟩
theorem eo_retN (h : Z (.rt .none S)) : Eo (qRetN S) Z := ⟨_, rfl, h⟩
theorem eo_if {t : M Bool} {g k : Sx → Option Out} (h : Ev (t S) fun b S1 => (b = true → Eo (g S1) Z) ∧ (b = false → Eo (k S1) Z)) : Eo (qIf t g k S) Z := by
  obtain ⟨b, S1, e1, h1, h2⟩ := h
  cases b with
  | true =>
    obtain ⟨c, e2, q⟩ := h1 rfl
    exact ⟨_, by simp [qIf, e1, e2], q⟩
  | false =>
    obtain ⟨c, e2, q⟩ := h2 rfl
    exact ⟨_, by simp [qIf, e1, e2], q⟩
theorem eo_set {i : Nat} {g : M D} (h : Ev (g S) fun d S1 => Z (.nx ⟨S1.sl.set i (some (.dat d)), S1.os⟩)) : Eo (qSet i g S) Z := by
  obtain ⟨d, S1, e1, q⟩ := h
  exact ⟨_, by simp only [qSet, e1, Option.bind_some], q⟩
theorem eo_asg {gg : D → Sx → Option Sx} {g : M D} (h : Ev (g S) fun d S1 => Es (gg d S1) fun S2 => Z (.nx S2)) : Eo (qAsg gg g S) Z := by
  obtain ⟨d, S1, e1, S2, e2, q⟩ := h
  exact ⟨_, by simp only [qAsg, e1, e2, Option.bind_some], q⟩
theorem eo_par {i j : Nat} {g : M (List D)} (h : Ev (g S) fun ds S1 => ∃ d e, ds = [d, e] ∧ Z (.nx ⟨(S1.sl.set i (some (.dat d))).set j (some (.dat e)), S1.os⟩)) : Eo (qPar i j g S) Z := by
  obtain ⟨ds, S1, e1, d, e, rfl, q⟩ := h
  exact ⟨_, by simp only [qPar, e1, Option.bind_some], q⟩
theorem eo_own {i : Nat} {g : M D} (h : Ev (g S) fun d S1 => ∃ ds, d = .list ds ∧ Z (.nx ⟨S1.sl.set i (some (.own S1.os.length)), S1.os ++ [some (.lst ds)]⟩)) : Eo (qOwn i g S) Z := by
  obtain ⟨d, S1, e1, ds, rfl, q⟩ := h
  exact ⟨_, by simp only [qOwn, e1, Option.bind_some], q⟩
theorem eo_retO {g : M D} (h : Ev (g S) fun d S1 => ∃ ds, d = .list ds ∧ Z (.ro S1.os.length ⟨S1.sl, S1.os ++ [some (.lst ds)]⟩)) : Eo (qRetO g S) Z := by
  obtain ⟨d, S1, e1, ds, rfl, q⟩ := h
  exact ⟨_, by simp only [qRetO, e1, Option.bind_some], q⟩
theorem eo_for {gi : M (List D)} {gg : D → Sx → Option Sx} {body : Sx → Option Out} (h : Ev (gi S) fun ds S1 => Eo (gLoop gg body ds S1) Z) : Eo (qFor gi gg body S) Z := by
  obtain ⟨ds, S1, e1, o, e2, q⟩ := h
  exact ⟨_, by simp only [qFor, e1, Option.bind_some, e2], q⟩
theorem eo_loop {gg : D → Sx → Option Sx} {body : Sx → Option Out} {ds : List D} (I : Nat → Sx → Prop) (h0 : I 0 S) (hs : ∀ i d S, ds[i]? = some d → I i S → Es (gg d S) fun S1 => Eo (body S1) fun o => ∃ S2, o = .nx S2 ∧ I (i + 1) S2) (hz : ∀ S', I ds.length S' → Z (.nx S')) : Eo (gLoop gg body ds S) Z := by
  obtain ⟨S', e, q⟩ := loop_inv (gg := gg) (body := body) I ds 0 S h0 fun i d S h1 h2 => by
    rw [Nat.zero_add] at h2 ⊢
    obtain ⟨S1, e1, o, e2, S2, rfl, q⟩ := hs i d S h1 h2
    exact ⟨S1, S2, e1, e2, q⟩
  rw [Nat.zero_add] at q
  exact ⟨_, e, hz S' q⟩
end

theorem then_rt {h : Sx → Option Out} {Z : Out → Prop} {d : D} {S : Sx} (q : Z (.rt d S)) : Then h Z (.rt d S) := q
theorem split_t {A B : Prop} {b : Bool} (e : b = true) (h : A) : (b = true → A) ∧ (b = false → B) := ⟨fun _ => h, fun k => by rw [e] at k; cases k⟩
theorem split_f {A B : Prop} {b : Bool} (e : b = false) (h : B) : (b = true → A) ∧ (b = false → B) := ⟨fun k => (by rw [e] at k; cases k), fun _ => h⟩
theorem split_t' {A B : Prop} {b : Bool} (e : b = true) (h : A) : (b = false → B) ∧ (b = true → A) := ⟨fun k => (by rw [e] at k; cases k), fun _ => h⟩
theorem split_f' {A B : Prop} {b : Bool} (e : b = false) (h : B) : (b = false → B) ∧ (b = true → A) := ⟨fun _ => h, fun k => by rw [e] at k; cases k⟩
/-! ### whole defs -/
def Gives (z : D) : Out → Prop
  | .rt d _ => d = z
  | .nx _ => z = .none
  | _ => False
theorem mF_of {n : Nat} {g : Sx → Option Out} {ds : List D} {z : D} (h : Eo (g ⟨initS n ds, []⟩) (Gives z)) : mF n g ds = some z := by
  obtain ⟨o, e, q⟩ := h
  unfold mF
  rw [e]
  cases o with
  | nx S => cases q; rfl
  | rt d S => cases q; rfl
  | _ => exact q.elim
theorem gives_rt {z d : D} {S : Sx} (h : d = z) : Gives z (.rt d S) := h
@[simp] theorem gives_rtI {z d : D} {S : Sx} : Gives z (.rt d S) ↔ d = z := Iff.rfl
theorem gives_nx {S : Sx} : Gives .none (.nx S) := rfl
def GivesO (Q : D → List D → Prop) : Out → Prop
  | .rt d S => ∃ cs, cellOf S 0 = some cs ∧ Q d cs
  | .nx S => ∃ cs, cellOf S 0 = some cs ∧ Q .none cs
  | _ => False
theorem mIO_of {n : Nat} {g : Sx → Option Out} {cs ds : List D} {Q : D → List D → Prop} (h : Eo (g ⟨some (.own 0) :: initS (n - 1) ds, [some (.lst cs)]⟩) (GivesO Q)) : ∃ d cs', mIO n g cs ds = some (d, cs') ∧ Q d cs' := by
  obtain ⟨o, e, q⟩ := h
  unfold mIO
  rw [e]
  cases o with
  | nx S => obtain ⟨cs', e, q⟩ := q; exact ⟨_, cs', by simp [e], q⟩
  | rt d S => obtain ⟨cs', e, q⟩ := q; exact ⟨_, cs', by simp [e], q⟩
  | _ => exact q.elim
theorem ev_IO {sl : List (Option R)} {os : List (Option Cell)} {i n : Nat} {f : List D → List D → Option (D × List D)} {g : M (List D)} {Q : D → Sx → Prop}
    (h : ∃ j, sl[i]? = some (some (.own j)) ∧ Ev (g ⟨sl, os⟩) fun ds S1 => ∃ cs, S1.os[j]? = some (some (.lst cs)) ∧ ds.length = n ∧ ∃ d cs', f cs ds = some (d, cs') ∧ Q d ⟨S1.sl, S1.os.set j (some (.lst cs'))⟩) : Ev (gIO i n f g ⟨sl, os⟩) Q := by
  obtain ⟨j, hi, ds, S1, e1, cs, e2, l, d, cs', e3, q⟩ := h
  exact ⟨d, _, by simp only [gIO, hi, e1, e2, e3, Option.bind_some, if_pos l], q⟩
theorem ev_ixO {sl : List (Option R)} {os : List (Option Cell)} {i : Nat} {gb : M D} {Q : D → Sx → Prop}
    (h : ∃ j cs, sl[i]? = some (some (.own j)) ∧ os[j]? = some (some (.lst cs)) ∧ Ev (gb ⟨sl, os⟩) fun d S1 => ∃ n, d = .int n ∧ S1 = ⟨sl, os⟩ ∧ Ed (L2.atI cs n) fun e => Q e ⟨sl, os⟩) : Ev (gIxO i gb ⟨sl, os⟩) Q := by
  obtain ⟨j, cs, hi, hc, d, S1, e1, n, rfl, rfl, e, e2, q⟩ := h
  exact ⟨e, _, by simp only [gIxO, ownOf, cellOf, hi, hc, e1, e2, Option.bind_some], q⟩
theorem eo_setO {S : Sx} {i : Nat} {gb ge : M D} {Z : Out → Prop} (h : Ev (ge S) fun d S1 => ∃ j cs, S1.sl[i]? = some (some (.own j)) ∧ S1.os[j]? = some (some (.lst cs)) ∧ Ev (gb S1) fun n S2 => S2 = S1 ∧ ∃ k : Nat, n = .int k ∧ k < cs.length ∧ Z (.nx ⟨S1.sl, S1.os.set j (some (.lst (cs.set k d)))⟩)) : Eo (qSetO i gb ge S) Z := by
  obtain ⟨d, S1, e1, j, cs, hi, hc, n, S2, e2, rfl, k, rfl, l, q⟩ := h
  refine ⟨_, ?_, q⟩
  have : L2.ixN cs.length (k : Int) = some k := by
    unfold L2.ixN
    rw [if_pos (by omega), if_pos (by omega)]; simp
  simp only [qSetO, e1, Option.bind_some, ownOf, cellOf, hi, hc, e2, this, setCell]
theorem ev_app {S : Sx} {i : Nat} {ge : M D} {Q : D → Sx → Prop} (hi : ∃ j cs, S.sl[i]? = some (some (.own j)) ∧ S.os[j]? = some (some (.lst cs)) ∧ Ev (ge S) fun d S1 => ∃ cs, S1.os[j]? = some (some (.lst cs)) ∧ cs.length < 16777216 ∧ Q .none ⟨S1.sl, S1.os.set j (some (.lst (cs ++ [d])))⟩) : Ev (gApp i ge S) Q := by
  obtain ⟨j, cs, h1, h2, d, S1, e1, cs1, h3, l, q⟩ := hi
  refine ⟨_, _, ?_, q⟩
  simp only [gApp, ownOf, h1, h2, cellOf, Option.bind_some, e1, h3, line_eq, if_pos l, setCell]
theorem ev_ext {S : Sx} {i : Nat} {ge : M D} {Q : D → Sx → Prop} (hi : ∃ j cs, S.sl[i]? = some (some (.own j)) ∧ S.os[j]? = some (some (.lst cs)) ∧ Ev (ge S) fun d S1 => ∃ xs, d = .list xs ∧ ∃ cs, S1.os[j]? = some (some (.lst cs)) ∧ cs.length + xs.length ≤ 16777216 ∧ Q .none ⟨S1.sl, S1.os.set j (some (.lst (cs ++ xs)))⟩) : Ev (gExt i ge S) Q := by
  obtain ⟨j, cs, h1, h2, d, S1, e1, xs, rfl, cs1, h3, l, q⟩ := hi
  refine ⟨_, _, ?_, q⟩
  simp only [gExt, ownOf, h1, h2, cellOf, Option.bind_some, e1, h3, line_eq, if_pos l, setCell]
theorem ev_lenO {sl : List (Option R)} {os : List (Option Cell)} {i : Nat} {Q : D → Sx → Prop} (h : ∃ j cs, sl[i]? = some (some (.own j)) ∧ os[j]? = some (some (.lst cs)) ∧ Q (.int cs.length) ⟨sl, os⟩) : Ev (gLenO i ⟨sl, os⟩) Q := by
  obtain ⟨j, cs, hi, hc, h⟩ := h
  exact ⟨_, _, by simp only [gLenO, ownOf, cellOf, hi, hc, Option.bind_some], h⟩
theorem ev_scrSl {sl : List (Option R)} {os : List (Option Cell)} {i : Nat} {gl gh : M (Option Int)} {Q : D → Sx → Prop} (h : ∃ ns, sl[i]? = some (some (.scr ns)) ∧ Ev (gl ⟨sl, os⟩) fun lo S1 => Ev (gh S1) fun hi S2 => Q (.list ((cutL ns lo hi).map .int)) S2) : Ev (gScrSl i gl gh ⟨sl, os⟩) Q := by
  obtain ⟨ns, hi, lo, S1, e1, hi2, S2, e2, h⟩ := h
  exact ⟨_, _, by simp only [gScrSl, scrOf, hi, Option.bind_some, e1, e2], h⟩
theorem ev_scrLen {sl : List (Option R)} {os : List (Option Cell)} {i : Nat} {Q : D → Sx → Prop} (h : ∃ ns : List Int, sl[i]? = some (some (.scr ns)) ∧ Q (.int ns.length) ⟨sl, os⟩) : Ev (gScrLen i ⟨sl, os⟩) Q := by
  obtain ⟨ns, hi, h⟩ := h
  exact ⟨_, _, by simp only [gScrLen, scrOf, hi, Option.bind_some], h⟩
theorem ev_callScr {sl : List (Option R)} {os : List (Option Cell)} {i : Nat} {f : List Int → Option (List D)} {Q : D → Sx → Prop} (h : ∃ ns : List Int, sl[i]? = some (some (.scr ns)) ∧ Ed (f ns) fun z => Q (.list z) ⟨sl, os⟩) : Ev (gCallScr i f ⟨sl, os⟩) Q := by
  obtain ⟨ns, hi, z, e, h⟩ := h
  exact ⟨_, _, by simp only [gCallScr, scrOf, hi, Option.bind_some, e], h⟩
theorem mScrN_of {n : Nat} {g : Sx → Option Out} {ns : List Int} {Q : List D → Prop} (h : Eo (g ⟨some (.scr ns) :: List.replicate (n - 1) none, []⟩) fun o => ∃ j S cs, o = .ro j S ∧ cellOf S j = some cs ∧ Q cs) : ∃ cs, mScrN n g ns = some cs ∧ Q cs := by
  obtain ⟨_, e, j, S, cs, rfl, h, q⟩ := h
  exact ⟨cs, by unfold mScrN; simp only [e, Option.bind_some, h], q⟩
theorem mScr_of {n : Nat} {g : Sx → Option Out} {ns : List Int} {z : D} (h : Eo (g ⟨some (.scr ns) :: List.replicate (n - 1) none, []⟩) fun o => ∃ S, o = .rt z S) : mScr n g ns = some z := by
  obtain ⟨_, e, S, rfl⟩ := h
  unfold mScr; simp only [e, Option.bind_some]

/-! ### operations on data -/
section
variable {Q : D → Prop} {i j : Int} {xs ys : List D}
theorem ed_addI (h : Q (.int (i + j))) : Ed (dAdd (.int i) (.int j)) Q := ⟨_, rfl, h⟩
theorem ed_subI (h : Q (.int (i - j))) : Ed (dSub (.int i) (.int j)) Q := ⟨_, rfl, h⟩
theorem ed_addL (l : xs.length + ys.length ≤ 16777216) (h : Q (.list (xs ++ ys))) : Ed (dAdd (.list xs) (.list ys)) Q := ⟨_, by simp only [dAdd, line_eq, if_pos l], h⟩
theorem ed_mulI (l : L2.CMulW i j) (h : Q (.int (i * j))) : Ed (dMul (.int i) (.int j)) Q := ⟨_, by simp only [dMul, if_pos l], h⟩
theorem ed_divI (l : L2.CDivW i j) (h : Q (.int (i / j))) : Ed (dDiv (.int i) (.int j)) Q := ⟨_, by simp only [dDiv, if_pos l], h⟩
theorem ed_modI (l : 0 < j) (h : Q (.int (i % j))) : Ed (dMod (.int i) (.int j)) Q := ⟨_, by simp only [dMod, if_pos l], h⟩
theorem ed_cmp {p : Int → Int → Bool} (h : Q (.bool (p i j))) : Ed (dCmp p (.int i) (.int j)) Q := ⟨_, rfl, h⟩
theorem ed_eqI (h : Q (.bool (decide (i = j)))) : Ed (dEq (.int i) (.int j)) Q := ⟨_, dEq_int i j, h⟩
theorem ed_neI (h : Q (.bool (!decide (i = j)))) : Ed (dNe (.int i) (.int j)) Q := ⟨_, dNe_int i j, h⟩
theorem ed_ixT {d : D} (h0 : 0 ≤ i) (e : xs[i.toNat]? = some d) (h : Q d) : Ed (dIx (.tuple xs) (.int i)) Q := ⟨d, by
  have hl := (List.getElem?_eq_some_iff.mp e).1
  show L2.atI xs i = _
  rw [atI_ok h0 (by omega), e], h⟩
theorem ed_ixL {d : D} (h0 : 0 ≤ i) (e : xs[i.toNat]? = some d) (h : Q d) : Ed (dIx (.list xs) (.int i)) Q := ⟨d, by
  have hl := (List.getElem?_eq_some_iff.mp e).1
  show L2.atI xs i = _
  rw [atI_ok h0 (by omega), e], h⟩
theorem ed_at {d : D} {Q : D → Prop} (h0 : 0 ≤ i) (e : xs[i.toNat]? = some d) (h : Q d) : Ed (L2.atI xs i) Q := ed_ixT h0 e h
theorem ed_slT {lo hi : Option Int} (h : Q (.tuple (cutL xs lo hi))) : Ed (dSl (.tuple xs) lo hi) Q := ⟨_, rfl, h⟩
theorem ed_slL {lo hi : Option Int} (h : Q (.list (cutL xs lo hi))) : Ed (dSl (.list xs) lo hi) Q := ⟨_, rfl, h⟩
theorem ed_lenT (h : Q (.int xs.length)) : Ed (dLen [.tuple xs]) Q := ⟨_, rfl, h⟩
theorem ed_lenL (h : Q (.int xs.length)) : Ed (dLen [.list xs]) Q := ⟨_, rfl, h⟩
theorem ed_lenS {x : Str} (h : Q (.int x.length)) : Ed (dLen [.str x]) Q := ⟨_, rfl, h⟩
theorem ed_inS {c : Nat} {y : Str} (h : Q (.bool (decide (c ∈ y.cps.toList)))) : Ed (dIn (.str ⟨#[c]⟩) (.str y)) Q := ⟨_, by simp only [dIn]; rw [PySem.StrLaws.found_one], h⟩
theorem ed_powI (l : L2.CPow i j) (h : Q (.int (i ^ j.toNat))) : Ed (dPow (.int i) (.int j)) Q := ⟨_, by simp only [dPow, if_pos l], h⟩
theorem ed_neg (h : Q (.int (-i))) : Ed (dNeg (.int i)) Q := ⟨_, rfl, h⟩
theorem ed_max (h : Q (.int (max i j))) : Ed (dMax2 [.int i, .int j]) Q := ⟨_, rfl, by
  have : (if j > i then j else i) = max i j := by split <;> omega
  rw [this]; exact h⟩
theorem ed_min (h : Q (.int (min i j))) : Ed (dMin2 [.int i, .int j]) Q := ⟨_, rfl, by
  have : (if j < i then j else i) = min i j := by split <;> omega
  rw [this]; exact h⟩
theorem ed_intB {b : Bool} (h : Q (.int (if b then 1 else 0))) : Ed (dInt [.bool b]) Q := ⟨_, rfl, h⟩
theorem ed_ixS {x : Str} {c : Nat} (h0 : 0 ≤ i) (e : x.cps.toList[i.toNat]? = some c) (h : Q (ch c)) : Ed (dIx (.str x) (.int i)) Q := ⟨_, by
  have hl := (List.getElem?_eq_some_iff.mp e).1
  show (L2.atI x.cps.toList i).bind _ = _
  rw [atI_ok h0 (by omega), e]; rfl, h⟩
theorem ed_itT {Q : List D → Prop} (h : Q xs) : Ed (itemsOf (.tuple xs)) Q := ⟨_, rfl, h⟩
theorem ed_itL {Q : List D → Prop} (h : Q xs) : Ed (itemsOf (.list xs)) Q := ⟨_, rfl, h⟩
theorem ed_tupL (h : Q (.tuple xs)) : Ed (dTuple [.list xs]) Q := ⟨_, rfl, h⟩
theorem ed_tupT (h : Q (.tuple xs)) : Ed (dTuple [.tuple xs]) Q := ⟨_, rfl, h⟩
theorem ed_listL (h : Q (.list xs)) : Ed (dList [.list xs]) Q := ⟨_, rfl, h⟩
theorem ed_listT (h : Q (.list xs)) : Ed (dList [.tuple xs]) Q := ⟨_, rfl, h⟩
end
theorem allBools_fn {α : Type} (f : α → Bool) : ∀ xs : List α, allBools (xs.map fun a => .bool (f a)) = some (xs.map f)
  | [] => rfl
  | a :: xs => by simp [allBools, allBools_fn f xs]
theorem all_map {α : Type} (f : α → Bool) (xs : List α) : dAll [.list (xs.map fun a => .bool (f a))] = some (.bool (xs.all f)) := by
  simp only [dAll, allBools_fn, Option.bind_some]; rw [List.all_map]; rfl
theorem cut_to {α : Type} {xs : List α} {i : Int} (h : 0 ≤ i) : cutL xs none (some i) = xs.take i.toNat := by
  unfold cutL HT.sIx
  simp only [if_neg (show ¬ i < 0 by omega), List.drop_zero, Nat.sub_zero]
  rw [← List.take_take]
  simp [Nat.min_def]
theorem cut_from {α : Type} {xs : List α} {i : Int} (h : 0 ≤ i) : cutL xs (some i) none = xs.drop i.toNat := by
  unfold cutL HT.sIx
  simp only [if_neg (show ¬ i < 0 by omega)]
  by_cases l : i.toNat ≤ xs.length
  · rw [Nat.min_eq_left l, List.take_of_length_le (by simp)]
  · rw [Nat.min_eq_right (by omega), List.drop_of_length_le (Nat.le_refl _), List.drop_of_length_le (by omega), List.take_nil]
theorem cut_init {α : Type} {xs : List α} : cutL xs none (some (-1)) = xs.dropLast := by
  unfold cutL HT.sIx
  simp only [show (-1 : Int) < 0 by decide, if_true, List.drop_zero, Nat.sub_zero]
  rw [List.dropLast_eq_take]
  congr 1
  omega
/-! ### comprehensions of two clauses -/
theorem ev_varO {sl : List (Option R)} {os : List (Option Cell)} {i : Nat} {Q : D → Sx → Prop} (h : ∃ j cs, sl[i]? = some (some (.own j)) ∧ os[j]? = some (some (.lst cs)) ∧ Q (.list cs) ⟨sl.set i (some (.dat (.list cs))), os.set j none⟩) : Ev (gVar i ⟨sl, os⟩) Q := by
  obtain ⟨j, cs, e1, e2, h⟩ := h
  exact ⟨_, _, by unfold gVar; simp only [e1, e2], h⟩
theorem ed_pickS {Q : D → Prop} {P : Nat → Prop} {x : Str} {i : Int} (h0 : 0 ≤ i) (h1 : i < x.length) (hp : ∀ c ∈ x.cps.toList, P c) (h : ∀ c, P c → Q (ch c)) : Ed (dIx (.str x) (.int i)) Q := by
  have hl : i.toNat < x.cps.toList.length := by
    have : x.cps.toList.length = x.length := Array.length_toList
    omega
  exact ed_ixS h0 (List.getElem?_eq_getElem hl) (h _ (hp _ (List.getElem_mem hl)))
theorem ed_ne_self {Q : D → Prop} {d e : D} {n : Nat} (x : d = e) (g : Good n d) (q : Q (.bool false)) (l : n ≤ 64 := by decide) : Ed (dNe d e) Q := by
  subst x
  exact Ed.of (dNe_self (g.shaped l)) q
open Classical in
open Classical in
/-! ### comprehensions whose item changes the lists -/
theorem ev_zip {S : Sx} {L : List D → Sx → Prop} {g : M (List D)} (h : Ev (g S) fun ds S1 => (∃ xs ys, ds = [.list xs, .list ys] ∧ L (zipD xs ys) S1) ∨ (∃ xs ys, ds = [.tuple xs, .tuple ys] ∧ L (zipD xs ys) S1)) : Ev (gZip g S) L := by
  obtain ⟨ds, S1, e1, h⟩ := h
  rcases h with ⟨xs, ys, rfl, h⟩ | ⟨xs, ys, rfl, h⟩
  · exact ⟨_, _, by simp only [gZip, e1, Option.bind_some], h⟩
  · exact ⟨_, _, by simp only [gZip, e1, Option.bind_some], h⟩
theorem zipD_map {α β : Type} (f : α → D) (g : β → D) : ∀ (xs : List α) (ys : List β), zipD (xs.map f) (ys.map g) = (xs.zip ys).map fun p => .tuple [f p.1, g p.2]
  | [], _ => rfl
  | _ :: _, [] => rfl
  | x :: xs, y :: ys => by
    rw [List.map_cons, List.map_cons, zipD, zipD_map f g xs ys]; rfl
/-! ### how many unlike ones -/
theorem dedup_len : ∀ (l acc : List Int), acc.Nodup → (l.foldl PyProof.Rows.step_dedup acc).length ≤ acc.length + l.length ∧ ((l.foldl PyProof.Rows.step_dedup acc).length = acc.length + l.length ↔ (acc ++ l).Nodup)
  | [], acc, h => by simp [h]
  | x :: l, acc, h => by
    simp only [List.foldl_cons, PyProof.Rows.step_dedup]
    by_cases hx : acc.any (· == x) = true
    · rw [if_pos hx]
      obtain ⟨h1, h2⟩ := dedup_len l acc h
      refine ⟨by simp only [List.length_cons]; omega, ⟨fun e => ?_, fun e => ?_⟩⟩
      · simp only [List.length_cons] at e; omega
      · exfalso
        obtain ⟨y, hy, e2⟩ := List.any_eq_true.mp hx
        have e2 : y = x := by simpa using e2
        subst e2
        exact (List.nodup_append.mp e).2.2 y hy y List.mem_cons_self rfl
    · rw [if_neg hx]
      have hm : x ∉ acc := fun z => hx (List.any_eq_true.mpr ⟨x, z, by simp⟩)
      have hn : (acc ++ [x]).Nodup := by
        rw [List.nodup_append]
        exact ⟨h, by simp, fun a ha b hb => by rw [List.mem_singleton.mp hb]; exact fun e => hm (e ▸ ha)⟩
      obtain ⟨h1, h2⟩ := dedup_len l (acc ++ [x]) hn
      simp only [List.length_append, List.length_cons, List.length_nil, List.append_assoc, List.cons_append, List.nil_append] at h1 h2 ⊢
      refine ⟨by omega, ?_⟩
      rw [← h2]
      constructor <;> intro e <;> omega
theorem unlike_iff {ns : List Int} : unlike ns = ns.length ↔ ns.Nodup := by
  have e : (List.range ns.length).map (fun i => ns.getD i 0) = ns := by
    apply List.ext_getElem?
    intro i
    rw [List.getElem?_map]
    by_cases h : i < ns.length
    · rw [List.getElem?_range h]
      simp [List.getD_eq_getElem?_getD, h]
    · rw [List.getElem?_eq_none (by simpa using h), List.getElem?_eq_none (by omega)]; rfl
  unfold unlike PyProof.Rows.firstMet
  rw [e]
  have := (dedup_len ns [] (by simp)).2
  simpa using this
theorem ed_lenSet {Q : D → Prop} {ns : List Int} (l : ns.length ≤ 4000) (h : Q (.int (unlike ns : Nat))) : Ed (dLenSet (.list (ns.map .int))) Q := ⟨_, by simp only [dLenSet, allInts_of, Option.bind_some, if_pos l], h⟩
theorem ed_rev {Q : D → Prop} {xs : List D} (h : Q (.list xs.reverse)) : Ed (dRevL (.list xs)) Q := ⟨_, rfl, h⟩
theorem ev_listRng1 {S : Sx} {Q : D → Sx → Prop} {g : M D} (h : Ev (g S) fun d S1 => ∃ n : Int, d = .int n ∧ -4611686018427387904 ≤ n ∧ n ≤ 16777216 ∧ Q (.list (rng 0 n.toNat)) S1) : Ev (gListRng1 g S) Q := by
  obtain ⟨ds, S1, e1, n, rfl, l1, l2, q⟩ := h
  exact ⟨_, S1, by simp only [gListRng1, e1, Option.bind_some]; rw [if_pos ⟨by omega, by omega⟩], q⟩
theorem ev_OL {sl : List (Option R)} {os : List (Option Cell)} {i : Nat} {f : D → D → Option D} {gb : M D} {Q : D → Sx → Prop} (h : ∃ j cs0, sl[i]? = some (some (.own j)) ∧ os[j]? = some (some (.lst cs0)) ∧ Ev (gb ⟨sl, os⟩) fun d S1 => ∃ cs, S1.os[j]? = some (some (.lst cs)) ∧ Ed (f (.list cs) d) fun z => ∃ b, z = .bool b ∧ Q (.bool b) S1) : Ev (gOL f i gb ⟨sl, os⟩) Q := by
  obtain ⟨j, cs0, h1, h2, d, S1, e1, cs, h3, z, e2, b, rfl, q⟩ := h
  exact ⟨_, _, by simp only [gOL, ownOf, cellOf, h1, h2, e1, h3, e2, Option.bind_some], q⟩
theorem ev_OR {S : Sx} {i : Nat} {f : D → D → Option D} {gb : M D} {Q : D → Sx → Prop} (h : Ev (gb S) fun d S1 => ∃ j cs, S1.sl[i]? = some (some (.own j)) ∧ S1.os[j]? = some (some (.lst cs)) ∧ Ed (f d (.list cs)) fun z => ∃ b, z = .bool b ∧ Q (.bool b) S1) : Ev (gOR f gb i S) Q := by
  obtain ⟨d, S1, e1, j, cs, h1, h2, z, e2, b, rfl, q⟩ := h
  exact ⟨_, _, by simp only [gOR, ownOf, cellOf, h1, h2, e1, e2, Option.bind_some], q⟩
theorem ev_popAt {S : Sx} {i : Nat} {ge : M D} {Q : D → Sx → Prop} (hi : ∃ j cs0, S.sl[i]? = some (some (.own j)) ∧ S.os[j]? = some (some (.lst cs0)) ∧ Ev (ge S) fun d S1 => ∃ cs n, S1.os[j]? = some (some (.lst cs)) ∧ d = .int n ∧ 0 ≤ n ∧ ∃ e, cs[n.toNat]? = some e ∧ Q e ⟨S1.sl, S1.os.set j (some (.lst (cs.eraseIdx n.toNat)))⟩) : Ev (gPopAt i ge S) Q := by
  obtain ⟨j, cs0, h1, h2, d, S1, e1, cs, n, h3, rfl, n0, e, he, q⟩ := hi
  have hl := (List.getElem?_eq_some_iff.mp he).1
  refine ⟨e, _, ?_, q⟩
  simp only [gPopAt, ownOf, cellOf, h1, h2, e1, h3, Option.bind_some, setCell]
  rw [if_pos ⟨n0, by omega⟩, he]; rfl
theorem ev_rep {S : Sx} {f : D → D → Option D} {ga gb : M D} {Q : D → Sx → Prop} (h : Ev (gBin f ga gb S) fun d S1 => ∃ ds, d = .list ds ∧ Q (.list ds) S1) : Ev (gRep f ga gb S) Q := by
  obtain ⟨d, S1, e1, ds, rfl, q⟩ := h
  exact ⟨_, _, by simp only [gRep, e1, Option.bind_some], q⟩
theorem ed_mulL {Q : D → Prop} {xs : List D} {k : Int} (k0 : 0 ≤ k) (k1 : k ≤ 16777216) (l : xs.length * k.toNat ≤ 16777216) (h : Q (.list (List.replicate k.toNat xs).flatten)) : Ed (dMul (.list xs) (.int k)) Q := ⟨_, by
  simp only [dMul, line_eq]
  rw [if_pos ⟨by omega, by omega, l⟩], h⟩
theorem rep_one (d : D) : ∀ n : Nat, (List.replicate n [d]).flatten = List.replicate n d
  | 0 => rfl
  | n + 1 => by rw [List.replicate_succ, List.replicate_succ, List.flatten_cons, rep_one d n]; rfl
theorem ed_atLast {xs : List D} {d : D} {Q : D → Prop} (e : xs.getLast? = some d) (q : Q d) : Ed (L2.atI xs (-1)) Q := by
  refine ⟨d, ?_, q⟩
  have h0 : 0 < xs.length := by
    cases xs with
    | nil => simp at e
    | cons x xs => simp
  unfold L2.atI L2.ixN
  rw [if_neg (by decide), if_pos (by omega)]
  show xs[((-1 : Int) + (xs.length : Int)).toNat]? = _
  rw [show ((-1 : Int) + (xs.length : Int)).toNat = xs.length - 1 by omega, ← List.getLast?_eq_getElem?]
  exact e
end Fu

set_option maxHeartbeats 16000000
namespace Lw
open PySem PySem.Spec PyProof.Rows L2 RZ Fu
def g_is_whole : Sx → Option Out :=
  (qRet (gAndV (gIsi "int" (gVar 0)) (gAndV (gNotV (gIsi "bool" (gVar 0))) (gBin dGe (gVar 0) (gC (.int 0))))))
def m_is_whole := mF 1 g_is_whole
def g_is_row : Sx → Option Out :=
  (qRet (gAndV (gIsi2 "list" "tuple" (gVar 0)) (gBin dEq (gCall dLen (gCons (gVar 0) gNil)) (gVar 1))))
def m_is_row := mF 2 g_is_row
def g_is_company : Sx → Option Out :=
  (qRet (gAndV (gIsi "str" (gVar 0)) (gAndV (gBin dEq (gCall dLen (gCons (gVar 0) gNil)) (gC (.int 1))) (gBin dIn (gVar 0) (gC (.str "abcdefghijklmnopqrstuvwxyz"))))))
def m_is_company := mF 1 g_is_company
def g_is_line_of : Sx → Option Out :=
  (qSeq (qIf (gOr (gNot (gB (gCallF 2 m_is_row (gCons (gVar 1) (gCons (gC (.int 3)) gNil))))) (gNot (gB (gCallF 1 m_is_company (gCons (gBin dIx (gVar 1) (gC (.int 2))) gNil))))) (qRet (gC (.bool false))) qNx) (qRet (gCall dAll (gCons (gLc (gItems (gSl (gVar 1) gNo (gSo (gC (.int 2))))) (sName 2) gYes (gAndV (gCallF 1 m_is_whole (gCons (gVar 2) gNil)) (gBin dLt (gVar 2) (gVar 0))) [2]) gNil))))
def m_is_line_of := mF 3 g_is_line_of
def g_web_of : Sx → Option Out :=
  (qSeq (qIf (gOr (gNot (gB (gCallF 1 m_is_whole (gCons (gVar 0) gNil)))) (gNot (gB (gIsi2 "list" "tuple" (gVar 1))))) qNone qNx) (qSeq (qIf (gNot (gB (gCall dAll (gCons (gLc (gItems (gVar 1)) (sName 2) gYes (gCallF 2 m_is_line_of (gCons (gVar 0) (gCons (gVar 2) gNil))) [2]) gNil)))) qNone qNx) (qRet (gTup (gCons (gVar 0) (gCons (gCall dTuple (gCons (gLc (gItems (gVar 1)) (sName 2) gYes (gCall dTuple (gCons (gVar 2) gNil)) [2]) gNil)) gNil))))))
def m_web_of := mF 3 g_web_of
def g_place_of : Sx → Option Out :=
  (qRet (gBin dIx (gBin dIx (gBin dIx (gVar 0) (gC (.int 1))) (gBin dIx (gVar 1) (gC (.int 0)))) (gBin dIx (gVar 1) (gC (.int 1)))))
def m_place_of := mF 2 g_place_of
def g_kept : Sx → Option Out :=
  (qRet (gCallF 2 m_web_of (gCons (gBin dIx (gVar 0) (gC (.int 0))) (gCons (gBin dIx (gVar 0) (gC (.int 1))) gNil))))
def m_kept := mF 1 g_kept
def g_is_end : Sx → Option Out :=
  (qSeq (qIf (gOr (gNot (gB (gCallF 2 m_is_row (gCons (gVar 1) (gCons (gC (.int 2)) gNil))))) (gOr (gNot (gB (gCallF 1 m_is_whole (gCons (gBin dIx (gVar 1) (gC (.int 0))) gNil)))) (gNot (gB (gCallF 1 m_is_whole (gCons (gBin dIx (gVar 1) (gC (.int 1))) gNil)))))) (qRet (gC (.bool false))) qNx) (qRet (gAndV (gBin dLt (gBin dIx (gVar 1) (gC (.int 0))) (gCall dLen (gCons (gBin dIx (gVar 0) (gC (.int 1))) gNil))) (gBin dLt (gBin dIx (gVar 1) (gC (.int 1))) (gC (.int 2))))))
def m_is_end := mF 2 g_is_end
def g_company_of : Sx → Option Out :=
  (qRet (gBin dIx (gBin dIx (gBin dIx (gVar 0) (gC (.int 1))) (gBin dIx (gVar 1) (gC (.int 0)))) (gC (.int 2))))
def m_company_of := mF 2 g_company_of
def g_far_end : Sx → Option Out :=
  (qRet (gTup (gCons (gBin dIx (gVar 0) (gC (.int 0))) (gCons (gBin dSub (gC (.int 1)) (gBin dIx (gVar 0) (gC (.int 1)))) gNil))))
def m_far_end := mF 1 g_far_end
def g_can_go_on : Sx → Option Out :=
  (qSeq (qIf (gB (gBin dNe (gCallF 2 m_place_of (gCons (gVar 0) (gCons (gCallF 1 m_far_end (gCons (gVar 1) gNil)) gNil))) (gCallF 2 m_place_of (gCons (gVar 0) (gCons (gVar 2) gNil))))) (qRet (gC (.bool false))) qNx) (qRet (gBin dNe (gCallF 2 m_company_of (gCons (gVar 0) (gCons (gVar 1) gNil))) (gCallF 2 m_company_of (gCons (gVar 0) (gCons (gVar 2) gNil))))))
def m_can_go_on := mF 3 g_can_go_on
def g_ride_is : Sx → Option Out :=
  (qSeq (qIf (gOr (gNot (gB (gIsi2 "list" "tuple" (gVar 1)))) (gOr (gB (gBin dEq (gCall dLen (gCons (gVar 1) gNil)) (gC (.int 0)))) (gNot (gB (gCall dAll (gCons (gLc (gItems (gVar 1)) (sName 2) gYes (gCallF 2 m_is_end (gCons (gVar 0) (gCons (gVar 2) gNil))) [2]) gNil)))))) (qRet (gC (.bool false))) qNx) (qSeq (qIf (gB (gBin dNe (gUn dLenSet (gLc (gItems (gVar 1)) (sName 2) gYes (gBin dIx (gVar 2) (gC (.int 0))) [2])) (gCall dLen (gCons (gVar 1) gNil)))) (qRet (gC (.bool false))) qNx) (qRet (gCall dAll (gCons (gLc (gZip (gCons (gVar 1) (gCons (gSl (gVar 1) (gSo (gC (.int 1))) gNo) gNil))) (sTup 2 (sCons (sName 2) (sCons (sName 3) sNil))) gYes (gCallF 3 m_can_go_on (gCons (gVar 0) (gCons (gVar 2) (gCons (gVar 3) gNil)))) [2, 3]) gNil)))))
def m_ride_is := mF 4 g_ride_is
def g_round_is : Sx → Option Out :=
  (qRet (gAndV (gCallF 2 m_ride_is (gCons (gVar 0) (gCons (gVar 1) gNil))) (gCallF 3 m_can_go_on (gCons (gVar 0) (gCons (gBin dIx (gVar 1) (gUn dNeg (gC (.int 1)))) (gCons (gBin dIx (gVar 1) (gC (.int 0))) gNil))))))
def m_round_is := mF 2 g_round_is
def g_places_along : Sx → Option Out :=
  (qRet (gBin dAdd (gLc (gItems (gVar 1)) (sName 2) gYes (gCallF 2 m_place_of (gCons (gVar 0) (gCons (gVar 2) gNil))) [2]) (gLst (gCons (gCallF 2 m_place_of (gCons (gVar 0) (gCons (gCallF 1 m_far_end (gCons (gBin dIx (gVar 1) (gUn dNeg (gC (.int 1)))) gNil)) gNil))) gNil))))
def m_places_along := mF 3 g_places_along
def g_faced_about : Sx → Option Out :=
  (qRet (gLc (gItems (gUn dRevL (gVar 0))) (sName 1) gYes (gCallF 1 m_far_end (gCons (gVar 1) gNil)) [1]))
def m_faced_about := mF 2 g_faced_about
def g_need_round : Sx → Option Out :=
  (qSeq (qIf (gNot (gB (gCallF 2 m_round_is (gCons (gVar 0) (gCons (gVar 1) gNil))))) qNone qNx) (qRet (gLc (gItems (gVar 1)) (sName 2) gYes (gCall dTuple (gCons (gVar 2) gNil)) [2])))
def m_need_round := mF 3 g_need_round
def g__law_bag : Sx → Option Out :=
  (qSeq (qSet 1 (gC (.int 1))) (qSeq (qFor (gScrI 0) (sName 2) (qSet 1 (gBin dMod (gBin dAdd (gBin dAdd (gBin dMul (gVar 1) (gC (.int 1000003))) (gBin dMod (gVar 2) (gC (.int 2305843009213693951)))) (gC (.int 1))) (gC (.int 2305843009213693951))))) (qRetO (gLst (gCons (gScrList 0) (gCons (gC (.int 0)) (gCons (gC (.int 0)) (gCons (gC (.int 0)) (gCons (gVar 1) gNil)))))))))
def m__law_bag := mScrN 3 g__law_bag
def g__law_stir : Sx → Option Out :=
  (qSeq (qSet 2 (gBin dMod (gBin dAdd (gBin dAdd (gBin dMul (gVar 0) (gC (.int 998244353))) (gBin dMul (gVar 1) (gC (.int 1000000007)))) (gC (.int 5))) (gC (.int 2305843009213693951)))) (qSeq (qSet 3 (gBin dMod (gBin dMul (gVar 2) (gVar 2)) (gC (.int 2305843009213693951)))) (qRet (gBin dDiv (gBin dMod (gBin dAdd (gBin dAdd (gBin dMul (gVar 3) (gC (.int 2860486313))) (gBin dMul (gBin dMul (gVar 1) (gVar 1)) (gC (.int 48271)))) (gBin dDiv (gVar 2) (gC (.int 3)))) (gC (.int 2305843009213693921))) (gC (.int 1024))))))
def m__law_stir := mF 4 g__law_stir
def g__law_draw_k32 : Sx → Option Out :=
  (qSeq (qIf (gB (gBin dEq (gVar 1) (gC (.int 1)))) (qRet (gC (.int 0))) qNx) (qSeq (qSetO 0 (gC (.int 3)) (gBin dAdd (gIxO 0 (gC (.int 3))) (gC (.int 1)))) (qSeq (qIf (gAnd (gB (gBin dLt (gIxO 0 (gC (.int 2))) (gC (.int 2)))) (gB (gBin dEq (gIxO 0 (gC (.int 1))) (gCall dLen (gCons (gIxO 0 (gC (.int 0))) gNil))))) (qRet (gBin dMod (gCallF 2 m__law_stir (gCons (gIxO 0 (gC (.int 4))) (gCons (gIxO 0 (gC (.int 3))) gNil))) (gVar 1))) qNx) (qSeq (qIf (gB (gBin dLt (gIxO 0 (gC (.int 2))) (gC (.int 2)))) (qSeq (qSet 2 (gBin dIx (gIxO 0 (gC (.int 0))) (gIxO 0 (gC (.int 1))))) (qSeq (qSetO 0 (gC (.int 1)) (gBin dAdd (gIxO 0 (gC (.int 1))) (gC (.int 1)))) (qSeq (qIf (gB (gBin dLt (gVar 2) (gBin dPow (gC (.int 10)) (gC (.int 18))))) (qRet (gBin dMod (gCallF 2 m__law_stir (gCons (gBin dMod (gVar 2) (gC (.int 2305843009213693951))) (gCons (gIxO 0 (gC (.int 3))) gNil))) (gVar 1))) qNx) (qSetO 0 (gC (.int 2)) (gBin dSub (gVar 2) (gBin dPow (gC (.int 10)) (gC (.int 18)))))))) qNx) (qSeq (qSet 3 (gBin dMod (gIxO 0 (gC (.int 2))) (gVar 1))) (qSeq (qSetO 0 (gC (.int 2)) (gBin dDiv (gIxO 0 (gC (.int 2))) (gVar 1))) (qRet (gVar 3))))))))
def m__law_draw_k32 := mIO 4 g__law_draw_k32
def g__law_mixed : Sx → Option Out :=
  (qSeq (qOwn 2 (gCall dList (gCons (gVar 1) gNil))) (qRet (gLc (gRng1 (gCons (gCall dLen (gCons (gVar 1) gNil)) gNil)) (sName 3) gYes (gPopAt 2 (gIO 0 1 m__law_draw_k32 (gCons (gLenO 2) gNil))) [3])))
def m__law_mixed := mIO 4 g__law_mixed
def g__law_walk : Sx → Option Out :=
  (qSeq (qSet 4 (gBin dAdd (gC (.int 1)) (gIO 0 1 m__law_draw_k32 (gCons (gC (.int 4)) gNil)))) (qSeq (qOwn 5 (gLc (gRng1 (gCons (gBin dAdd (gVar 1) (gC (.int 1))) gNil)) (sName 10) gYes (gIO 0 1 m__law_draw_k32 (gCons (gVar 4) gNil)) [10])) (qSeq (qIf (gB (gVar 2)) (qSetO 5 (gVar 1) (gIxO 5 (gC (.int 0)))) qNx) (qSeq (qSet 6 (gIO 0 1 m__law_mixed (gCons (gListRng1 (gVar 1)) gNil))) (qSeq (qOwn 7 (gRep dMul (gLst (gCons (gC .none) gNil)) (gVar 1))) (qSeq (qOwn 8 (gLst gNil)) (qSeq (qOwn 9 (gLst gNil)) (qSeq (qFor (gRng1 (gCons (gVar 1) gNil)) (sName 10) (qSeq (qSet 11 (gBin dAdd (gSlO 8 (gSo (gUn dNeg (gC (.int 1)))) gNo) (gSlO 8 gNo (gSo (gCall dInt (gCons (gAndV (gVar 2) (gBin dEq (gVar 10) (gBin dSub (gVar 1) (gC (.int 1))))) gNil)))))) (qSeq (qSet 12 (gLc (gItems (gVar 3)) (sName 15) (gB (gBin dNotIn (gVar 15) (gVar 11))) (gVar 15) [15])) (qSeq (qDrop (gApp 8 (gBin dIx (gVar 12) (gIO 0 1 m__law_draw_k32 (gCons (gCall dLen (gCons (gVar 12) gNil)) gNil))))) (qSeq (qSet 13 (gIO 0 1 m__law_draw_k32 (gCons (gC (.int 2)) gNil))) (qSeq (qSet 14 (gStepL (gSlO 5 (gSo (gVar 10)) (gSo (gBin dAdd (gVar 10) (gC (.int 2))))) (gBin dIx (gLst (gCons (gC (.int 1)) (gCons (gUn dNeg (gC (.int 1))) gNil))) (gVar 13)))) (qSeq (qSetO 7 (gBin dIx (gVar 6) (gVar 10)) (gTup (gCons (gBin dIx (gVar 14) (gC (.int 0))) (gCons (gBin dIx (gVar 14) (gC (.int 1))) (gCons (gIxO 8 (gVar 10)) gNil))))) (qDrop (gApp 9 (gTup (gCons (gBin dIx (gVar 6) (gVar 10)) (gCons (gVar 13) gNil)))))))))))) (qRet (gTup (gCons (gTup (gCons (gVar 4) (gCons (gCall dTuple (gCons (gVar 7) gNil)) gNil))) (gCons (gVar 9) gNil))))))))))))
def m__law_walk := mIO 16 g__law_walk
def g__law_follows : Sx → Option Out :=
  (qSeq (qSet 3 (gBin dIx (gBin dIx (gVar 0) (gC (.int 1))) (gBin dIx (gVar 1) (gC (.int 0))))) (qSeq (qSet 4 (gBin dIx (gBin dIx (gVar 0) (gC (.int 1))) (gBin dIx (gVar 2) (gC (.int 0))))) (qRet (gAndV (gBin dEq (gBin dIx (gVar 3) (gBin dSub (gC (.int 1)) (gBin dIx (gVar 1) (gC (.int 1))))) (gBin dIx (gVar 4) (gBin dIx (gVar 2) (gC (.int 1))))) (gBin dNe (gBin dIx (gVar 3) (gC (.int 2))) (gBin dIx (gVar 4) (gC (.int 2))))))))
def m__law_follows := mF 5 g__law_follows
def g__law_about : Sx → Option Out :=
  (qRet (gLc (gItems (gUn dRevL (gVar 0))) (sTup 2 (sCons (sName 1) (sCons (sName 2) sNil))) gYes (gTup (gCons (gVar 1) (gCons (gBin dSub (gC (.int 1)) (gVar 2)) gNil))) [1, 2]))
def m__law_about := mF 3 g__law_about
def g_put_otherwise : Sx → Option Out :=
  (qSeq (qIf (gB (gBin dEq (gCall dLen (gCons (gVar 1) gNil)) (gC (.int 2)))) (qSeq (qAsg (sTup 2 (sCons (sName 2) (sCons (sName 3) sNil))) (gVar 1)) (qRet (gBin dAdd (gBin dAdd (gSl (gVar 0) gNo (gSo (gVar 2))) (gCallF 1 m_faced_about (gCons (gSl (gVar 0) (gSo (gVar 2)) (gSo (gVar 3))) gNil))) (gSl (gVar 0) (gSo (gVar 3)) gNo)))) qNx) (qSeq (qAsg (sTup 4 (sCons (sName 4) (sCons (sName 5) (sCons (sName 6) (sCons (sName 7) sNil))))) (gVar 1)) (qRet (gBin dAdd (gBin dAdd (gBin dAdd (gBin dAdd (gSl (gVar 0) gNo (gSo (gVar 4))) (gSl (gVar 0) (gSo (gVar 6)) (gSo (gVar 7)))) (gSl (gVar 0) (gSo (gVar 5)) (gSo (gVar 6)))) (gSl (gVar 0) (gSo (gVar 4)) (gSo (gVar 5)))) (gSl (gVar 0) (gSo (gVar 7)) gNo)))))
def m_put_otherwise := mF 8 g_put_otherwise
def g_pairs_alike : Sx → Option Out :=
  (qSeq (qOwn 1 (gLst gNil)) (qSeq (qFor (gEnum (gCons (gVar 0) gNil)) (sTup 2 (sCons (sName 2) (sCons (sName 3) sNil))) (qAugL 1 (gLc (gRng2 (gCons (gBin dAdd (gVar 2) (gC (.int 1))) (gCons (gCall dLen (gCons (gVar 0) gNil)) gNil))) (sName 4) (gB (gBin dEq (gBin dIx (gVar 0) (gVar 4)) (gVar 3))) (gTup (gCons (gVar 2) (gCons (gVar 4) gNil))) [4]))) (qRet (gVar 1))))
def m_pairs_alike := mF 5 g_pairs_alike
def g_may_be : Sx → Option Out :=
  (qSeq (qSet 1 (gCallF 1 m_pairs_alike (gCons (gVar 0) gNil))) (qSeq (qOwn 2 (gLst gNil)) (qSeq (qFor (gItems (gVar 1)) (sTup 2 (sCons (sName 3) (sCons (sName 4) sNil))) (qAugL 2 (gLc (gItems (gVar 1)) (sTup 2 (sCons (sName 5) (sCons (sName 6) sNil))) (gB (gChain3 dLt dLe dLt (gVar 3) (gVar 5) (gVar 4) (gVar 6))) (gTup (gCons (gVar 3) (gCons (gVar 5) (gCons (gVar 4) (gCons (gVar 6) gNil))))) [5, 6]))) (qRet (gCall dSorted (gCons (gBin dAdd (gVar 1) (gVar 2)) gNil))))))
def m_may_be := mF 7 g_may_be
def g_turnings_of : Sx → Option Out :=
  (qSeq (qOwn 2 (gLst gNil)) (qSeq (qFor (gItems (gCallF 1 m_may_be (gCons (gSl (gCallF 2 m_places_along (gCons (gVar 0) (gCons (gVar 1) gNil))) gNo (gSo (gUn dNeg (gC (.int 1))))) gNil))) (sName 3) (qSeq (qSet 4 (gCallF 2 m_put_otherwise (gCons (gVar 1) (gCons (gVar 3) gNil)))) (qIf (gB (gCallF 2 m_round_is (gCons (gVar 0) (gCons (gVar 4) gNil)))) (qDrop (gApp 2 (gTup (gCons (gVar 3) (gCons (gVar 4) gNil))))) qNx))) (qRet (gVar 2))))
def m_turnings_of := mF 5 g_turnings_of
def g_turnings_N : Sx → Option Out :=
  (qSeq (qSet 0 (gCallF 1 m_kept (gCons (gVar 0) gNil))) (qRetO (gLc (gItems (gCallF 2 m_turnings_of (gCons (gVar 0) (gCons (gCallF 2 m_need_round (gCons (gVar 0) (gCons (gVar 1) gNil))) gNil)))) (sTup 2 (sCons (sName 2) (sCons (sName 3) sNil))) gYes (gVar 2) [2, 3])))
def m_turnings_N := mN 4 g_turnings_N
def g_is_turning : Sx → Option Out :=
  (qRet (gAndV (gOrV (gCallF 2 m_is_row (gCons (gVar 0) (gCons (gC (.int 2)) gNil))) (gCallF 2 m_is_row (gCons (gVar 0) (gCons (gC (.int 4)) gNil)))) (gCall dAll (gCons (gLc (gItems (gVar 0)) (sName 1) gYes (gCallF 1 m_is_whole (gCons (gVar 1) gNil)) [1]) gNil))))
def m_is_turning := mF 2 g_is_turning
def g_turned : Sx → Option Out :=
  (qSeq (qSet 0 (gCallF 1 m_kept (gCons (gVar 0) gNil))) (qSeq (qSet 3 (gCallF 2 m_need_round (gCons (gVar 0) (gCons (gVar 1) gNil)))) (qSeq (qIf (gOr (gNot (gB (gCallF 1 m_is_turning (gCons (gVar 2) gNil)))) (gB (gBin dNotIn (gCall dTuple (gCons (gVar 2) gNil)) (gCallF 1 m_may_be (gCons (gSl (gCallF 2 m_places_along (gCons (gVar 0) (gCons (gVar 3) gNil))) gNo (gSo (gUn dNeg (gC (.int 1))))) gNil))))) qNone qNx) (qSeq (qSet 4 (gCallF 2 m_put_otherwise (gCons (gVar 3) (gCons (gCall dTuple (gCons (gVar 2) gNil)) gNil)))) (qSeq (qIf (gNot (gB (gCallF 2 m_round_is (gCons (gVar 0) (gCons (gVar 4) gNil))))) qNone qNx) (qRet (gVar 4)))))))
def m_turned := mF 5 g_turned
def g__law_turned : Sx → Option Out :=
  (qSeq (qIf (gB (gBin dEq (gCall dLen (gCons (gVar 1) gNil)) (gC (.int 2)))) (qSeq (qAsg (sTup 2 (sCons (sName 2) (sCons (sName 3) sNil))) (gVar 1)) (qRet (gBin dAdd (gBin dAdd (gSl (gVar 0) gNo (gSo (gVar 2))) (gCallF 1 m__law_about (gCons (gSl (gVar 0) (gSo (gVar 2)) (gSo (gVar 3))) gNil))) (gSl (gVar 0) (gSo (gVar 3)) gNo)))) qNx) (qSeq (qAsg (sTup 4 (sCons (sName 2) (sCons (sName 3) (sCons (sName 4) (sCons (sName 5) sNil))))) (gVar 1)) (qSeq (qSet 6 (gBin dAdd (gSl (gVar 0) gNo (gSo (gVar 2))) (gSl (gVar 0) (gSo (gVar 4)) (gSo (gVar 5))))) (qRet (gBin dAdd (gBin dAdd (gBin dAdd (gVar 6) (gSl (gVar 0) (gSo (gVar 3)) (gSo (gVar 4)))) (gSl (gVar 0) (gSo (gVar 2)) (gSo (gVar 3)))) (gSl (gVar 0) (gSo (gVar 5)) gNo))))))
def m__law_turned := mF 7 g__law_turned
def g__law_goes_round : Sx → Option Out :=
  (qRet (gCall dAll (gCons (gLc (gZip (gCons (gVar 1) (gCons (gBin dAdd (gSl (gVar 1) (gSo (gC (.int 1))) gNo) (gSl (gVar 1) gNo (gSo (gC (.int 1))))) gNil))) (sTup 2 (sCons (sName 2) (sCons (sName 3) sNil))) gYes (gCallF 3 m__law_follows (gCons (gVar 0) (gCons (gVar 2) (gCons (gVar 3) gNil)))) [2, 3]) gNil)))
def m__law_goes_round := mF 4 g__law_goes_round
def g__law_turnings : Sx → Option Out :=
  (qSeq (qSet 2 (gLc (gItems (gVar 1)) (sTup 2 (sCons (sName 11) (sCons (sName 12) sNil))) gYes (gBin dIx (gBin dIx (gBin dIx (gVar 0) (gC (.int 1))) (gVar 11)) (gVar 12)) [11, 12])) (qSeq (qSet 3 (gCall dLen (gCons (gVar 1) gNil))) (qSeq (qOwn 4 (gLst gNil)) (qSeq (qFor (gRng1 (gCons (gVar 3) gNil)) (sName 5) (qDrop (gExt 4 (gLc (gRng2 (gCons (gBin dAdd (gVar 5) (gC (.int 1))) (gCons (gVar 3) gNil))) (sName 13) (gB (gBin dEq (gBin dIx (gVar 2) (gVar 5)) (gBin dIx (gVar 2) (gVar 13)))) (gTup (gCons (gVar 5) (gCons (gVar 13) gNil))) [13])))) (qSeq (qOwn 6 (gLst gNil)) (qSeq (qFor (gItems (gVar 4)) (sTup 2 (sCons (sName 5) (sCons (sName 7) sNil))) (qSeq (qSet 8 (gLc (gItems (gVar 4)) (sName 14) (gB (gChain3 dLt dLe dLt (gVar 5) (gBin dIx (gVar 14) (gC (.int 0))) (gVar 7) (gBin dIx (gVar 14) (gC (.int 1))))) (gVar 14) [14])) (qDrop (gExt 6 (gLc (gItems (gVar 8)) (sTup 2 (sCons (sName 13) (sCons (sName 15) sNil))) gYes (gTup (gCons (gVar 5) (gCons (gVar 13) (gCons (gVar 7) (gCons (gVar 15) gNil))))) [13, 15]))))) (qSeq (qSet 9 (gCall dSorted (gCons (gBin dAdd (gVar 4) (gVar 6)) gNil))) (qSeq (qSet 10 (gLc (gItems (gVar 9)) (sName 16) gYes (gTup (gCons (gVar 16) (gCons (gCallF 2 m__law_turned (gCons (gVar 1) (gCons (gVar 16) gNil))) gNil))) [16])) (qRet (gLc (gItems (gVar 10)) (sTup 2 (sCons (sName 17) (sCons (sName 18) sNil))) (gB (gCallF 2 m__law_goes_round (gCons (gVar 0) (gCons (gVar 18) gNil)))) (gTup (gCons (gVar 17) (gCons (gVar 18) gNil))) [17, 18]))))))))))
def m__law_turnings := mF 19 g__law_turnings
def g__law_wider : Sx → Option Out :=
  (qSeq (qOwn 3 (gCall dList (gCons (gBin dIx (gVar 1) (gC (.int 1))) gNil))) (qSeq (qFor (gRng1 (gCons (gBin dAdd (gC (.int 1)) (gIO 0 1 m__law_draw_k32 (gCons (gC (.int 3)) gNil))) gNil)) (sName 4) (qDrop (gApp 3 (gTup (gCons (gIO 0 1 m__law_draw_k32 (gCons (gBin dAdd (gBin dIx (gVar 1) (gC (.int 0))) (gC (.int 1))) gNil)) (gCons (gIO 0 1 m__law_draw_k32 (gCons (gBin dAdd (gBin dIx (gVar 1) (gC (.int 0))) (gC (.int 1))) gNil)) (gCons (gBin dIx (gC (.str "abcd")) (gIO 0 1 m__law_draw_k32 (gCons (gC (.int 4)) gNil))) gNil))))))) (qSeq (qSet 5 (gIO 0 1 m__law_mixed (gCons (gListRng1 (gLenO 3)) gNil))) (qRet (gTup (gCons (gTup (gCons (gBin dAdd (gBin dIx (gVar 1) (gC (.int 0))) (gC (.int 1))) (gCons (gCall dTuple (gCons (gLc (gItems (gVar 5)) (sName 6) gYes (gIxO 3 (gVar 6)) [6]) gNil)) gNil))) (gCons (gLc (gItems (gVar 2)) (sTup 2 (sCons (sName 7) (sCons (sName 8) sNil))) gYes (gTup (gCons (gBin dIndex (gVar 5) (gVar 7)) (gCons (gVar 8) gNil))) [7, 8]) gNil)))))))
def m__law_wider := mIO 9 g__law_wider
end Lw

set_option maxHeartbeats 4000000
namespace Fu
open PySem
/-! ### comprehensions over typed items -/
theorem turns_typed {α : Type} {gg : D → Sx → Option Sx} {gt : M Bool} {ge : M D} {vs : List Nat} {b : α → Bool} {enc f : α → D} {w : List (Option R)} {os : List (Option Cell)} :
    ∀ (xs : List α) (sl : List (Option R)), wipeS sl vs = w → (∀ x ∈ xs, ∃ sl1, gg (enc x) ⟨w, os⟩ = some ⟨sl1, os⟩ ∧ wipeS sl1 vs = w ∧ gt ⟨sl1, os⟩ = some (b x, ⟨sl1, os⟩) ∧ (b x = true → ge ⟨sl1, os⟩ = some (f x, ⟨sl1, os⟩))) →
      ∃ sl', wipeS sl' vs = w ∧ gTurns gg gt ge vs (xs.map enc) ⟨sl, os⟩ = some ((xs.filter b).map f, ⟨sl', os⟩)
  | [], sl, e, _ => ⟨sl, e, rfl⟩
  | x :: xs, sl, e, h => by
    obtain ⟨sl1, h1, h2, h3, h4⟩ := h x List.mem_cons_self
    obtain ⟨sl', e', ih⟩ := turns_typed xs sl1 h2 fun y hy => h y (List.mem_cons_of_mem _ hy)
    refine ⟨sl', e', ?_⟩
    rw [List.map_cons, gTurns]
    simp only [e, h1, h3, Option.bind_some]
    cases hb : b x with
    | true => simp [h4 hb, ih, hb]
    | false => simp [ih, hb]
theorem ev_lcX {α : Type} {S : Sx} {Q : D → Sx → Prop} {gi : M (List D)} {gg : D → Sx → Option Sx} {gt : M Bool} {ge : M D} {vs : List Nat} {xs : List α} {enc : α → D} {b : α → Bool} {g : α → D}
    (h : Ev (gi S) fun ds S1 => ds = xs.map enc ∧ (∀ x ∈ xs, Es (gg (enc x) ⟨wipeS S1.sl vs, S1.os⟩) fun S2 => wipeS S2.sl vs = wipeS S1.sl vs ∧ S2.os = S1.os ∧ Ev (gt S2) fun c S3 => S3 = S2 ∧ c = b x ∧ (b x = true → Ev (ge S2) fun e S4 => e = g x ∧ S4 = S2)) ∧ Q (.list ((xs.filter b).map g)) S1) : Ev (gLc gi gg gt ge vs S) Q := by
  obtain ⟨ds, ⟨sl1, os1⟩, e1, rfl, h1, q⟩ := h
  obtain ⟨sl', e', ht⟩ := turns_typed (gg := gg) (gt := gt) (ge := ge) (b := b) (enc := enc) (f := g) xs sl1 rfl fun d hd => by
    obtain ⟨⟨sl2, os2⟩, e2, e3, e4, c, S3, e5, e6, e7, e8⟩ := h1 d hd
    cases e4
    subst e7 e6
    exact ⟨sl2, e2, e3, e5, fun hb => (e8 hb).eq⟩
  refine ⟨_, _, ?_, q⟩
  unfold gLc
  rw [e1]
  simp only [Option.bind_some, ht, backS_same e']
theorem ev_mapX {α : Type} {S : Sx} {Q : D → Sx → Prop} {gi : M (List D)} {gg : D → Sx → Option Sx} {ge : M D} {vs : List Nat} {xs : List α} {enc : α → D} {g : α → D}
    (h : Ev (gi S) fun ds S1 => ds = xs.map enc ∧ (∀ x ∈ xs, Es (gg (enc x) ⟨wipeS S1.sl vs, S1.os⟩) fun S2 => wipeS S2.sl vs = wipeS S1.sl vs ∧ S2.os = S1.os ∧ Ev (ge S2) fun e S4 => e = g x ∧ S4 = S2) ∧ Q (.list (xs.map g)) S1) : Ev (gLc gi gg gYes ge vs S) Q := by
  refine ev_lcX (xs := xs) (enc := enc) (b := fun _ => true) (g := g) ?_
  refine h.mono fun ds S1 h => ⟨h.1, fun d hd => ?_, by rw [List.filter_eq_self.mpr fun _ _ => rfl]; exact h.2.2⟩
  obtain ⟨S2, e2, e3, e4, e5⟩ := h.2.1 d hd
  exact ⟨S2, e2, e3, e4, ev_yes ⟨rfl, rfl, fun _ => e5⟩⟩
/-- loops over typed items -/
theorem eo_loopX {α : Type} {S : Sx} {Z : Out → Prop} {gg : D → Sx → Option Sx} {body : Sx → Option Out} {xs : List α} {enc : α → D} (I : Nat → Sx → Prop) (h0 : I 0 S) (hs : ∀ i x S, xs[i]? = some x → I i S → Es (gg (enc x) S) fun S1 => Eo (body S1) fun o => ∃ S2, o = .nx S2 ∧ I (i + 1) S2) (hz : ∀ S', I xs.length S' → Z (.nx S')) : Eo (gLoop gg body (xs.map enc) S) Z := by
  refine eo_loop I h0 (fun i d S hd hI => ?_) fun S' h => hz S' (by simpa using h)
  rw [List.getElem?_map] at hd
  obtain ⟨x, hx, rfl⟩ := Option.map_eq_some_iff.mp hd
  exact hs i x S hx hI
theorem rng_map (lo : Int) (n : Nat) : rng lo n = (List.range n).map fun i : Nat => .int (lo + (i : Int)) := rfl
theorem rng0 (n : Nat) : rng 0 n = (List.range n).map fun i : Nat => .int (i : Int) := by
  unfold rng; simp

/-! ### lists or tuples -/
def seqOf : D → Option (List D)
  | .list xs => some xs
  | .tuple xs => some xs
  | _ => none
def Sq (d : D) (xs : List D) : Prop := d = .list xs ∨ d = .tuple xs
theorem sq_l (xs : List D) : Sq (.list xs) xs := .inl rfl
theorem sq_t (xs : List D) : Sq (.tuple xs) xs := .inr rfl
theorem sq_of {d : D} {xs : List D} (h : seqOf d = some xs) : Sq d xs := by
  cases d <;> simp [seqOf] at h
  · exact .inl (by rw [h])
  · exact .inr (by rw [h])
theorem Sq.of {d : D} {xs : List D} (h : Sq d xs) : seqOf d = some xs := by rcases h with rfl | rfl <;> rfl
theorem Sq.isi {d : D} {xs : List D} (h : Sq d xs) : (isT "list" d || isT "tuple" d) = true := by rcases h with rfl | rfl <;> rfl
theorem isi_seq (d : D) : (isT "list" d || isT "tuple" d) = (seqOf d).isSome := by cases d <;> rfl
section
variable {Q : D → Prop} {d x : D} {xs : List D} {i : Int}
theorem ed_ixQ (s : Sq d xs) (h0 : 0 ≤ i) (e : xs[i.toNat]? = some x) (h : Q x) : Ed (dIx d (.int i)) Q := by
  rcases s with rfl | rfl
  · exact ed_ixL h0 e h
  · exact ed_ixT h0 e h
theorem ed_lenQ (s : Sq d xs) (h : Q (.int xs.length)) : Ed (dLen [d]) Q := by rcases s with rfl | rfl <;> exact ⟨_, rfl, h⟩
theorem ed_itQ {Q : List D → Prop} (s : Sq d xs) (h : Q xs) : Ed (itemsOf d) Q := by rcases s with rfl | rfl <;> exact ⟨_, rfl, h⟩
theorem ed_slQ {lo hi : Option Int} (s : Sq d xs) (h : ∀ z, Sq z (cutL xs lo hi) → Q z) : Ed (dSl d lo hi) Q := by
  rcases s with rfl | rfl
  · exact ⟨_, rfl, h _ (sq_l _)⟩
  · exact ⟨_, rfl, h _ (sq_t _)⟩
theorem ed_tupQ (s : Sq d xs) (h : Q (.tuple xs)) : Ed (dTuple [d]) Q := by rcases s with rfl | rfl <;> exact ⟨_, rfl, h⟩
theorem ed_listQ (s : Sq d xs) (h : Q (.list xs)) : Ed (dList [d]) Q := by rcases s with rfl | rfl <;> exact ⟨_, rfl, h⟩
end
theorem all_mapX {α : Type} (f : α → Bool) (xs : List α) {Q : D → Prop} (h : Q (.bool (xs.all f))) : Ed (dAll [.list (xs.map fun a => .bool (f a))]) Q := ⟨_, all_map f xs, h⟩
theorem any_map {α : Type} (f : α → Bool) (xs : List α) {Q : D → Prop} (h : Q (.bool (xs.any f))) : Ed (dAny [.list (xs.map fun a => .bool (f a))]) Q := ⟨_, by
  simp only [dAny, allBools_fn, Option.bind_some]; rw [List.any_map]; rfl, h⟩
/-! ### looks -/
theorem ev_view {S : Sx} {g : M D} {Q : D → Sx → Prop} (h : Ev (g (sealAll S)) fun d _ => hardD d = true ∧ Q d S) : Ev (gView g S) Q := by
  obtain ⟨d, S1, e, hz, q⟩ := h
  exact ⟨d, S, by simp only [gView, e, Option.bind_some, hz, if_true], q⟩
theorem sealS_none (os : List (Option Cell)) : sealS os none = none := rfl
theorem sealS_dat (os : List (Option Cell)) (d : D) : sealS os (some (.dat d)) = some (.dat d) := rfl
theorem sealS_scr (os : List (Option Cell)) (d : List Int) : sealS os (some (.scr d)) = some (.scr d) := rfl
def sealC (os : List (Option Cell)) : Option (Option Cell) → Option R
  | some (some (.lst ds)) => some (.dat (.list ds))
  | some (some (.lR rs)) => ((mapO (snapR os 7) rs).map .list).map .dat
  | _ => none
theorem sealS_own (os : List (Option Cell)) (j : Nat) : sealS os (some (.own j)) = sealC os os[j]? := by
  simp only [sealS, snapR]
  generalize os[j]? = c
  rcases c with _ | _ | c
  · rfl
  · rfl
  · cases c <;> rfl
theorem sealC_lst (os : List (Option Cell)) (ds : List D) : sealC os (some (some (.lst ds))) = some (.dat (.list ds)) := rfl
theorem sealAll_mk {sl sl' : List (Option R)} {os os' : List (Option Cell)} (h : sl.map (sealS os) = sl') (h2 : os.map (fun _ => none) = os') : sealAll ⟨sl, os⟩ = ⟨sl', os'⟩ := by unfold sealAll; rw [h, h2]
end Fu

set_option maxHeartbeats 4000000
namespace Lw
open PySem Fu
local macro_rules | `(tactic| walk_at "e1") => `(tactic| first
  | with_reducible refine eo_seq ?_ | (with_reducible refine then_nx' ?_; refine ⟨?_, ?_, ?_⟩; rotate_left; · (try dsimp only [List.set, List.length_cons, List.length_nil, List.cons_append, List.nil_append, Nat.zero_add, Nat.reduceAdd]); exact rfl) | with_reducible refine then_rt ?_ | with_reducible refine eo_if ?_ | with_reducible refine eo_ret ?_ | with_reducible refine eo_set ?_ | with_reducible refine eo_asg ?_ | with_reducible refine eo_drop ?_ | with_reducible refine eo_nx ?_ | with_reducible refine eo_par ?_ | with_reducible refine eo_own ?_ | with_reducible refine eo_retN ?_ | with_reducible refine eo_for ?_ | with_reducible refine eo_retO ?_
  | with_reducible refine ev_c ?_ | (with_reducible refine ev_var ?_; refine ⟨_, rfl, ?_⟩) | with_reducible refine ev_bin ?_ | with_reducible refine ev_un ?_ | with_reducible refine ev_nil ?_ | with_reducible refine ev_cons ?_
  | with_reducible refine ev_tup ?_ | with_reducible refine ev_lst ?_ | with_reducible refine ev_call ?_ | with_reducible refine ev_callF ?_ | with_reducible refine ev_isi ?_ | with_reducible refine ev_isi2 ?_ | with_reducible refine ev_andV ?_ | with_reducible refine ev_orV ?_ | with_reducible refine ev_notV ?_
  | with_reducible refine ev_B ?_ | with_reducible refine ev_and ?_ | with_reducible refine ev_or ?_ | with_reducible refine ev_not ?_ | with_reducible refine ev_yes ?_ | with_reducible refine ev_if ?_ | with_reducible refine ev_no ?_ | with_reducible refine ev_so ?_ | with_reducible refine ev_sl ?_ | with_reducible refine ev_items ?_
  | (with_reducible refine ev_ixO ?_; refine ⟨_, _, rfl, rfl, ?_⟩) | (with_reducible refine ev_varO ?_; refine ⟨_, _, rfl, rfl, ?_⟩) | (with_reducible refine ev_lenO ?_; refine ⟨_, _, rfl, rfl, ?_⟩) | (with_reducible refine ev_scrSl ?_; refine ⟨_, rfl, ?_⟩) | (with_reducible refine ev_scrLen ?_; refine ⟨_, rfl, ?_⟩) | (with_reducible refine ev_callScr ?_; refine ⟨_, rfl, ?_⟩) | (with_reducible refine ev_OL ?_; refine ⟨_, _, rfl, rfl, ?_⟩) | with_reducible refine ev_OR ?_ | with_reducible refine ev_rep ?_ | with_reducible refine ev_listRng1 ?_ | with_reducible refine eo_setO ?_
  | with_reducible refine es_name ?_ | with_reducible refine es_tup2 ?_ | with_reducible refine es_tup3 ?_
  | with_reducible refine ed_addI ?_ | with_reducible refine ed_subI ?_ | with_reducible refine ed_cmp ?_ | with_reducible refine ed_eqI ?_ | with_reducible refine ed_neI ?_ | with_reducible refine ed_slT ?_ | with_reducible refine ed_slL ?_ | with_reducible refine ed_lenT ?_ | with_reducible refine ed_lenL ?_ | with_reducible refine ed_lenS ?_ | with_reducible refine ed_inS ?_ | with_reducible refine ed_itT ?_ | with_reducible refine ed_itL ?_ | with_reducible refine ed_tupL ?_ | with_reducible refine ed_tupT ?_ | with_reducible refine ed_listL ?_ | with_reducible refine ed_listT ?_ | with_reducible refine ed_neg ?_ | with_reducible refine ed_max ?_ | with_reducible refine ed_min ?_ | with_reducible refine ed_intB ?_
  | with_reducible refine ev_rng1 ?_ | with_reducible refine ev_rng2 ?_)
local macro_rules | `(tactic| walk_at "sd") => `(tactic| first | rfl | assumption | (simp only [decide_eq_true_eq, decide_eq_false_iff_not, Bool.not_eq_true', Bool.not_eq_false', Bool.and_eq_true, Bool.or_eq_true, List.length_map, List.length_cons, List.length_nil, List.length_append, List.length_range] at *; omega))
local macro_rules | `(tactic| walk_at "e2") => `(tactic| first
  | walk_at "e1" | with_reducible refine ⟨_, rfl, ?_⟩ | with_reducible refine ⟨_, _, rfl, ?_⟩
  | with_reducible refine And.intro (Eq.refl (List.length _)) ?_ | with_reducible refine And.intro (Nat.le_of_ble_eq_true (n := List.length _) rfl) ?_
  | with_reducible refine And.intro (Eq.refl (_ : Sx)) (?_ : Ed _ _)
  | ((with_reducible refine And.intro ?_ (And.intro ?_ (?_ : Ev _ _))); (· rfl); (· rfl))
  | ((with_reducible refine ed_ixT ?_ ?_ ?_); (· decide); (· rfl)) | ((with_reducible refine ed_ixL ?_ ?_ ?_); (· decide); (· rfl)) | ((with_reducible refine ed_at ?_ ?_ ?_); (· decide); (· rfl))
  | ((with_reducible refine ed_modI ?_ ?_); (· first | decide | omega))
  | with_reducible exact gives_nx | ((with_reducible refine gives_rt ?_); (· rfl)) | ((with_reducible refine And.intro ?_ ?_); (· exact rfl); (· with_reducible exact Eq.refl (_ : Sx))))
local macro_rules | `(tactic| walk_at "e") => `(tactic| repeat walk_at "e2")
/-- begin a def's spec -/
local macro_rules | `(tactic| walk_at "i") => `(tactic| simp only [initS, List.map_cons, List.map_nil, List.length_cons, List.length_nil, Nat.reduceAdd, Nat.reduceSub, List.replicate, List.cons_append, List.nil_append])
/-- a known truth decides -/
local macro_rules | `(tactic| walk_at "t") => `(tactic| first | ((with_reducible refine split_t ?_ ?_); (· walk_at "sd")) | ((with_reducible refine split_t' ?_ ?_); (· walk_at "sd")))
local macro_rules | `(tactic| walk_at "f") => `(tactic| first | ((with_reducible refine split_f ?_ ?_); (· walk_at "sd")) | ((with_reducible refine split_f' ?_ ?_); (· walk_at "sd")))
/-- all that is seen in a look -/
local macro_rules | `(tactic| walk_at "v") => `(tactic| (rw [sealAll_mk (by (simp only [List.set_cons_zero, List.set_cons_succ, List.map_cons, List.map_nil, sealS_none, sealS_dat, sealS_scr, sealS_own, List.getElem?_cons_zero, List.getElem?_cons_succ, sealC_lst]; rfl)) (by (simp only [List.set_cons_zero, List.set_cons_succ, List.map_cons, List.map_nil]; rfl))]))
/-! ### whole numbers, rows, companies, lines, ends: of anything -/
def wholeD : D → Bool
  | .int i => decide (0 ≤ i)
  | _ => false
def rowD (n : Nat) (d : D) : Bool := match seqOf d with
  | some xs => decide (xs.length = n)
  | none => false
def Let (c : Nat) : Prop := 97 ≤ c ∧ c ≤ 122
instance (c : Nat) : Decidable (Let c) := inferInstanceAs (Decidable (_ ∧ _))
theorem Let.ok {c : Nat} (h : Let c) : c < 0x110000 := by have := h.2; omega
def companyD : D → Bool
  | .str x => match x.cps.toList with
    | [c] => decide (Let c)
    | _ => false
  | _ => false
def atD (d : D) (i : Nat) : D := ((seqOf d).getD []).getD i .none
def lineD (p : Int) (d : D) : Bool := rowD 3 d && companyD (atD d 2) && (match atD d 0 with | .int a => decide (0 ≤ a) && decide (a < p) | _ => false) && (match atD d 1 with | .int a => decide (0 ≤ a) && decide (a < p) | _ => false)
def endD (n : Nat) (d : D) : Bool := match seqOf d with
  | some [.int a, .int s] => decide (0 ≤ a) && decide (0 ≤ s) && decide (a < n) && decide (s < 2)
  | _ => false
theorem company_of {d : D} (h : companyD d = true) : ∃ c, d = ch c ∧ Let c := by
  unfold companyD at h
  split at h
  · split at h
    · rename_i x c e
      refine ⟨c, ?_, of_decide_eq_true h⟩
      unfold ch
      congr 1
      exact congrArg Str.mk (Array.toList_inj.mp (by simpa using e))
    · cases h
  · cases h
theorem companyD_ch {c : Nat} (h : Let c) : companyD (ch c) = true := decide_eq_true h
theorem x_is_whole (d : D) : m_is_whole [d] = some (.bool (wholeD d)) := by
  unfold m_is_whole; refine mF_of ?_; walk_at "i"; unfold g_is_whole
  walk_at "e"
  refine ⟨fun h1 => ?_, fun h1 => ?_⟩
  · walk_at "e"
    refine ⟨fun h2 => ?_, fun h2 => ?_⟩
    · cases d <;> simp [isT, dTy] at h1 h2
      walk_at "e"
    · cases d <;> simp [isT, dTy] at h1 h2
      walk_at "e"
  · cases d <;> simp [isT, dTy] at h1 <;> walk_at "e"
theorem x_is_row (d : D) (n : Nat) : m_is_row [d, .int n] = some (.bool (rowD n d)) := by
  unfold m_is_row; refine mF_of ?_; walk_at "i"; unfold g_is_row
  walk_at "e"
  rw [isi_seq]
  refine ⟨fun h1 => ?_, fun h1 => ?_⟩
  · obtain ⟨xs, hx⟩ := Option.isSome_iff_exists.mp h1
    walk_at "e"
    refine ed_lenQ (sq_of hx) ?_
    walk_at "e"
    unfold rowD
    rw [gives_rtI, hx]
    simp only [PyData.bool.injEq, decide_eq_decide]
    omega
  · have hx : seqOf d = none := by simpa using h1
    rw [gives_rtI]
    unfold rowD; rw [hx]
theorem letters : ("abcdefghijklmnopqrstuvwxyz" : Str).cps.toList = (List.range 26).map (97 + ·) := by decide +kernel
theorem x_is_company (d : D) : m_is_company [d] = some (.bool (companyD d)) := by
  unfold m_is_company; refine mF_of ?_; walk_at "i"; unfold g_is_company
  walk_at "e"
  refine ⟨fun h1 => ?_, fun h1 => ?_⟩
  · obtain ⟨x, rfl⟩ : ∃ x, d = .str x := by cases d <;> simp [isT, dTy] at h1; exact ⟨_, rfl⟩
    walk_at "e"
    refine ⟨fun h2 => ?_, fun h2 => ?_⟩
    · have hl : x.cps.toList.length = 1 := by
        have h2 := of_decide_eq_true h2
        rw [Array.length_toList]
        exact Int.ofNat.inj h2
      obtain ⟨c, hc⟩ := List.length_eq_one_iff.mp hl
      obtain rfl : x = ⟨#[c]⟩ := congrArg Str.mk (Array.toList_inj.mp (by simpa using hc))
      walk_at "e"
      rw [gives_rtI]
      show PyData.bool _ = PyData.bool (decide (Let c))
      rw [letters]
      congr 1
      apply decide_eq_decide.mpr
      unfold Let
      rw [List.mem_map]
      constructor
      · rintro ⟨i, hi, rfl⟩; rw [List.mem_range] at hi; omega
      · intro h; exact ⟨c - 97, by rw [List.mem_range]; omega, by omega⟩
    · walk_at "e"
      rw [gives_rtI]
      show PyData.bool false = PyData.bool (match x.cps.toList with | [c] => decide (Let c) | _ => false)
      split
      · rename_i c e
        have h2 := of_decide_eq_false h2
        exfalso; apply h2
        have : x.cps.toList.length = 1 := by rw [e]; rfl
        rw [Array.length_toList] at this
        exact congrArg Int.ofNat this
      · rfl
  · rw [gives_rtI]
    cases d <;> first | rfl | simp [isT, dTy] at h1
theorem row_of {n : Nat} {d : D} (h : rowD n d = true) : ∃ xs, Sq d xs ∧ xs.length = n := by
  unfold rowD at h
  split at h
  · rename_i xs e; exact ⟨xs, sq_of e, of_decide_eq_true h⟩
  · cases h
theorem sq_row {n : Nat} {d : D} {xs : List D} (s : Sq d xs) (h : xs.length = n) : rowD n d = true := by unfold rowD; rw [s.of]; exact decide_eq_true h
theorem sq_at {d : D} {xs : List D} (s : Sq d xs) (i : Nat) : atD d i = xs.getD i .none := by unfold atD; rw [s.of]; rfl
def placeD (p : Int) (d : D) : Bool := match d with | .int a => decide (0 ≤ a) && decide (a < p) | _ => false
theorem x_is_line_of (p : Int) (d : D) : m_is_line_of [.int p, d] = some (.bool (lineD p d)) := by
  unfold m_is_line_of; refine mF_of ?_; walk_at "i"; unfold g_is_line_of
  walk_at "e"
  refine Ed.of (x_is_row d 3) ?_
  walk_at "e"
  refine ⟨fun h1 => ?_, fun h1 => ?_⟩
  rotate_left
  · walk_at "t"
    walk_at "e"
    have h1 : rowD 3 d = false := by simpa using h1
    simp [lineD, h1]
  have h1 : rowD 3 d = true := by simpa using h1
  obtain ⟨xs, s, hl⟩ := row_of h1
  obtain ⟨a, b, c, rfl⟩ : ∃ a b c, xs = [a, b, c] := by
    match xs, hl with
    | [a, b, c], _ => exact ⟨a, b, c, rfl⟩
  walk_at "e"
  refine ed_ixQ s (by decide) rfl ?_
  walk_at "e"
  refine Ed.of (x_is_company c) ?_
  walk_at "e"
  have e2 : atD d 2 = c := sq_at s 2
  have e1 : atD d 1 = b := sq_at s 1
  have e0 : atD d 0 = a := sq_at s 0
  have el : lineD p d = (companyD c && placeD p a && placeD p b) := by
    unfold lineD placeD; rw [h1, e2, e1, e0]; rfl
  rw [el]
  refine ⟨fun h2 => ?_, fun h2 => ?_⟩
  · walk_at "e"
    have h2 : companyD c = false := by simpa using h2
    simp [h2]
  have h2 : companyD c = true := by simpa using h2
  walk_at "e"
  refine ev_mapX (xs := [a, b]) (enc := fun z => z) (g := fun z => .bool (placeD p z)) ?_
  walk_at "e"
  refine ed_slQ s fun z sz => ?_
  walk_at "e"
  refine ed_itQ sz ⟨by simp [cutL, HT.sIx], fun z hz => ?_, ?_⟩
  · walk_at "e"
    refine Ed.of (x_is_whole z) ?_
    walk_at "e"
    refine ⟨fun h3 => ?_, fun h3 => ?_⟩
    · cases z <;> simp [wholeD] at h3
      walk_at "e"
      simp [placeD, h3]
    · walk_at "e"
      cases z <;> simp [wholeD] at h3 <;> simp [placeD]
      omega
  · walk_at "e"
    refine all_mapX (placeD p) [a, b] ?_
    simp [h2, Bool.and_assoc]
/-! ### webs -/
abbrev Ln := Int × Int × Nat
def ln (l : Ln) : D := .tuple [.int l.1, .int l.2.1, ch l.2.2]
def wb (p : Int) (ls : List Ln) : D := .tuple [.int p, .tuple (ls.map ln)]
structure LnOk (p : Int) (l : Ln) : Prop where
  a0 : 0 ≤ l.1
  a1 : l.1 < p
  b0 : 0 ≤ l.2.1
  b1 : l.2.1 < p
  c : Let l.2.2
structure WbOk (p : Int) (ls : List Ln) : Prop where
  p0 : 0 ≤ p
  all : ∀ l ∈ ls, LnOk p l
  len : ls.length ≤ 1000000
def IsLn (d : D) (l : Ln) : Prop := Sq d [.int l.1, .int l.2.1, ch l.2.2]
def Lns (d : D) (ls : List Ln) : Prop := ∃ ps : List (D × Ln), Sq d (ps.map (·.1)) ∧ ls = ps.map (·.2) ∧ ∀ q ∈ ps, IsLn q.1 q.2
def Web (d : D) (p : Int) (ls : List Ln) : Prop := ∃ L, Sq d [.int p, L] ∧ Lns L ls
theorem isLn_ln (l : Ln) : IsLn (ln l) l := sq_t _
theorem lns_of {d : D} {ls : List Ln} (s : Sq d (ls.map ln)) : Lns d ls := ⟨ls.map fun l => (ln l, l), by rw [List.map_map]; exact s, by rw [List.map_map]; exact (List.map_id _).symm, fun q hq => by
  obtain ⟨l, _, rfl⟩ := List.mem_map.mp hq
  exact isLn_ln l⟩
theorem web_wb (p : Int) (ls : List Ln) : Web (wb p ls) p ls := ⟨_, sq_t _, lns_of (sq_t _)⟩
theorem lineD_of {p : Int} {d : D} {l : Ln} (s : IsLn d l) (h : LnOk p l) : lineD p d = true := by
  unfold lineD
  rw [sq_row (n := 3) s rfl, sq_at s 2, sq_at s 1, sq_at s 0]
  simp [companyD_ch h.c, h.a0, h.a1, h.b0, h.b1]
theorem line_at {d : D} {ls : List Ln} (h : Lns d ls) {i : Nat} {l : Ln} (hl : ls[i]? = some l) : ∃ xs x, Sq d xs ∧ xs.length = ls.length ∧ xs[i]? = some x ∧ IsLn x l := by
  obtain ⟨ps, s, rfl, hp⟩ := h
  rw [List.getElem?_map] at hl
  obtain ⟨q, hq, rfl⟩ := Option.map_eq_some_iff.mp hl
  exact ⟨_, q.1, s, by simp, by rw [List.getElem?_map, hq]; rfl, hp q (List.mem_of_getElem? hq)⟩
theorem lns_len {d : D} {ls : List Ln} (h : Lns d ls) : ∃ xs, Sq d xs ∧ xs.length = ls.length := by
  obtain ⟨ps, s, rfl, hp⟩ := h
  exact ⟨_, s, by simp⟩
theorem x_web_of {p : Int} {L : D} {ls : List Ln} (hL : Lns L ls) (h : WbOk p ls) : m_web_of [.int p, L] = some (wb p ls) := by
  obtain ⟨ps, s, rfl, hp⟩ := hL
  unfold m_web_of; refine mF_of ?_; walk_at "i"; unfold g_web_of
  walk_at "e"
  refine Ed.of (x_is_whole _) ?_
  walk_at "e"
  refine split_f' (by simp [wholeD, h.p0]) ?_
  walk_at "e"
  rw [s.isi]
  walk_at "f"
  walk_at "e"
  refine ev_mapX (xs := ps) (enc := (·.1)) (g := fun q => .bool true) ?_
  walk_at "e"
  refine ed_itQ s ⟨rfl, fun q hq => ?_, ?_⟩
  · walk_at "e"
    refine Ed.of (x_is_line_of p q.1) ⟨?_, rfl⟩
    rw [lineD_of (hp q hq) (h.all _ (List.mem_map_of_mem hq))]
  · walk_at "e"
    refine all_mapX (fun _ => true) ps ?_
    walk_at "e"
    refine split_f (by simp) ?_
    walk_at "e"
    refine ev_mapX (xs := ps) (enc := (·.1)) (g := fun q => ln q.2) ?_
    walk_at "e"
    refine ed_itQ s ⟨rfl, fun q hq => ?_, ?_⟩
    · walk_at "e"
      exact ed_tupQ (hp q hq) ⟨rfl, rfl⟩
    · walk_at "e"
      simp [wb, List.map_map]
theorem x_kept {w : D} {p : Int} {ls : List Ln} (hw : Web w p ls) (h : WbOk p ls) : m_kept [w] = some (wb p ls) := by
  obtain ⟨L, s, hL⟩ := hw
  unfold m_kept; refine mF_of ?_; walk_at "i"; unfold g_kept
  walk_at "e"
  refine ed_ixQ s (by decide) rfl ?_
  walk_at "e"
  refine ed_ixQ s (by decide) rfl ?_
  walk_at "e"
  exact Ed.of (x_web_of hL h) rfl
/-! ### ends -/
def en (e : Int × Int) : D := .tuple [.int e.1, .int e.2]
def IsEn (d : D) (e : Int × Int) : Prop := Sq d [.int e.1, .int e.2]
theorem isEn_en (e : Int × Int) : IsEn (en e) e := sq_t _
def EndOk (n : Nat) (e : Int × Int) : Prop := 0 ≤ e.1 ∧ e.1 < n ∧ 0 ≤ e.2 ∧ e.2 < 2
instance (n : Nat) (e : Int × Int) : Decidable (EndOk n e) := by unfold EndOk; infer_instance
theorem endD_of {n : Nat} {d : D} {e : Int × Int} (s : IsEn d e) : endD n d = decide (EndOk n e) := by
  unfold endD
  rw [s.of]
  refine Bool.eq_iff_iff.mpr ⟨fun h => decide_eq_true ?_, fun h => ?_⟩
  · simp only [Bool.and_eq_true, decide_eq_true_eq] at h
    exact ⟨h.1.1.1, h.1.2, h.1.1.2, h.2⟩
  · have h := of_decide_eq_true h
    simp only [Bool.and_eq_true, decide_eq_true_eq]
    exact ⟨⟨⟨h.1, h.2.2.1⟩, h.2.1⟩, h.2.2.2⟩
theorem isEn_of {n : Nat} {d : D} (h : endD n d = true) : ∃ e, IsEn d e ∧ EndOk n e := by
  unfold endD at h
  split at h
  · rename_i a s e
    have h1 := h
    simp only [Bool.and_eq_true, decide_eq_true_eq] at h1
    exact ⟨(a, s), sq_of e, h1.1.1.1, h1.1.2, h1.1.1.2, h1.2⟩
  · cases h
theorem x_is_end {w : D} {p : Int} {ls : List Ln} (hw : Web w p ls) (d : D) : m_is_end [w, d] = some (.bool (endD ls.length d)) := by
  obtain ⟨L, s, hL⟩ := hw
  obtain ⟨xs, sx, hl⟩ := lns_len hL
  unfold m_is_end; refine mF_of ?_; walk_at "i"; unfold g_is_end
  walk_at "e"
  refine Ed.of (x_is_row d 2) ?_
  walk_at "e"
  refine ⟨fun h1 => ?_, fun h1 => ?_⟩
  rotate_left
  · walk_at "t"
    walk_at "e"
    have h1 : rowD 2 d = false := by simpa using h1
    have : endD ls.length d = false := by
      unfold endD; unfold rowD at h1
      split
      · rename_i e; rw [e] at h1; simp at h1
      · rfl
    simp [this]
  have h1 : rowD 2 d = true := by simpa using h1
  obtain ⟨zs, sz, hz⟩ := row_of h1
  obtain ⟨a, b, rfl⟩ : ∃ a b, zs = [a, b] := by
    match zs, hz with
    | [a, b], _ => exact ⟨a, b, rfl⟩
  have el : endD ls.length d = (wholeD a && wholeD b && (match a, b with | .int a, .int b => decide (a < ls.length) && decide (b < 2) | _, _ => false)) := by
    unfold endD; rw [sz.of]
    cases a <;> cases b <;> simp [wholeD, Bool.and_assoc]
  rw [el]
  walk_at "e"
  refine ed_ixQ sz (by decide) rfl ?_
  walk_at "e"
  refine Ed.of (x_is_whole _) ?_
  walk_at "e"
  refine ⟨fun h2 => ?_, fun h2 => ?_⟩
  rotate_left
  · walk_at "t"
    walk_at "e"
    have h2 : wholeD a = false := by simpa using h2
    simp [h2]
  have h2 : wholeD a = true := by simpa using h2
  walk_at "e"
  refine ed_ixQ sz (by decide) rfl ?_
  walk_at "e"
  refine Ed.of (x_is_whole _) ?_
  walk_at "e"
  refine ⟨fun h3 => ?_, fun h3 => ?_⟩
  · walk_at "e"
    have h3 : wholeD b = false := by simpa using h3
    simp [h2, h3]
  have h3 : wholeD b = true := by simpa using h3
  cases a <;> simp [wholeD] at h2
  cases b <;> simp [wholeD] at h3
  walk_at "e"
  refine ed_ixQ sz (by decide) rfl ?_
  walk_at "e"
  refine ed_ixQ s (by decide) rfl ?_
  walk_at "e"
  refine ed_lenQ sx ?_
  walk_at "e"
  rw [hl]
  refine ⟨fun h4 => ?_, fun h4 => ?_⟩
  · walk_at "e"
    refine ed_ixQ sz (by decide) rfl ?_
    walk_at "e"
    simp [wholeD, h2, h3, h4]
  · walk_at "e"
    simp [h4]
def sideOf (s : Int) (l : Ln) : Int := if s = 0 then l.1 else l.2.1
def plc (ls : List Ln) (e : Int × Int) : Int := match ls[e.1.toNat]? with
  | some l => sideOf e.2 l
  | none => 0
def cmpy (ls : List Ln) (e : Int × Int) : Nat := match ls[e.1.toNat]? with
  | some l => l.2.2
  | none => 0
def far (e : Int × Int) : Int × Int := (e.1, 1 - e.2)
theorem end_line {n : Nat} {ls : List Ln} {e : Int × Int} (hn : n = ls.length) (h : EndOk n e) : ∃ l, ls[e.1.toNat]? = some l ∧ l ∈ ls := by
  have hl : e.1.toNat < ls.length := by have := h.1; have := h.2.1; omega
  exact ⟨_, List.getElem?_eq_getElem hl, List.getElem_mem hl⟩
theorem x_place_of {w : D} {p : Int} {ls : List Ln} {d : D} {e : Int × Int} (hw : Web w p ls) (s : IsEn d e) (h : EndOk ls.length e) : m_place_of [w, d] = some (.int (plc ls e)) := by
  obtain ⟨L, sw, hL⟩ := hw
  obtain ⟨l, hl, _⟩ := end_line rfl h
  obtain ⟨xs, x, sx, hxl, hx, hln⟩ := line_at hL hl
  unfold m_place_of; refine mF_of ?_; walk_at "i"; unfold g_place_of
  walk_at "e"
  refine ed_ixQ sw (by decide) rfl ?_
  walk_at "e"
  refine ed_ixQ s (by decide) rfl ?_
  walk_at "e"
  refine ed_ixQ sx h.1 hx ?_
  walk_at "e"
  refine ed_ixQ s (by decide) rfl ?_
  walk_at "e"
  have h2 : e.2 = 0 ∨ e.2 = 1 := by have := h.2.2.1; have := h.2.2.2; omega
  unfold plc; rw [hl]
  rcases h2 with h2 | h2 <;> rw [h2] <;> exact ed_ixQ hln (by decide) rfl rfl
theorem x_company_of {w : D} {p : Int} {ls : List Ln} {d : D} {e : Int × Int} (hw : Web w p ls) (s : IsEn d e) (h : EndOk ls.length e) : m_company_of [w, d] = some (ch (cmpy ls e)) := by
  obtain ⟨L, sw, hL⟩ := hw
  obtain ⟨l, hl, _⟩ := end_line rfl h
  obtain ⟨xs, x, sx, hxl, hx, hln⟩ := line_at hL hl
  unfold m_company_of; refine mF_of ?_; walk_at "i"; unfold g_company_of
  walk_at "e"
  refine ed_ixQ sw (by decide) rfl ?_
  walk_at "e"
  refine ed_ixQ s (by decide) rfl ?_
  walk_at "e"
  refine ed_ixQ sx h.1 hx ?_
  walk_at "e"
  refine ed_ixQ hln (by decide) rfl ?_
  unfold cmpy; rw [hl]; rfl
theorem cmpy_let {p : Int} {ls : List Ln} {e : Int × Int} (h : WbOk p ls) (k : EndOk ls.length e) : Let (cmpy ls e) := by
  obtain ⟨l, hl, hm⟩ := end_line rfl k
  unfold cmpy; rw [hl]
  exact (h.all _ hm).c
theorem cmpy_ok {p : Int} {ls : List Ln} {e : Int × Int} (h : WbOk p ls) (k : EndOk ls.length e) : cmpy ls e < 0x110000 := (cmpy_let h k).ok
/-! ### all ends, the ends at a place -/
def allE (n : Nat) : List (Int × Int) := (List.range n).flatMap fun i : Nat => [((i : Int), 0), ((i : Int), 1)]
def ends (ls : List Ln) (q : Int) : List (Int × Int) := (allE ls.length).filter fun e => decide (plc ls e = q)
end Lw

set_option maxHeartbeats 4000000
namespace Lw
open PySem Fu
local macro_rules | `(tactic| walk_at "e1") => `(tactic| first
  | with_reducible refine eo_seq ?_ | (with_reducible refine then_nx' ?_; refine ⟨?_, ?_, ?_⟩; rotate_left; · (try dsimp only [List.set, List.length_cons, List.length_nil, List.cons_append, List.nil_append, Nat.zero_add, Nat.reduceAdd]); exact rfl) | with_reducible refine then_rt ?_ | with_reducible refine eo_if ?_ | with_reducible refine eo_ret ?_ | with_reducible refine eo_set ?_ | with_reducible refine eo_asg ?_ | with_reducible refine eo_drop ?_ | with_reducible refine eo_nx ?_ | with_reducible refine eo_par ?_ | with_reducible refine eo_own ?_ | with_reducible refine eo_retN ?_ | with_reducible refine eo_for ?_ | with_reducible refine eo_retO ?_
  | with_reducible refine ev_c ?_ | (with_reducible refine ev_var ?_; refine ⟨_, rfl, ?_⟩) | with_reducible refine ev_bin ?_ | with_reducible refine ev_un ?_ | with_reducible refine ev_nil ?_ | with_reducible refine ev_cons ?_
  | with_reducible refine ev_tup ?_ | with_reducible refine ev_lst ?_ | with_reducible refine ev_call ?_ | with_reducible refine ev_callF ?_ | with_reducible refine ev_isi ?_ | with_reducible refine ev_isi2 ?_ | with_reducible refine ev_andV ?_ | with_reducible refine ev_orV ?_ | with_reducible refine ev_notV ?_
  | with_reducible refine ev_B ?_ | with_reducible refine ev_and ?_ | with_reducible refine ev_or ?_ | with_reducible refine ev_not ?_ | with_reducible refine ev_yes ?_ | with_reducible refine ev_if ?_ | with_reducible refine ev_no ?_ | with_reducible refine ev_so ?_ | with_reducible refine ev_sl ?_ | with_reducible refine ev_items ?_
  | (with_reducible refine ev_ixO ?_; refine ⟨_, _, rfl, rfl, ?_⟩) | (with_reducible refine ev_varO ?_; refine ⟨_, _, rfl, rfl, ?_⟩) | (with_reducible refine ev_lenO ?_; refine ⟨_, _, rfl, rfl, ?_⟩) | (with_reducible refine ev_scrSl ?_; refine ⟨_, rfl, ?_⟩) | (with_reducible refine ev_scrLen ?_; refine ⟨_, rfl, ?_⟩) | (with_reducible refine ev_callScr ?_; refine ⟨_, rfl, ?_⟩) | (with_reducible refine ev_OL ?_; refine ⟨_, _, rfl, rfl, ?_⟩) | with_reducible refine ev_OR ?_ | with_reducible refine ev_rep ?_ | with_reducible refine ev_listRng1 ?_ | with_reducible refine eo_setO ?_
  | with_reducible refine es_name ?_ | with_reducible refine es_tup2 ?_ | with_reducible refine es_tup3 ?_
  | with_reducible refine ed_addI ?_ | with_reducible refine ed_subI ?_ | with_reducible refine ed_cmp ?_ | with_reducible refine ed_eqI ?_ | with_reducible refine ed_neI ?_ | with_reducible refine ed_slT ?_ | with_reducible refine ed_slL ?_ | with_reducible refine ed_lenT ?_ | with_reducible refine ed_lenL ?_ | with_reducible refine ed_lenS ?_ | with_reducible refine ed_inS ?_ | with_reducible refine ed_itT ?_ | with_reducible refine ed_itL ?_ | with_reducible refine ed_tupL ?_ | with_reducible refine ed_tupT ?_ | with_reducible refine ed_listL ?_ | with_reducible refine ed_listT ?_ | with_reducible refine ed_neg ?_ | with_reducible refine ed_max ?_ | with_reducible refine ed_min ?_ | with_reducible refine ed_intB ?_
  | with_reducible refine ev_rng1 ?_ | with_reducible refine ev_rng2 ?_)
local macro_rules | `(tactic| walk_at "sd") => `(tactic| first | rfl | assumption | (simp only [decide_eq_true_eq, decide_eq_false_iff_not, Bool.not_eq_true', Bool.not_eq_false', Bool.and_eq_true, Bool.or_eq_true, List.length_map, List.length_cons, List.length_nil, List.length_append, List.length_range] at *; omega))
local macro_rules | `(tactic| walk_at "e2") => `(tactic| first
  | walk_at "e1" | with_reducible refine ⟨_, rfl, ?_⟩ | with_reducible refine ⟨_, _, rfl, ?_⟩
  | with_reducible refine And.intro (Eq.refl (List.length _)) ?_ | with_reducible refine And.intro (Nat.le_of_ble_eq_true (n := List.length _) rfl) ?_
  | with_reducible refine And.intro (Eq.refl (_ : Sx)) (?_ : Ed _ _)
  | ((with_reducible refine And.intro ?_ (And.intro ?_ (?_ : Ev _ _))); (· rfl); (· rfl))
  | ((with_reducible refine ed_ixT ?_ ?_ ?_); (· decide); (· rfl)) | ((with_reducible refine ed_ixL ?_ ?_ ?_); (· decide); (· rfl)) | ((with_reducible refine ed_at ?_ ?_ ?_); (· decide); (· rfl))
  | ((with_reducible refine ed_modI ?_ ?_); (· first | decide | omega))
  | with_reducible exact gives_nx | ((with_reducible refine gives_rt ?_); (· rfl)) | ((with_reducible refine And.intro ?_ ?_); (· exact rfl); (· with_reducible exact Eq.refl (_ : Sx))))
local macro_rules | `(tactic| walk_at "e") => `(tactic| repeat walk_at "e2")
/-- begin a def's spec -/
local macro_rules | `(tactic| walk_at "i") => `(tactic| simp only [initS, List.map_cons, List.map_nil, List.length_cons, List.length_nil, Nat.reduceAdd, Nat.reduceSub, List.replicate, List.cons_append, List.nil_append])
/-- a known truth decides -/
local macro_rules | `(tactic| walk_at "t") => `(tactic| first | ((with_reducible refine split_t ?_ ?_); (· walk_at "sd")) | ((with_reducible refine split_t' ?_ ?_); (· walk_at "sd")))
local macro_rules | `(tactic| walk_at "f") => `(tactic| first | ((with_reducible refine split_f ?_ ?_); (· walk_at "sd")) | ((with_reducible refine split_f' ?_ ?_); (· walk_at "sd")))
/-- all that is seen in a look -/
local macro_rules | `(tactic| walk_at "v") => `(tactic| (rw [sealAll_mk (by (simp only [List.set_cons_zero, List.set_cons_succ, List.map_cons, List.map_nil, sealS_none, sealS_dat, sealS_scr, sealS_own, List.getElem?_cons_zero, List.getElem?_cons_succ, sealC_lst]; rfl)) (by (simp only [List.set_cons_zero, List.set_cons_succ, List.map_cons, List.map_nil]; rfl))]))
/-! ### rides -/
def goesB (ls : List Ln) (e f : Int × Int) : Bool := decide (plc ls (far e) = plc ls f) && !decide (cmpy ls e = cmpy ls f)
def rideB (ls : List Ln) (es : List (Int × Int)) : Bool := decide (es ≠ []) && es.all (fun e => decide (EndOk ls.length e)) && decide (es.map Prod.fst).Nodup && (es.zip es.tail).all fun p => goesB ls p.1 p.2
def lastE (es : List (Int × Int)) : Int × Int := es.getLast?.getD (0, 0)
def headE (es : List (Int × Int)) : Int × Int := es.head?.getD (0, 0)
def roundB (ls : List Ln) (es : List (Int × Int)) : Bool := rideB ls es && goesB ls (lastE es) (headE es)
theorem far_far (e : Int × Int) : far (far e) = e := by
  unfold far
  obtain ⟨a, b⟩ := e
  simp only [Prod.mk.injEq, true_and]
  omega
theorem EndOk.far {n : Nat} {e : Int × Int} (h : EndOk n e) : EndOk n (far e) := by
  obtain ⟨h1, h2, h3, h4⟩ := h
  exact ⟨h1, h2, by show 0 ≤ 1 - e.2; omega, by show 1 - e.2 < 2; omega⟩
theorem cmpy_far (ls : List Ln) (e : Int × Int) : cmpy ls (far e) = cmpy ls e := rfl
theorem goes_far (ls : List Ln) (e f : Int × Int) : goesB ls (far f) (far e) = goesB ls e f := by
  unfold goesB
  rw [far_far, cmpy_far, cmpy_far]
  congr 1
  · apply decide_eq_decide.mpr; exact eq_comm
  · congr 1
    apply decide_eq_decide.mpr; exact eq_comm
theorem x_far_end {d : D} {e : Int × Int} (s : IsEn d e) : m_far_end [d] = some (en (far e)) := by
  unfold m_far_end; refine mF_of ?_; walk_at "i"; unfold g_far_end
  walk_at "e"
  refine ed_ixQ s (by decide) rfl ?_
  walk_at "e"
  refine ed_ixQ s (by decide) rfl ?_
  walk_at "e"
theorem x_can_go_on {w : D} {p : Int} {ls : List Ln} {a b : D} {e f : Int × Int} (hw : Web w p ls) (h : WbOk p ls) (sa : IsEn a e) (sb : IsEn b f) (he : EndOk ls.length e) (hf : EndOk ls.length f) : m_can_go_on [w, a, b] = some (.bool (goesB ls e f)) := by
  unfold m_can_go_on; refine mF_of ?_; walk_at "i"; unfold g_can_go_on goesB
  walk_at "e"
  refine Ed.of (x_far_end sa) ?_
  walk_at "e"
  refine Ed.of (x_place_of hw (isEn_en _) he.far) ?_
  walk_at "e"
  refine Ed.of (x_place_of hw sb hf) ?_
  walk_at "e"
  refine ⟨fun ht => ?_, fun ht => ?_⟩
  · walk_at "e"
    simp only [Bool.not_eq_true', decide_eq_false_iff_not] at ht
    simp [ht]
  · walk_at "e"
    refine Ed.of (x_company_of hw sa he) ?_
    walk_at "e"
    refine Ed.of (x_company_of hw sb hf) ?_
    walk_at "e"
    refine Ed.of (dNe_ch (cmpy_ok h he) (cmpy_ok h hf)) ?_
    simp only [Bool.not_eq_false', decide_eq_true_eq] at ht
    simp [ht]
theorem last_mem {es : List (Int × Int)} (h : es ≠ []) : es.getLast? = some (lastE es) ∧ lastE es ∈ es := by
  unfold lastE
  rw [List.getLast?_eq_some_getLast h]
  exact ⟨rfl, List.getLast_mem h⟩
theorem head_mem {es : List (Int × Int)} (h : es ≠ []) : es[0]? = some (headE es) ∧ headE es ∈ es := by
  cases es with
  | nil => exact absurd rfl h
  | cons e es => exact ⟨rfl, List.mem_cons_self⟩
theorem ed_lastQ {d : D} {xs : List D} {x : D} {Q : D → Prop} (s : Sq d xs) (e : xs.getLast? = some x) (q : Q x) : Ed (dIx d (.int (-1))) Q := by
  rcases s with rfl | rfl
  · obtain ⟨z, h1, h2⟩ := ed_atLast (Q := Q) e q
    exact ⟨z, h1, h2⟩
  · obtain ⟨z, h1, h2⟩ := ed_atLast (Q := Q) e q
    exact ⟨z, h1, h2⟩
/-- a list of ends, as handed -/
def IsRide (d : D) (es : List (Int × Int)) : Prop := ∃ ps : List (D × (Int × Int)), Sq d (ps.map (·.1)) ∧ es = ps.map (·.2) ∧ ∀ q ∈ ps, IsEn q.1 q.2
theorem ride_of {d : D} {es : List (Int × Int)} (s : Sq d (es.map en)) : IsRide d es := ⟨es.map fun l => (en l, l), by rw [List.map_map]; exact s, by rw [List.map_map]; exact (List.map_id _).symm, fun q hq => by
  obtain ⟨l, _, rfl⟩ := List.mem_map.mp hq
  exact isEn_en l⟩
def lE (es : List (Int × Int)) : D := .list (es.map en)
theorem ride_lE (es : List (Int × Int)) : IsRide (lE es) es := ride_of (sq_l _)
def unEn (d : D) : Int × Int := match seqOf d with
  | some [.int a, .int b] => (a, b)
  | _ => (0, 0)
theorem unEn_of {d : D} {e : Int × Int} (s : IsEn d e) : unEn d = e := by unfold unEn; rw [s.of]
def rideD (ls : List Ln) (d : D) : Bool := match seqOf d with
  | some xs => xs.all (endD ls.length) && rideB ls (xs.map unEn)
  | none => false
def roundD (ls : List Ln) (d : D) : Bool := match seqOf d with
  | some xs => xs.all (endD ls.length) && roundB ls (xs.map unEn)
  | none => false
theorem map_unEn {ps : List (D × (Int × Int))} (h : ∀ q ∈ ps, IsEn q.1 q.2) : (ps.map (·.1)).map unEn = ps.map (·.2) := by
  rw [List.map_map]
  exact List.map_congr_left fun q hq => unEn_of (h q hq)
theorem all_endD {ps : List (D × (Int × Int))} (h : ∀ q ∈ ps, IsEn q.1 q.2) (n : Nat) : (ps.map (·.1)).all (endD n) = (ps.map (·.2)).all fun e => decide (EndOk n e) := by
  rw [List.all_map, List.all_map]
  apply Bool.eq_iff_iff.mpr
  simp only [List.all_eq_true, Function.comp]
  exact ⟨fun k q hq => by rw [← endD_of (h q hq)]; exact k q hq, fun k q hq => by rw [endD_of (h q hq)]; exact k q hq⟩
theorem rideD_of {ls : List Ln} {d : D} {es : List (Int × Int)} (h : IsRide d es) : rideD ls d = rideB ls es := by
  obtain ⟨ps, s, rfl, hp⟩ := h
  unfold rideD; rw [s.of]
  simp only
  rw [map_unEn hp, all_endD hp]
  unfold rideB
  cases (ps.map (·.2)).all fun e => decide (EndOk ls.length e) <;> simp
theorem roundD_of {ls : List Ln} {d : D} {es : List (Int × Int)} (h : IsRide d es) : roundD ls d = roundB ls es := by
  obtain ⟨ps, s, rfl, hp⟩ := h
  unfold roundD; rw [s.of]
  simp only
  rw [map_unEn hp, all_endD hp]
  unfold roundB rideB
  cases (ps.map (·.2)).all fun e => decide (EndOk ls.length e) <;> simp
theorem seq_ride {xs : List D} {n : Nat} (h : xs.all (endD n) = true) : ∃ ps : List (D × (Int × Int)), xs = ps.map (·.1) ∧ (∀ q ∈ ps, IsEn q.1 q.2) ∧ ∀ q ∈ ps, EndOk n q.2 := by
  induction xs with
  | nil => exact ⟨[], rfl, (fun _ h => nomatch h), fun _ h => nomatch h⟩
  | cons x xs ih =>
    rw [List.all_cons, Bool.and_eq_true] at h
    obtain ⟨e, s, k⟩ := isEn_of h.1
    obtain ⟨ps, rfl, h1, h2⟩ := ih h.2
    exact ⟨(x, e) :: ps, rfl, fun q hq => by rcases List.mem_cons.mp hq with rfl | hq; exact s; exact h1 q hq, fun q hq => by rcases List.mem_cons.mp hq with rfl | hq; exact k; exact h2 q hq⟩
theorem of_rideD {ls : List Ln} {d : D} (h : rideD ls d = true) : ∃ es, IsRide d es ∧ rideB ls es = true := by
  have h0 := h
  unfold rideD at h
  split at h
  · rename_i xs e
    rw [Bool.and_eq_true] at h
    obtain ⟨ps, rfl, h1, h2⟩ := seq_ride h.1
    have k : IsRide d (ps.map (·.2)) := ⟨ps, sq_of e, rfl, h1⟩
    exact ⟨_, k, by rw [← rideD_of k]; exact h0⟩
  · cases h
theorem rideB_ends {ls : List Ln} {es : List (Int × Int)} (h : rideB ls es = true) : es ≠ [] ∧ (∀ e ∈ es, EndOk ls.length e) ∧ (es.map Prod.fst).Nodup ∧ ∀ q ∈ es.zip es.tail, goesB ls q.1 q.2 = true := by
  unfold rideB at h
  simp only [Bool.and_eq_true, decide_eq_true_eq, List.all_eq_true] at h
  exact ⟨h.1.1.1, h.1.1.2, h.1.2, h.2⟩
def lenD (d : D) : Nat := ((seqOf d).getD []).length
theorem lenD_of {d : D} {xs : List D} (s : Sq d xs) : lenD d = xs.length := by unfold lenD; rw [s.of]; rfl
theorem cut_one {α : Type} (xs : List α) : cutL xs (some 1) none = xs.tail := by rw [cut_from (by decide), show (1 : Int).toNat = 1 from rfl, List.drop_one]
theorem x_ride_is {w : D} {p : Int} {ls : List Ln} (hw : Web w p ls) (h : WbOk p ls) (d : D) (hz : lenD d ≤ 4000) : m_ride_is [w, d] = some (.bool (rideD ls d)) := by
  unfold m_ride_is; refine mF_of ?_; walk_at "i"; unfold g_ride_is
  walk_at "e"
  rw [isi_seq]
  refine ⟨fun h1 => ?_, fun h1 => ?_⟩
  rotate_left
  · walk_at "t"
    walk_at "e"
    have h1 : seqOf d = none := by simpa using h1
    unfold rideD; rw [h1]
    simp
  obtain ⟨xs, hx⟩ := Option.isSome_iff_exists.mp (show (seqOf d).isSome = true by simpa using h1)
  have s := sq_of hx
  rw [lenD_of s] at hz
  have ed : rideD ls d = (xs.all (endD ls.length) && rideB ls (xs.map unEn)) := by unfold rideD; rw [hx]
  rw [ed]
  walk_at "e"
  refine ed_lenQ s ?_
  walk_at "e"
  refine ⟨fun hn => ?_, fun hn => ?_⟩
  rotate_left
  · walk_at "t"
    walk_at "e"
    have : xs = [] := by
      have hn := of_decide_eq_true hn
      exact List.length_eq_zero_iff.mp (by omega)
    simp [this, rideB]
  walk_at "e"
  refine ev_mapX (xs := xs) (enc := fun z => z) (g := fun z => .bool (endD ls.length z)) ?_
  walk_at "e"
  refine ed_itQ s ⟨by simp, fun z hz => ?_, ?_⟩
  · walk_at "e"
    exact Ed.of (x_is_end hw z) ⟨rfl, rfl⟩
  walk_at "e"
  refine all_mapX (endD ls.length) xs ?_
  walk_at "e"
  refine ⟨fun ha => ?_, fun ha => ?_⟩
  · walk_at "e"
    have ha : xs.all (endD ls.length) = false := by simpa using ha
    simp [ha]
  have ha : xs.all (endD ls.length) = true := by simpa using ha
  obtain ⟨ps, rfl, hp, hk⟩ := seq_ride ha
  rw [map_unEn hp, ha, Bool.true_and]
  have hnn : ps.map (·.2) ≠ [] := by
    intro z
    have : ps = [] := List.map_eq_nil_iff.mp z
    rw [this] at hn; simp at hn
  have hall : ∀ e ∈ ps.map (·.2), EndOk ls.length e := fun e he => by
    obtain ⟨q, hq, rfl⟩ := List.mem_map.mp he
    exact hk q hq
  have h1 : (ps.map (·.2)).all (fun e => decide (EndOk ls.length e)) = true := List.all_eq_true.mpr fun e he => decide_eq_true (hall e he)
  unfold rideB
  rw [decide_eq_true hnn, h1, Bool.true_and, Bool.true_and]
  walk_at "e"
  refine ev_mapX (xs := ps) (enc := (·.1)) (g := fun q => .int q.2.1) ?_
  walk_at "e"
  refine ed_itQ s ⟨rfl, fun q hq => ?_, ?_⟩
  · walk_at "e"
    refine ed_ixQ (hp q hq) (by decide) rfl ⟨rfl, rfl⟩
  have e1 : ps.map (fun q => PyData.int q.2.1) = ((ps.map (·.2)).map Prod.fst).map PyData.int := by rw [List.map_map, List.map_map]; rfl
  rw [e1]
  walk_at "e"
  refine ed_lenSet (by simpa using hz) ?_
  walk_at "e"
  refine ed_lenQ s ?_
  walk_at "e"
  have e2 : (((unlike ((ps.map (·.2)).map Prod.fst) : Nat) : Int) = ((ps.map (·.1)).length : Int)) ↔ ((ps.map (·.2)).map Prod.fst).Nodup := by
    rw [← unlike_iff]
    simp only [List.length_map]
    omega
  refine ⟨fun hd => ?_, fun hd => ?_⟩
  · walk_at "e"
    have hd : ¬ ((ps.map (·.2)).map Prod.fst).Nodup := by
      rw [← e2]
      simpa using hd
    rw [decide_eq_false hd]; rfl
  have hd : ((ps.map (·.2)).map Prod.fst).Nodup := by
    rw [← e2]
    simpa using hd
  rw [decide_eq_true hd, Bool.true_and]
  walk_at "e"
  refine ev_mapX (xs := ps.zip ps.tail) (enc := fun z => .tuple [z.1.1, z.2.1]) (g := fun z => .bool (goesB ls z.1.2 z.2.2)) ?_
  have tl : (ps.map (·.1)).tail = ps.tail.map (·.1) := by rw [List.map_tail]
  have ez : zipD (ps.map (·.1)) ((ps.map (·.1)).tail) = (ps.zip ps.tail).map fun z => .tuple [z.1.1, z.2.1] := by
    rw [tl, zipD_map]
  refine ev_zip ?_
  rcases s with rfl | rfl
  · walk_at "e"
    rw [cut_one]
    refine .inl ⟨_, _, rfl, ez, fun z hz => ?_, ?_⟩
    · obtain ⟨m1, m2⟩ := List.of_mem_zip hz
      walk_at "e"
      exact Ed.of (x_can_go_on hw h (hp _ m1) (hp _ (List.mem_of_mem_tail m2)) (hk _ m1) (hk _ (List.mem_of_mem_tail m2))) ⟨rfl, rfl⟩
    · walk_at "e"
      refine all_mapX (fun z : (D × (Int × Int)) × (D × (Int × Int)) => goesB ls z.1.2 z.2.2) _ ?_
      rw [gives_rtI, ← List.map_tail, List.zip_map, List.all_map]
      rfl
  · walk_at "e"
    rw [cut_one]
    refine .inr ⟨_, _, rfl, ez, fun z hz => ?_, ?_⟩
    · obtain ⟨m1, m2⟩ := List.of_mem_zip hz
      walk_at "e"
      exact Ed.of (x_can_go_on hw h (hp _ m1) (hp _ (List.mem_of_mem_tail m2)) (hk _ m1) (hk _ (List.mem_of_mem_tail m2))) ⟨rfl, rfl⟩
    · walk_at "e"
      refine all_mapX (fun z : (D × (Int × Int)) × (D × (Int × Int)) => goesB ls z.1.2 z.2.2) _ ?_
      rw [gives_rtI, ← List.map_tail, List.zip_map, List.all_map]
      rfl
theorem ride_round {ls : List Ln} {d : D} : roundD ls d = (rideD ls d && match seqOf d with
    | some xs => goesB ls (lastE (xs.map unEn)) (headE (xs.map unEn))
    | none => false) := by
  unfold roundD rideD roundB
  cases seqOf d with
  | none => rfl
  | some xs => simp only [Bool.and_assoc]
theorem last_map {ps : List (D × (Int × Int))} (h : ps ≠ []) : ∃ q, q ∈ ps ∧ (ps.map (·.1)).getLast? = some q.1 ∧ lastE (ps.map (·.2)) = q.2 := by
  refine ⟨ps.getLast h, List.getLast_mem h, ?_, ?_⟩
  · rw [List.getLast?_map, List.getLast?_eq_some_getLast h]; rfl
  · unfold lastE
    rw [List.getLast?_map, List.getLast?_eq_some_getLast h]; rfl
theorem head_map {ps : List (D × (Int × Int))} (h : ps ≠ []) : ∃ q, q ∈ ps ∧ (ps.map (·.1))[0]? = some q.1 ∧ headE (ps.map (·.2)) = q.2 := by
  cases ps with
  | nil => exact absurd rfl h
  | cons q ps => exact ⟨q, List.mem_cons_self, rfl, rfl⟩
theorem x_round_is {w : D} {p : Int} {ls : List Ln} (hw : Web w p ls) (h : WbOk p ls) (d : D) (hz : lenD d ≤ 4000) : m_round_is [w, d] = some (.bool (roundD ls d)) := by
  unfold m_round_is; refine mF_of ?_; walk_at "i"; unfold g_round_is
  walk_at "e"
  refine Ed.of (x_ride_is hw h d hz) ?_
  rw [ride_round]
  walk_at "e"
  refine ⟨fun hr => ?_, fun hr => by simp [hr]⟩
  obtain ⟨es, ⟨ps, s, rfl, hp⟩, hb⟩ := of_rideD hr
  obtain ⟨hn, hall, _, _⟩ := rideB_ends hb
  have hn : ps ≠ [] := fun z => hn (by rw [z]; rfl)
  obtain ⟨a, ha, la, la2⟩ := last_map hn
  obtain ⟨b, hb, lb, lb2⟩ := head_map hn
  walk_at "e"
  refine ed_lastQ s la ?_
  walk_at "e"
  refine ed_ixQ s (by decide) lb ?_
  walk_at "e"
  refine Ed.of (x_can_go_on hw h (hp _ ha) (hp _ hb) (hall _ (List.mem_map_of_mem ha)) (hall _ (List.mem_map_of_mem hb))) ?_
  walk_at "e"
  rw [s.of]
  simp only [map_unEn hp, la2, lb2, hr, Bool.true_and]
  rfl
end Lw

set_option maxHeartbeats 4000000
namespace Lw
open PySem Fu
local macro_rules | `(tactic| walk_at "e1") => `(tactic| first
  | with_reducible refine eo_seq ?_ | (with_reducible refine then_nx' ?_; refine ⟨?_, ?_, ?_⟩; rotate_left; · (try dsimp only [List.set, List.length_cons, List.length_nil, List.cons_append, List.nil_append, Nat.zero_add, Nat.reduceAdd]); exact rfl) | with_reducible refine then_rt ?_ | with_reducible refine eo_if ?_ | with_reducible refine eo_ret ?_ | with_reducible refine eo_set ?_ | with_reducible refine eo_asg ?_ | with_reducible refine eo_drop ?_ | with_reducible refine eo_nx ?_ | with_reducible refine eo_par ?_ | with_reducible refine eo_own ?_ | with_reducible refine eo_retN ?_ | with_reducible refine eo_for ?_ | with_reducible refine eo_retO ?_
  | with_reducible refine ev_c ?_ | (with_reducible refine ev_var ?_; refine ⟨_, rfl, ?_⟩) | with_reducible refine ev_bin ?_ | with_reducible refine ev_un ?_ | with_reducible refine ev_nil ?_ | with_reducible refine ev_cons ?_
  | with_reducible refine ev_tup ?_ | with_reducible refine ev_lst ?_ | with_reducible refine ev_call ?_ | with_reducible refine ev_callF ?_ | with_reducible refine ev_isi ?_ | with_reducible refine ev_isi2 ?_ | with_reducible refine ev_andV ?_ | with_reducible refine ev_orV ?_ | with_reducible refine ev_notV ?_
  | with_reducible refine ev_B ?_ | with_reducible refine ev_and ?_ | with_reducible refine ev_or ?_ | with_reducible refine ev_not ?_ | with_reducible refine ev_yes ?_ | with_reducible refine ev_if ?_ | with_reducible refine ev_no ?_ | with_reducible refine ev_so ?_ | with_reducible refine ev_sl ?_ | with_reducible refine ev_items ?_
  | (with_reducible refine ev_ixO ?_; refine ⟨_, _, rfl, rfl, ?_⟩) | (with_reducible refine ev_varO ?_; refine ⟨_, _, rfl, rfl, ?_⟩) | (with_reducible refine ev_lenO ?_; refine ⟨_, _, rfl, rfl, ?_⟩) | (with_reducible refine ev_scrSl ?_; refine ⟨_, rfl, ?_⟩) | (with_reducible refine ev_scrLen ?_; refine ⟨_, rfl, ?_⟩) | (with_reducible refine ev_callScr ?_; refine ⟨_, rfl, ?_⟩) | (with_reducible refine ev_OL ?_; refine ⟨_, _, rfl, rfl, ?_⟩) | with_reducible refine ev_OR ?_ | with_reducible refine ev_rep ?_ | with_reducible refine ev_listRng1 ?_ | with_reducible refine eo_setO ?_
  | with_reducible refine es_name ?_ | with_reducible refine es_tup2 ?_ | with_reducible refine es_tup3 ?_
  | with_reducible refine ed_addI ?_ | with_reducible refine ed_subI ?_ | with_reducible refine ed_cmp ?_ | with_reducible refine ed_eqI ?_ | with_reducible refine ed_neI ?_ | with_reducible refine ed_slT ?_ | with_reducible refine ed_slL ?_ | with_reducible refine ed_lenT ?_ | with_reducible refine ed_lenL ?_ | with_reducible refine ed_lenS ?_ | with_reducible refine ed_inS ?_ | with_reducible refine ed_itT ?_ | with_reducible refine ed_itL ?_ | with_reducible refine ed_tupL ?_ | with_reducible refine ed_tupT ?_ | with_reducible refine ed_listL ?_ | with_reducible refine ed_listT ?_ | with_reducible refine ed_neg ?_ | with_reducible refine ed_max ?_ | with_reducible refine ed_min ?_ | with_reducible refine ed_intB ?_)
local macro_rules | `(tactic| walk_at "e2") => `(tactic| first
  | walk_at "e1" | with_reducible refine ⟨_, rfl, ?_⟩ | with_reducible refine ⟨_, _, rfl, ?_⟩
  | with_reducible refine And.intro (Eq.refl (List.length _)) ?_ | with_reducible refine And.intro (Nat.le_of_ble_eq_true (n := List.length _) rfl) ?_
  | with_reducible refine And.intro (Eq.refl (_ : Sx)) (?_ : Ed _ _)
  | with_reducible exact gives_nx | with_reducible (refine gives_rt ?_; rfl))
local macro_rules | `(tactic| walk_at "e") => `(tactic| repeat walk_at "e2")
/-- begin a def's spec -/
local macro_rules | `(tactic| walk_at "i") => `(tactic| simp only [initS, List.map_cons, List.map_nil, List.length_cons, List.length_nil, Nat.reduceAdd, Nat.reduceSub, List.replicate, List.cons_append, List.nil_append])
namespace Sp
/-! ### the spring -/
structure Reel (b : Nat) (cs : List D) : Prop where
  ex : ∃ (f s n : Int), cs = [.int f, .int s, .int n] ∧ 0 ≤ f ∧ 0 ≤ s ∧ s < 2305843009213693951 ∧ 0 ≤ n ∧ n + b ≤ 18446744073709551616
theorem Reel.mono {a b : Nat} {cs : List D} (h : Reel a cs) (l : b ≤ a) : Reel b cs := by
  obtain ⟨f, s, n, h1, h2, h3, h4, h5, h6⟩ := h
  exact ⟨f, s, n, h1, h2, h3, h4, h5, by omega⟩
theorem log_lt {i : Int} {k : Nat} (h : i.natAbs < 2 ^ (k + 1)) : i.natAbs.log2 ≤ k := by
  by_cases z : i.natAbs = 0
  · rw [z]; simp
  · exact Nat.le_of_lt_succ ((Nat.log2_lt z).mpr h)
theorem mulW {i j : Int} (a : -170141183460469231731687303715884105728 < i ∧ i < 170141183460469231731687303715884105728) (b : -170141183460469231731687303715884105728 < j ∧ j < 170141183460469231731687303715884105728) : L2.CMulW i j := by
  unfold L2.CMulW
  have h1 : i.natAbs.log2 ≤ 126 := log_lt (by show i.natAbs < 170141183460469231731687303715884105728; omega)
  have h2 : j.natAbs.log2 ≤ 126 := log_lt (by show j.natAbs < 170141183460469231731687303715884105728; omega)
  omega
theorem divW {i j : Int} (a : 0 < j ∧ j < 170141183460469231731687303715884105728) : L2.CDivW i j := by
  unfold L2.CDivW
  have h2 : j.natAbs.log2 ≤ 126 := log_lt (by show j.natAbs < 170141183460469231731687303715884105728; omega)
  exact ⟨a.1, by omega⟩
end Sp
end Lw

set_option maxHeartbeats 4000000
namespace Lw
open PySem Fu
local macro_rules | `(tactic| walk_at "e1") => `(tactic| first
  | with_reducible refine eo_seq ?_ | (with_reducible refine then_nx' ?_; refine ⟨?_, ?_, ?_⟩; rotate_left; · (try dsimp only [List.set, List.length_cons, List.length_nil, List.cons_append, List.nil_append, Nat.zero_add, Nat.reduceAdd]); exact rfl) | with_reducible refine then_rt ?_ | with_reducible refine eo_if ?_ | with_reducible refine eo_ret ?_ | with_reducible refine eo_set ?_ | with_reducible refine eo_asg ?_ | with_reducible refine eo_drop ?_ | with_reducible refine eo_nx ?_ | with_reducible refine eo_par ?_ | with_reducible refine eo_own ?_ | with_reducible refine eo_retN ?_ | with_reducible refine eo_for ?_ | with_reducible refine eo_retO ?_
  | with_reducible refine ev_c ?_ | (with_reducible refine ev_var ?_; refine ⟨_, rfl, ?_⟩) | with_reducible refine ev_bin ?_ | with_reducible refine ev_un ?_ | with_reducible refine ev_nil ?_ | with_reducible refine ev_cons ?_
  | with_reducible refine ev_tup ?_ | with_reducible refine ev_lst ?_ | with_reducible refine ev_call ?_ | with_reducible refine ev_callF ?_ | with_reducible refine ev_isi ?_ | with_reducible refine ev_isi2 ?_ | with_reducible refine ev_andV ?_ | with_reducible refine ev_orV ?_ | with_reducible refine ev_notV ?_
  | with_reducible refine ev_B ?_ | with_reducible refine ev_and ?_ | with_reducible refine ev_or ?_ | with_reducible refine ev_not ?_ | with_reducible refine ev_yes ?_ | with_reducible refine ev_if ?_ | with_reducible refine ev_no ?_ | with_reducible refine ev_so ?_ | with_reducible refine ev_sl ?_ | with_reducible refine ev_items ?_
  | (with_reducible refine ev_ixO ?_; refine ⟨_, _, rfl, rfl, ?_⟩) | (with_reducible refine ev_varO ?_; refine ⟨_, _, rfl, rfl, ?_⟩) | (with_reducible refine ev_lenO ?_; refine ⟨_, _, rfl, rfl, ?_⟩) | (with_reducible refine ev_scrSl ?_; refine ⟨_, rfl, ?_⟩) | (with_reducible refine ev_scrLen ?_; refine ⟨_, rfl, ?_⟩) | (with_reducible refine ev_callScr ?_; refine ⟨_, rfl, ?_⟩) | (with_reducible refine ev_OL ?_; refine ⟨_, _, rfl, rfl, ?_⟩) | with_reducible refine ev_OR ?_ | with_reducible refine ev_rep ?_ | with_reducible refine ev_listRng1 ?_ | with_reducible refine eo_setO ?_
  | with_reducible refine es_name ?_ | with_reducible refine es_tup2 ?_ | with_reducible refine es_tup3 ?_
  | with_reducible refine ed_addI ?_ | with_reducible refine ed_subI ?_ | with_reducible refine ed_cmp ?_ | with_reducible refine ed_eqI ?_ | with_reducible refine ed_neI ?_ | with_reducible refine ed_slT ?_ | with_reducible refine ed_slL ?_ | with_reducible refine ed_lenT ?_ | with_reducible refine ed_lenL ?_ | with_reducible refine ed_lenS ?_ | with_reducible refine ed_inS ?_ | with_reducible refine ed_itT ?_ | with_reducible refine ed_itL ?_ | with_reducible refine ed_tupL ?_ | with_reducible refine ed_tupT ?_ | with_reducible refine ed_listL ?_ | with_reducible refine ed_listT ?_ | with_reducible refine ed_neg ?_ | with_reducible refine ed_max ?_ | with_reducible refine ed_min ?_ | with_reducible refine ed_intB ?_)
local macro_rules | `(tactic| walk_at "e2") => `(tactic| first
  | walk_at "e1" | with_reducible refine ⟨_, rfl, ?_⟩ | with_reducible refine ⟨_, _, rfl, ?_⟩
  | with_reducible refine And.intro (Eq.refl (List.length _)) ?_ | with_reducible refine And.intro (Nat.le_of_ble_eq_true (n := List.length _) rfl) ?_
  | with_reducible refine And.intro (Eq.refl (_ : Sx)) (?_ : Ed _ _)
  | with_reducible exact gives_nx | with_reducible (refine gives_rt ?_; rfl))
local macro_rules | `(tactic| walk_at "e") => `(tactic| repeat walk_at "e2")
/-- begin a def's spec -/
local macro_rules | `(tactic| walk_at "i") => `(tactic| simp only [initS, List.map_cons, List.map_nil, List.length_cons, List.length_nil, Nat.reduceAdd, Nat.reduceSub, List.replicate, List.cons_append, List.nil_append])
def rv (es : List (Int × Int)) : List (Int × Int) := es.reverse.map far
def rot (k : Nat) (es : List (Int × Int)) : List (Int × Int) := es.drop k ++ es.take k
def ways (es : List (Int × Int)) : List (List (Int × Int)) := ((List.range es.length).map fun k => rot k es) ++ ((List.range es.length).map fun k => rot k (rv es))
def along (ls : List Ln) (es : List (Int × Int)) : List Int := es.map (plc ls) ++ [plc ls (far (lastE es))]
theorem rv_len (es : List (Int × Int)) : (rv es).length = es.length := by simp [rv]
theorem rot_len (k : Nat) (es : List (Int × Int)) : (rot k es).length = es.length := by simp [rot]; omega
/-! ### rounds and rides, in plain words -/
def chain (ls : List Ln) : List (Int × Int) → Bool
  | [] => true
  | [_] => true
  | e :: f :: r => goesB ls e f && chain ls (f :: r)
theorem chain_zip (ls : List Ln) : ∀ es : List (Int × Int), ((es.zip es.tail).all fun q => goesB ls q.1 q.2) = chain ls es
  | [] => rfl
  | [_] => rfl
  | e :: f :: r => by
    have := chain_zip ls (f :: r)
    simp only [List.tail_cons, List.zip_cons_cons, List.all_cons, chain] at this ⊢
    rw [this]
theorem lastE_cons {e f : Int × Int} {r : List (Int × Int)} : lastE (e :: f :: r) = lastE (f :: r) := by simp [lastE]
theorem lastE_one {e : Int × Int} : lastE [e] = e := rfl
theorem lastE_app {a b : List (Int × Int)} (h : b ≠ []) : lastE (a ++ b) = lastE b := by
  unfold lastE
  rw [List.getLast?_append]
  cases hb : b.getLast? with
  | none => exact absurd (List.getLast?_eq_none_iff.mp hb) h
  | some x => rfl
theorem headE_app {a b : List (Int × Int)} (h : a ≠ []) : headE (a ++ b) = headE a := by
  cases a with
  | nil => exact absurd rfl h
  | cons x a => rfl
theorem chain_app (ls : List Ln) : ∀ a b : List (Int × Int), chain ls (a ++ b) = true ↔ chain ls a = true ∧ chain ls b = true ∧ (a ≠ [] → b ≠ [] → goesB ls (lastE a) (headE b) = true)
  | [], b => by simp [chain]
  | [e], [] => by simp [chain]
  | [e], f :: r => by
    show (goesB ls e f && chain ls (f :: r)) = true ↔ _
    simp only [Bool.and_eq_true, chain, true_and, lastE_one, headE, List.head?_cons, Option.getD_some]
    exact ⟨fun h => ⟨h.2, fun _ _ => h.1⟩, fun h => ⟨h.2 (by simp) (by simp), h.1⟩⟩
  | e :: f :: r, b => by
    show (goesB ls e f && chain ls ((f :: r) ++ b)) = true ↔ _
    rw [Bool.and_eq_true, chain_app ls (f :: r) b, lastE_cons]
    simp only [chain, Bool.and_eq_true]
    exact ⟨fun h => ⟨⟨h.1, h.2.1⟩, h.2.2.1, fun _ => h.2.2.2 (by simp)⟩, fun h => ⟨h.1.1, h.1.2, h.2.1, fun _ => h.2.2 (by simp)⟩⟩
theorem rideB_iff {ls : List Ln} {es : List (Int × Int)} : rideB ls es = true ↔ es ≠ [] ∧ (∀ e ∈ es, EndOk ls.length e) ∧ (es.map Prod.fst).Nodup ∧ chain ls es = true := by
  unfold rideB
  rw [chain_zip]
  simp only [Bool.and_eq_true, decide_eq_true_eq, List.all_eq_true]
  exact ⟨fun h => ⟨h.1.1.1, h.1.1.2, h.1.2, h.2⟩, fun h => ⟨⟨⟨h.1, h.2.1⟩, h.2.2.1⟩, h.2.2.2⟩⟩
theorem roundB_iff {ls : List Ln} {es : List (Int × Int)} : roundB ls es = true ↔ rideB ls es = true ∧ goesB ls (lastE es) (headE es) = true := by
  unfold roundB
  rw [Bool.and_eq_true]
theorem round_swap {ls : List Ln} {a b : List (Int × Int)} (h : roundB ls (a ++ b) = true) : roundB ls (b ++ a) = true := by
  by_cases ha : a = []
  · subst ha; simpa using h
  by_cases hb : b = []
  · subst hb; simpa using h
  rw [roundB_iff, rideB_iff, chain_app] at h ⊢
  obtain ⟨⟨h1, h2, h3, h4, h5, h6⟩, h7⟩ := h
  rw [lastE_app hb, headE_app ha] at h7
  rw [lastE_app ha, headE_app hb]
  refine ⟨⟨by simp [ha], fun e he => h2 e (List.mem_append.mpr (List.mem_append.mp he).symm), ?_, h5, h4, fun _ _ => h7⟩, h6 ha hb⟩
  rw [List.map_append] at h3 ⊢
  exact (List.perm_append_comm.nodup_iff).mp h3
theorem round_rot {ls : List Ln} {es : List (Int × Int)} (k : Nat) (h : roundB ls es = true) : roundB ls (rot k es) = true := by
  unfold rot
  rw [← List.take_append_drop k es] at h
  exact round_swap h
theorem rv_cons (e : Int × Int) (es : List (Int × Int)) : rv (e :: es) = rv es ++ [far e] := by simp [rv]
theorem rv_rv (es : List (Int × Int)) : rv (rv es) = es := by
  unfold rv
  rw [← List.map_reverse, List.reverse_reverse, List.map_map]
  have : far ∘ far = id := by funext e; exact far_far e
  rw [this, List.map_id]
theorem rv_ne {es : List (Int × Int)} (h : es ≠ []) : rv es ≠ [] := fun z => by
  have := congrArg List.length z
  rw [rv_len] at this
  exact h (List.length_eq_zero_iff.mp this)
theorem lastE_rv {es : List (Int × Int)} (h : es ≠ []) : lastE (rv es) = far (headE es) := by
  cases es with
  | nil => exact absurd rfl h
  | cons e es => rw [rv_cons, lastE_app (by simp)]; rfl
theorem headE_rv {es : List (Int × Int)} (h : es ≠ []) : headE (rv es) = far (lastE es) := by
  have := lastE_rv (rv_ne h)
  rw [rv_rv] at this
  rw [this, far_far]
theorem chain_rv (ls : List Ln) : ∀ es : List (Int × Int), chain ls es = true → chain ls (rv es) = true
  | [], _ => rfl
  | [e], _ => rfl
  | e :: f :: r, h => by
    simp only [chain, Bool.and_eq_true] at h
    rw [rv_cons, chain_app]
    refine ⟨chain_rv ls _ h.2, rfl, fun _ _ => ?_⟩
    rw [lastE_rv (by simp)]
    show goesB ls (far f) (far e) = true
    rw [goes_far]; exact h.1
theorem ride_rv {ls : List Ln} {es : List (Int × Int)} (h : rideB ls es = true) : rideB ls (rv es) = true := by
  rw [rideB_iff] at h ⊢
  obtain ⟨h1, h2, h3, h4⟩ := h
  refine ⟨rv_ne h1, fun e he => ?_, ?_, chain_rv ls es h4⟩
  · obtain ⟨f, hf, rfl⟩ := List.mem_map.mp he
    exact (h2 f (List.mem_reverse.mp hf)).far
  · unfold rv
    rw [List.map_map, show Prod.fst ∘ far = (Prod.fst : Int × Int → Int) from rfl, List.map_reverse]
    exact ((List.reverse_perm _).nodup_iff).mpr h3
theorem round_rv {ls : List Ln} {es : List (Int × Int)} (h : roundB ls es = true) : roundB ls (rv es) = true := by
  rw [roundB_iff] at h ⊢
  have hn := (rideB_iff.mp h.1).1
  refine ⟨ride_rv h.1, ?_⟩
  rw [lastE_rv hn, headE_rv hn, goes_far]
  exact h.2
/-! ### the least of all ways -/
end Lw

set_option maxHeartbeats 4000000
namespace Lw
open PySem Fu
local macro_rules | `(tactic| walk_at "e1") => `(tactic| first
  | with_reducible refine eo_seq ?_ | (with_reducible refine then_nx' ?_; refine ⟨?_, ?_, ?_⟩; rotate_left; · (try dsimp only [List.set, List.length_cons, List.length_nil, List.cons_append, List.nil_append, Nat.zero_add, Nat.reduceAdd]); exact rfl) | with_reducible refine then_rt ?_ | with_reducible refine eo_if ?_ | with_reducible refine eo_ret ?_ | with_reducible refine eo_set ?_ | with_reducible refine eo_asg ?_ | with_reducible refine eo_drop ?_ | with_reducible refine eo_nx ?_ | with_reducible refine eo_par ?_ | with_reducible refine eo_own ?_ | with_reducible refine eo_retN ?_ | with_reducible refine eo_for ?_ | with_reducible refine eo_retO ?_
  | with_reducible refine ev_c ?_ | (with_reducible refine ev_var ?_; refine ⟨_, rfl, ?_⟩) | with_reducible refine ev_bin ?_ | with_reducible refine ev_un ?_ | with_reducible refine ev_nil ?_ | with_reducible refine ev_cons ?_
  | with_reducible refine ev_tup ?_ | with_reducible refine ev_lst ?_ | with_reducible refine ev_call ?_ | with_reducible refine ev_callF ?_ | with_reducible refine ev_isi ?_ | with_reducible refine ev_isi2 ?_ | with_reducible refine ev_andV ?_ | with_reducible refine ev_orV ?_ | with_reducible refine ev_notV ?_
  | with_reducible refine ev_B ?_ | with_reducible refine ev_and ?_ | with_reducible refine ev_or ?_ | with_reducible refine ev_not ?_ | with_reducible refine ev_yes ?_ | with_reducible refine ev_if ?_ | with_reducible refine ev_no ?_ | with_reducible refine ev_so ?_ | with_reducible refine ev_sl ?_ | with_reducible refine ev_items ?_
  | (with_reducible refine ev_ixO ?_; refine ⟨_, _, rfl, rfl, ?_⟩) | (with_reducible refine ev_varO ?_; refine ⟨_, _, rfl, rfl, ?_⟩) | (with_reducible refine ev_lenO ?_; refine ⟨_, _, rfl, rfl, ?_⟩) | (with_reducible refine ev_scrSl ?_; refine ⟨_, rfl, ?_⟩) | (with_reducible refine ev_scrLen ?_; refine ⟨_, rfl, ?_⟩) | (with_reducible refine ev_callScr ?_; refine ⟨_, rfl, ?_⟩) | (with_reducible refine ev_OL ?_; refine ⟨_, _, rfl, rfl, ?_⟩) | with_reducible refine ev_OR ?_ | with_reducible refine ev_rep ?_ | with_reducible refine ev_listRng1 ?_ | with_reducible refine eo_setO ?_
  | with_reducible refine es_name ?_ | with_reducible refine es_tup2 ?_ | with_reducible refine es_tup3 ?_
  | with_reducible refine ed_addI ?_ | with_reducible refine ed_subI ?_ | with_reducible refine ed_cmp ?_ | with_reducible refine ed_eqI ?_ | with_reducible refine ed_neI ?_ | with_reducible refine ed_slT ?_ | with_reducible refine ed_slL ?_ | with_reducible refine ed_lenT ?_ | with_reducible refine ed_lenL ?_ | with_reducible refine ed_lenS ?_ | with_reducible refine ed_inS ?_ | with_reducible refine ed_itT ?_ | with_reducible refine ed_itL ?_ | with_reducible refine ed_tupL ?_ | with_reducible refine ed_tupT ?_ | with_reducible refine ed_listL ?_ | with_reducible refine ed_listT ?_ | with_reducible refine ed_neg ?_ | with_reducible refine ed_max ?_ | with_reducible refine ed_min ?_ | with_reducible refine ed_intB ?_)
local macro_rules | `(tactic| walk_at "e2") => `(tactic| first
  | walk_at "e1" | with_reducible refine ⟨_, rfl, ?_⟩ | with_reducible refine ⟨_, _, rfl, ?_⟩
  | with_reducible refine And.intro (Eq.refl (List.length _)) ?_ | with_reducible refine And.intro (Nat.le_of_ble_eq_true (n := List.length _) rfl) ?_
  | with_reducible refine And.intro (Eq.refl (_ : Sx)) (?_ : Ed _ _)
  | with_reducible exact gives_nx | with_reducible (refine gives_rt ?_; rfl))
local macro_rules | `(tactic| walk_at "e") => `(tactic| repeat walk_at "e2")
/-- begin a def's spec -/
local macro_rules | `(tactic| walk_at "i") => `(tactic| simp only [initS, List.map_cons, List.map_nil, List.length_cons, List.length_nil, Nat.reduceAdd, Nat.reduceSub, List.replicate, List.cons_append, List.nil_append])
namespace Sp
/-! ### the circle that the law plants -/
def lnO : Option Ln → D
  | none => .none
  | some l => ln l
def lastN (sg : List Nat) : Nat := sg.getLast?.getD 0
def headN (sg : List Nat) : Nat := sg.head?.getD 0
structure Signs (sg : List Nat) : Prop where
  all : ∀ c ∈ sg, 97 ≤ c ∧ c ≤ 100
  adj : ∀ i a b, sg[i]? = some a → sg[i + 1]? = some b → a ≠ b
theorem Signs.add {sg : List Nat} {c : Nat} (h : Signs sg) (c0 : 97 ≤ c ∧ c ≤ 100) (h2 : sg ≠ [] → c ≠ lastN sg) : Signs (sg ++ [c]) := by
  refine ⟨fun x hx => ?_, fun i a b ha hb => ?_⟩
  · rcases List.mem_append.mp hx with hx | hx
    · exact h.all x hx
    · rw [List.mem_singleton.mp hx]; exact c0
  · by_cases hi : i + 1 < sg.length
    · rw [List.getElem?_append_left (by omega)] at ha
      rw [List.getElem?_append_left hi] at hb
      exact h.adj i a b ha hb
    · have hl : i + 1 < (sg ++ [c]).length := (List.getElem?_eq_some_iff.mp hb).1
      rw [List.length_append, List.length_singleton] at hl
      have hn : i + 1 = sg.length := by omega
      rw [List.getElem?_append_right (by omega), hn, Nat.sub_self] at hb
      have hb : c = b := by simpa using hb
      rw [List.getElem?_append_left (by omega)] at ha
      have hs : sg ≠ [] := fun z => by subst z; simp at hn
      have : a = lastN sg := by
        unfold lastN
        rw [List.getLast?_eq_getElem?, show sg.length - 1 = i by omega, ha]; rfl
      subst hb
      exact fun e => h2 hs (by rw [← e, this])
theorem abcd : chars "abcd" = ([97, 98, 99, 100] : List Nat).map ch := rfl
/-- the line at one step of the circle -/
def stepLn (n : Nat) (sp : List Int) (sg : List Nat) (i : Nat) (s : Int) : Ln :=
  if s = 0 then (sp.getD i 0, sp.getD ((i + 1) % n) 0, sg.getD i 0) else (sp.getD ((i + 1) % n) 0, sp.getD i 0, sg.getD i 0)
structure Half (p : Int) (first n k : Nat) (sp : List Int) (sg : List Nat) (L : List Nat) (qs : List (Option Ln)) (es : List (Int × Int)) : Prop where
  len : L.length + k = n
  nd : L.Nodup
  lt : ∀ m ∈ L, m < n
  qlen : qs.length = n
  free : ∀ m ∈ L, qs[m]? = some none
  full : ∀ m, m < n → m ∉ L → ∃ l, qs[m]? = some (some l) ∧ LnOk p l
  elen : es.length = k
  at' : ∀ i, i < k → ∃ (m : Nat) (s : Int), es[i]? = some (((first + m : Nat) : Int), s) ∧ m < n ∧ m ∉ L ∧ (s = 0 ∨ s = 1) ∧ qs[m]? = some (some (stepLn n sp sg i s))
  end' : (es.map Prod.fst).Nodup
  sub : ∀ e ∈ es, ∃ m : Nat, e.1 = ((first + m : Nat) : Int) ∧ m < n ∧ m ∉ L
theorem Half.step {p : Int} {first n k : Nat} {sp : List Int} {sg L : List Nat} {qs : List (Option Ln)} {es : List (Int × Int)} {v m : Nat} {s : Int} (h : Half p first n k sp sg L qs es) (hv : L[v]? = some m) (hs : s = 0 ∨ s = 1) (hl : LnOk p (stepLn n sp sg k s)) :
    Half p first n (k + 1) sp sg (L.eraseIdx v) (qs.set m (some (stepLn n sp sg k s))) (es ++ [(((first + m : Nat) : Int), s)]) := by
  obtain ⟨hvl, hve⟩ := List.getElem?_eq_some_iff.mp hv
  have hm : m ∈ L := List.mem_of_getElem? hv
  have hmn := h.lt m hm
  have hne : m ∉ L.eraseIdx v := by
    intro z
    rw [List.mem_eraseIdx_iff_getElem?] at z
    obtain ⟨i, hi, he⟩ := z
    obtain ⟨hil, hie⟩ := List.getElem?_eq_some_iff.mp he
    exact hi ((List.getElem_inj h.nd).mp (hie.trans hve.symm))
  have hsub : ∀ x ∈ L.eraseIdx v, x ∈ L := fun x hx => List.mem_of_mem_eraseIdx hx
  have hback : ∀ x ∈ L, x ≠ m → x ∈ L.eraseIdx v := fun x hx hxm => by
    rw [List.mem_eraseIdx_iff_getElem?]
    obtain ⟨i, hi⟩ := List.mem_iff_getElem?.mp hx
    refine ⟨i, fun e => ?_, hi⟩
    subst e
    rw [hv] at hi
    cases hi; exact hxm rfl
  refine ⟨?_, h.nd.sublist (List.eraseIdx_sublist L v), fun x hx => h.lt x (hsub x hx), by rw [List.length_set]; exact h.qlen, fun x hx => ?_, fun x hx hxl => ?_, ?_, fun i hi => ?_, ?_, fun e he => ?_⟩
  · rw [List.length_eraseIdx, if_pos hvl]
    have := h.len
    omega
  · rw [List.getElem?_set_ne (fun e : m = x => hne (by rw [e]; exact hx))]
    exact h.free x (hsub x hx)
  · by_cases e : x = m
    · subst e
      exact ⟨_, List.getElem?_set_self (by rw [h.qlen]; exact hx), hl⟩
    · rw [List.getElem?_set_ne (fun z => e z.symm)]
      exact h.full x hx fun z => hxl (hback x z e)
  · rw [List.length_append, h.elen]; rfl
  · by_cases hik : i < k
    · obtain ⟨x, t, h1, h2, h3, h4, h5⟩ := h.at' i hik
      refine ⟨x, t, by rw [List.getElem?_append_left (by rw [h.elen]; exact hik)]; exact h1, h2, fun z => h3 (hsub x z), h4, ?_⟩
      rw [List.getElem?_set_ne (fun z : m = x => h3 (by rw [← z]; exact hm))]
      exact h5
    · have : i = k := by omega
      subst this
      refine ⟨m, s, ?_, hmn, hne, hs, List.getElem?_set_self (by rw [h.qlen]; exact hmn)⟩
      rw [List.getElem?_append_right (by rw [h.elen]; exact Nat.le_refl _), h.elen, Nat.sub_self]; rfl
  · rw [List.map_append, List.nodup_append]
    refine ⟨h.end', by simp, fun a ha c hc => ?_⟩
    obtain ⟨e, he, rfl⟩ := List.mem_map.mp ha
    have hc : c = ((first + m : Nat) : Int) := by simpa using hc
    obtain ⟨x, h1, h2, h3⟩ := h.sub e he
    intro z
    have : x = m := by omega
    exact h3 (this ▸ hm)
  · rcases List.mem_append.mp he with he | he
    · obtain ⟨x, h1, h2, h3⟩ := h.sub e he
      exact ⟨x, h1, h2, fun z => h3 (hsub x z)⟩
    · rw [List.mem_singleton.mp he]
      exact ⟨m, rfl, hmn, hne⟩
theorem getD_ok {sp : List Int} {p : Int} (h : ∀ x ∈ sp, 0 ≤ x ∧ x < p) {i : Nat} (hi : i < sp.length) : 0 ≤ sp.getD i 0 ∧ sp.getD i 0 < p := by
  rw [List.getD_eq_getElem?_getD, List.getElem?_eq_getElem hi]
  exact h _ (List.getElem_mem hi)
structure Circ (p : Int) (first n : Nat) (sp : List Int) (sg : List Nat) (ks : List Ln) (es : List (Int × Int)) : Prop where
  spOk : ∀ x ∈ sp, 0 ≤ x ∧ x < p
  spl : sp.length = n
  sgOk : Signs sg
  sgl : sg.length = n
  ends : lastN sg ≠ headN sg
  half : Half p first n n sp sg [] (ks.map some) es
theorem all_some {α : Type} : ∀ {qs : List (Option α)}, (∀ q ∈ qs, ∃ l, q = some l) → ∃ ks : List α, qs = ks.map some
  | [], _ => ⟨[], rfl⟩
  | q :: qs, h => by
    obtain ⟨l, rfl⟩ := h q List.mem_cons_self
    obtain ⟨ks, rfl⟩ := all_some fun x hx => h x (List.mem_cons_of_mem _ hx)
    exact ⟨l :: ks, rfl⟩
/-! ### a planted round -/
theorem chain_idx (ls : List Ln) : ∀ es : List (Int × Int), (∀ (i : Nat) (e f : Int × Int), es[i]? = some e → es[i + 1]? = some f → goesB ls e f = true) → chain ls es = true
  | [], _ => rfl
  | [_], _ => rfl
  | e :: f :: r, h => by
    rw [chain, Bool.and_eq_true]
    exact ⟨h 0 e f rfl rfl, chain_idx ls (f :: r) fun i x y hx hy => h (i + 1) x y (by simpa using hx) (by simpa using hy)⟩
theorem Circ.at {p : Int} {n : Nat} {sp : List Int} {sg : List Nat} {ks more : List Ln} {es : List (Int × Int)} (h : Circ p 0 n sp sg ks es) {i : Nat} (hi : i < n) :
    ∃ e, es[i]? = some e ∧ EndOk (ks ++ more).length e ∧ plc (ks ++ more) e = sp.getD i 0 ∧ plc (ks ++ more) (far e) = sp.getD ((i + 1) % n) 0 ∧ cmpy (ks ++ more) e = sg.getD i 0 := by
  obtain ⟨m, s, h1, h2, _, hs, h5⟩ := h.half.at' i hi
  have hk : ks.length = n := by have := h.half.qlen; rwa [List.length_map] at this
  rw [Nat.zero_add] at h1
  have h6 : (ks ++ more)[m]? = some (stepLn n sp sg i s) := by
    rw [List.getElem?_append_left (by omega)]
    rw [List.getElem?_map] at h5
    obtain ⟨l, e1, e2⟩ := Option.map_eq_some_iff.mp h5
    cases e2
    exact e1
  refine ⟨_, h1, ⟨by simp, by simp; omega, by simp only; omega, by simp only; omega⟩, ?_, ?_, ?_⟩
  · unfold plc
    simp only [Int.toNat_natCast, h6]
    rcases hs with rfl | rfl <;> simp [sideOf, stepLn]
  · unfold plc far
    simp only [Int.toNat_natCast, h6]
    rcases hs with rfl | rfl <;> simp [sideOf, stepLn]
  · unfold cmpy
    simp only [Int.toNat_natCast, h6]
    rcases hs with rfl | rfl <;> simp [stepLn]
theorem goes_of {ls : List Ln} {e f : Int × Int} (h1 : plc ls (far e) = plc ls f) (h2 : cmpy ls e ≠ cmpy ls f) : goesB ls e f = true := by
  unfold goesB
  simp [h1, h2]
end Sp
end Lw

set_option maxHeartbeats 4000000
namespace Lw
open PySem Fu
local macro_rules | `(tactic| walk_at "e1") => `(tactic| first
  | with_reducible refine eo_seq ?_ | (with_reducible refine then_nx' ?_; refine ⟨?_, ?_, ?_⟩; rotate_left; · (try dsimp only [List.set, List.length_cons, List.length_nil, List.cons_append, List.nil_append, Nat.zero_add, Nat.reduceAdd]); exact rfl) | with_reducible refine then_rt ?_ | with_reducible refine eo_if ?_ | with_reducible refine eo_ret ?_ | with_reducible refine eo_set ?_ | with_reducible refine eo_asg ?_ | with_reducible refine eo_drop ?_ | with_reducible refine eo_nx ?_ | with_reducible refine eo_par ?_ | with_reducible refine eo_own ?_ | with_reducible refine eo_retN ?_ | with_reducible refine eo_for ?_ | with_reducible refine eo_retO ?_
  | with_reducible refine ev_c ?_ | (with_reducible refine ev_var ?_; refine ⟨_, rfl, ?_⟩) | with_reducible refine ev_bin ?_ | with_reducible refine ev_un ?_ | with_reducible refine ev_nil ?_ | with_reducible refine ev_cons ?_
  | with_reducible refine ev_tup ?_ | with_reducible refine ev_lst ?_ | with_reducible refine ev_call ?_ | with_reducible refine ev_callF ?_ | with_reducible refine ev_isi ?_ | with_reducible refine ev_isi2 ?_ | with_reducible refine ev_andV ?_ | with_reducible refine ev_orV ?_ | with_reducible refine ev_notV ?_
  | with_reducible refine ev_B ?_ | with_reducible refine ev_and ?_ | with_reducible refine ev_or ?_ | with_reducible refine ev_not ?_ | with_reducible refine ev_yes ?_ | with_reducible refine ev_if ?_ | with_reducible refine ev_no ?_ | with_reducible refine ev_so ?_ | with_reducible refine ev_sl ?_ | with_reducible refine ev_items ?_
  | (with_reducible refine ev_ixO ?_; refine ⟨_, _, rfl, rfl, ?_⟩) | (with_reducible refine ev_varO ?_; refine ⟨_, _, rfl, rfl, ?_⟩) | (with_reducible refine ev_lenO ?_; refine ⟨_, _, rfl, rfl, ?_⟩) | (with_reducible refine ev_scrSl ?_; refine ⟨_, rfl, ?_⟩) | (with_reducible refine ev_scrLen ?_; refine ⟨_, rfl, ?_⟩) | (with_reducible refine ev_callScr ?_; refine ⟨_, rfl, ?_⟩) | (with_reducible refine ev_OL ?_; refine ⟨_, _, rfl, rfl, ?_⟩) | with_reducible refine ev_OR ?_ | with_reducible refine ev_rep ?_ | with_reducible refine ev_listRng1 ?_ | with_reducible refine eo_setO ?_
  | with_reducible refine es_name ?_ | with_reducible refine es_tup2 ?_ | with_reducible refine es_tup3 ?_
  | with_reducible refine ed_addI ?_ | with_reducible refine ed_subI ?_ | with_reducible refine ed_cmp ?_ | with_reducible refine ed_eqI ?_ | with_reducible refine ed_neI ?_ | with_reducible refine ed_slT ?_ | with_reducible refine ed_slL ?_ | with_reducible refine ed_lenT ?_ | with_reducible refine ed_lenL ?_ | with_reducible refine ed_lenS ?_ | with_reducible refine ed_inS ?_ | with_reducible refine ed_itT ?_ | with_reducible refine ed_itL ?_ | with_reducible refine ed_tupL ?_ | with_reducible refine ed_tupT ?_ | with_reducible refine ed_listL ?_ | with_reducible refine ed_listT ?_ | with_reducible refine ed_neg ?_ | with_reducible refine ed_max ?_ | with_reducible refine ed_min ?_ | with_reducible refine ed_intB ?_
  | with_reducible refine ev_rng1 ?_ | with_reducible refine ev_rng2 ?_)
local macro_rules | `(tactic| walk_at "sd") => `(tactic| first | rfl | assumption | (simp only [decide_eq_true_eq, decide_eq_false_iff_not, Bool.not_eq_true', Bool.not_eq_false', Bool.and_eq_true, Bool.or_eq_true, List.length_map, List.length_cons, List.length_nil, List.length_append, List.length_range] at *; omega))
local macro_rules | `(tactic| walk_at "e2") => `(tactic| first
  | walk_at "e1" | with_reducible refine ⟨_, rfl, ?_⟩ | with_reducible refine ⟨_, _, rfl, ?_⟩
  | with_reducible refine And.intro (Eq.refl (List.length _)) ?_ | with_reducible refine And.intro (Nat.le_of_ble_eq_true (n := List.length _) rfl) ?_
  | with_reducible refine And.intro (Eq.refl (_ : Sx)) (?_ : Ed _ _)
  | ((with_reducible refine And.intro ?_ (And.intro ?_ (?_ : Ev _ _))); (· rfl); (· rfl))
  | ((with_reducible refine ed_ixT ?_ ?_ ?_); (· decide); (· rfl)) | ((with_reducible refine ed_ixL ?_ ?_ ?_); (· decide); (· rfl)) | ((with_reducible refine ed_at ?_ ?_ ?_); (· decide); (· rfl))
  | ((with_reducible refine ed_modI ?_ ?_); (· first | decide | omega))
  | with_reducible exact gives_nx | ((with_reducible refine gives_rt ?_); (· rfl)) | ((with_reducible refine And.intro ?_ ?_); (· exact rfl); (· with_reducible exact Eq.refl (_ : Sx))))
local macro_rules | `(tactic| walk_at "e") => `(tactic| repeat walk_at "e2")
/-- begin a def's spec -/
local macro_rules | `(tactic| walk_at "i") => `(tactic| simp only [initS, List.map_cons, List.map_nil, List.length_cons, List.length_nil, Nat.reduceAdd, Nat.reduceSub, List.replicate, List.cons_append, List.nil_append])
/-- a known truth decides -/
local macro_rules | `(tactic| walk_at "t") => `(tactic| first | ((with_reducible refine split_t ?_ ?_); (· walk_at "sd")) | ((with_reducible refine split_t' ?_ ?_); (· walk_at "sd")))
local macro_rules | `(tactic| walk_at "f") => `(tactic| first | ((with_reducible refine split_f ?_ ?_); (· walk_at "sd")) | ((with_reducible refine split_f' ?_ ?_); (· walk_at "sd")))
/-- all that is seen in a look -/
local macro_rules | `(tactic| walk_at "v") => `(tactic| (rw [sealAll_mk (by (simp only [List.set_cons_zero, List.set_cons_succ, List.map_cons, List.map_nil, sealS_none, sealS_dat, sealS_scr, sealS_own, List.getElem?_cons_zero, List.getElem?_cons_succ, sealC_lst]; rfl)) (by (simp only [List.set_cons_zero, List.set_cons_succ, List.map_cons, List.map_nil]; rfl))]))
/-! ### texts of data -/
theorem dNe_str (x y : Str) : dNe (.str x) (.str y) = some (.bool (!decide (x = y))) := by
  unfold dNe
  split
  · congr 3
  · rfl
theorem dNe_str_self (x : Str) : dNe (.str x) (.str x) = some (.bool false) := by rw [dNe_str]; simp
/-- what can be shown: its depth, its weight -/
structure Shw (n m : Nat) (d : D) : Prop where
  lay : d.canLay0 = true
  dep : d.depth ≤ n
  wt : d.weight ≤ m
  short : d.intsShort 13 = true
  sh : d.showable = true
theorem Shw.mono {n m n' m' : Nat} {d : D} (h : Shw n m d) (l : n ≤ n') (k : m ≤ m') : Shw n' m' d := ⟨h.lay, Nat.le_trans h.dep l, Nat.le_trans h.wt k, h.short, h.sh⟩
theorem shw_int {i : Int} (h : i.natAbs < 10 ^ 12) : Shw 0 40 (.int i) := by
  have hb : i.natAbs.log2 ≤ 39 := by
    by_cases z : i.natAbs = 0
    · rw [z]; decide
    · refine Nat.le_of_lt_succ ((Nat.log2_lt z).mpr ?_)
      exact Nat.lt_trans h (by decide)
  refine ⟨by simp [PyData.canLay0], by simp [PyData.depth], ?_, ?_, ?_⟩
  · simp only [PyData.weight]
    split <;> omega
  · simp only [PyData.intsShort, decide_eq_true_eq]
    exact PyData.shown_int_le h
  · simp only [PyData.showable, decide_eq_true_eq]; omega
theorem shw_ch {c : Nat} (h : c < 0x110000) : Shw 0 40 (ch c) := ⟨(fine_ch h).1, (fine_ch h).2, by simp [ch, PyData.weight], rfl, rfl⟩
theorem shw_all {n m : Nat} : ∀ {ds : List D}, (∀ d ∈ ds, Shw n m d) → PyData.canLayAll0 ds = true ∧ PyData.depthAll ds ≤ n ∧ PyData.weightAll ds ≤ ds.length * (m + 1) ∧ PyData.intsShortAll 13 ds = true ∧ PyData.showableAll ds = true
  | [], _ => ⟨rfl, Nat.zero_le _, Nat.zero_le _, rfl, rfl⟩
  | d :: ds, h => by
    obtain ⟨a, b, c, e, f⟩ := shw_all fun x hx => h x (List.mem_cons_of_mem _ hx)
    have k := h d List.mem_cons_self
    refine ⟨by simp [PyData.canLayAll0, a, k.lay], by simp only [PyData.depthAll]; exact Nat.max_le.mpr ⟨k.dep, b⟩, ?_, by simp [PyData.intsShortAll, e, k.short], by simp [PyData.showableAll, f, k.sh]⟩
    simp only [PyData.weightAll, List.length_cons]
    rw [Nat.add_mul]
    have := k.wt
    omega
theorem shw_list {n m : Nat} {ds : List D} (h : ∀ d ∈ ds, Shw n m d) : Shw (n + 1) (ds.length * (m + 1)) (.list ds) := by
  obtain ⟨a, b, c, e, f⟩ := shw_all h
  exact ⟨by simpa [PyData.canLay0] using a, by simp only [PyData.depth]; omega, by simpa only [PyData.weight] using c, by simpa only [PyData.intsShort] using e, by simpa only [PyData.showable] using f⟩
theorem shw_tup {n m : Nat} {ds : List D} (h : ∀ d ∈ ds, Shw n m d) : Shw (n + 1) (ds.length * (m + 1)) (.tuple ds) := by
  obtain ⟨a, b, c, e, f⟩ := shw_all h
  exact ⟨by simpa [PyData.canLay0] using a, by simp only [PyData.depth]; omega, by simpa only [PyData.weight] using c, by simpa only [PyData.intsShort] using e, by simpa only [PyData.showable] using f⟩
theorem shw_sq {n m : Nat} {d : D} {ds : List D} (s : Sq d ds) (h : ∀ d ∈ ds, Shw n m d) : Shw (n + 1) (ds.length * (m + 1)) d := by
  rcases s with rfl | rfl
  · exact shw_list h
  · exact shw_tup h
theorem Shw.ok {n m : Nat} {d : D} (h : Shw n m d) (hn : n ≤ 60) (hm : m ≤ 1048576) : showOk d = true := by
  unfold showOk
  have l : d.shown.length ≤ sizeLine := PyData.shown_fits (B := 13) (by decide) (by decide) (PyData.leavesShort_of_canLay0 13 d h.lay h.short) (by have := h.wt; omega)
  rw [sizeLine_eq] at l
  simp only [Bool.and_eq_true, decide_eq_true_eq, Bool.not_eq_true']
  exact ⟨⟨⟨⟨h.sh, PyData.hasDict_of_canLay d h.lay⟩, h.lay⟩, Nat.le_trans h.dep hn⟩, l⟩
theorem ed_repr {n m : Nat} {d : D} {ds : List D} {Q : D → Prop} (s : Sq d ds) (h : Shw n m d) (q : Q (.str d.shown)) (hn : n ≤ 60 := by decide) (hm : m ≤ 1048576 := by omega) : Ed (dRepr [d]) Q := by
  have ok := h.ok hn hm
  rcases s with rfl | rfl
  · exact ⟨_, by simp only [dRepr, ok, if_true], q⟩
  · exact ⟨_, by simp only [dRepr, ok, if_true], q⟩
theorem Shw.fine {n m : Nat} {d : D} (h : Shw n m d) : Fine n d := ⟨h.lay, h.dep⟩
/-! ### all tuples turned to lists -/
/-! ### how webs and rides are shown -/
theorem shw_ln {p : Int} {d : D} {l : Ln} (s : IsLn d l) (h : LnOk p l) (hp : p ≤ 1000000) : Shw 1 123 d := by
  refine shw_sq (n := 0) (m := 40) s fun x hx => ?_
  simp only [List.mem_cons, List.not_mem_nil, or_false] at hx
  have := h.a0; have := h.a1; have := h.b0; have := h.b1
  rcases hx with rfl | rfl | rfl
  · exact shw_int (by omega)
  · exact shw_int (by omega)
  · exact shw_ch h.c.ok
theorem shw_lns {p : Int} {d : D} {ls : List Ln} (h : Lns d ls) (k : ∀ l ∈ ls, LnOk p l) (hp : p ≤ 1000000) : Shw 2 (ls.length * 124) d := by
  obtain ⟨ps, s, rfl, hq⟩ := h
  have := shw_sq s (n := 1) (m := 123) fun x hx => by
    obtain ⟨q, hm, rfl⟩ := List.mem_map.mp hx
    exact shw_ln (hq q hm) (k _ (List.mem_map_of_mem hm)) hp
  simpa using this
theorem shw_web {d : D} {p : Int} {ls : List Ln} (h : Web d p ls) (k : WbOk p ls) (hp : p ≤ 1000000) : Shw 3 (2 * (ls.length * 124 + 41)) d := by
  obtain ⟨L, s, hL⟩ := h
  have := shw_sq s (n := 2) (m := ls.length * 124 + 40) fun x hx => by
    simp only [List.mem_cons, List.not_mem_nil, or_false] at hx
    rcases hx with rfl | rfl
    · exact (shw_int (by have := k.p0; omega)).mono (by decide) (by omega)
    · exact (shw_lns hL k.all hp).mono (by decide) (by omega)
  simpa using this
theorem shw_en {d : D} {e : Int × Int} (s : IsEn d e) (h1 : e.1.natAbs < 10 ^ 12) (h2 : e.2.natAbs < 10 ^ 12) : Shw 1 82 d := by
  refine shw_sq (n := 0) (m := 40) s fun x hx => ?_
  simp only [List.mem_cons, List.not_mem_nil, or_false] at hx
  rcases hx with rfl | rfl
  · exact shw_int h1
  · exact shw_int h2
theorem shw_ride {d : D} {es : List (Int × Int)} (h : IsRide d es) (k : ∀ e ∈ es, e.1.natAbs < 10 ^ 12 ∧ e.2.natAbs < 10 ^ 12) : Shw 2 (es.length * 83) d := by
  obtain ⟨ps, s, rfl, hq⟩ := h
  have := shw_sq s (n := 1) (m := 82) fun x hx => by
    obtain ⟨q, hm, rfl⟩ := List.mem_map.mp hx
    have := k _ (List.mem_map_of_mem (f := (·.2)) hm)
    exact shw_en (hq q hm) this.1 this.2
  simpa using this
theorem shw_two {a b : D} {n m : Nat} (ha : Shw n m a) (hb : Shw n m b) : Shw (n + 1) (2 * (m + 1)) (.list [a, b]) := shw_list (ds := [a, b]) (n := n) (m := m) fun d hd => by
  simp only [List.mem_cons, List.not_mem_nil, or_false] at hd
  rcases hd with rfl | rfl
  · exact ha
  · exact hb
end Lw

set_option maxHeartbeats 4000000
namespace Lw
open PySem Fu
local macro_rules | `(tactic| walk_at "e1") => `(tactic| first
  | with_reducible refine eo_seq ?_ | (with_reducible refine then_nx' ?_; refine ⟨?_, ?_, ?_⟩; rotate_left; · (try dsimp only [List.set, List.length_cons, List.length_nil, List.cons_append, List.nil_append, Nat.zero_add, Nat.reduceAdd]); exact rfl) | with_reducible refine then_rt ?_ | with_reducible refine eo_if ?_ | with_reducible refine eo_ret ?_ | with_reducible refine eo_set ?_ | with_reducible refine eo_asg ?_ | with_reducible refine eo_drop ?_ | with_reducible refine eo_nx ?_ | with_reducible refine eo_par ?_ | with_reducible refine eo_own ?_ | with_reducible refine eo_retN ?_ | with_reducible refine eo_for ?_ | with_reducible refine eo_retO ?_
  | with_reducible refine ev_c ?_ | (with_reducible refine ev_var ?_; refine ⟨_, rfl, ?_⟩) | with_reducible refine ev_bin ?_ | with_reducible refine ev_un ?_ | with_reducible refine ev_nil ?_ | with_reducible refine ev_cons ?_
  | with_reducible refine ev_tup ?_ | with_reducible refine ev_lst ?_ | with_reducible refine ev_call ?_ | with_reducible refine ev_callF ?_ | with_reducible refine ev_isi ?_ | with_reducible refine ev_isi2 ?_ | with_reducible refine ev_andV ?_ | with_reducible refine ev_orV ?_ | with_reducible refine ev_notV ?_
  | with_reducible refine ev_B ?_ | with_reducible refine ev_and ?_ | with_reducible refine ev_or ?_ | with_reducible refine ev_not ?_ | with_reducible refine ev_yes ?_ | with_reducible refine ev_if ?_ | with_reducible refine ev_no ?_ | with_reducible refine ev_so ?_ | with_reducible refine ev_sl ?_ | with_reducible refine ev_items ?_
  | (with_reducible refine ev_ixO ?_; refine ⟨_, _, rfl, rfl, ?_⟩) | (with_reducible refine ev_varO ?_; refine ⟨_, _, rfl, rfl, ?_⟩) | (with_reducible refine ev_lenO ?_; refine ⟨_, _, rfl, rfl, ?_⟩) | (with_reducible refine ev_scrSl ?_; refine ⟨_, rfl, ?_⟩) | (with_reducible refine ev_scrLen ?_; refine ⟨_, rfl, ?_⟩) | (with_reducible refine ev_callScr ?_; refine ⟨_, rfl, ?_⟩) | (with_reducible refine ev_OL ?_; refine ⟨_, _, rfl, rfl, ?_⟩) | with_reducible refine ev_OR ?_ | with_reducible refine ev_rep ?_ | with_reducible refine ev_listRng1 ?_ | with_reducible refine eo_setO ?_
  | with_reducible refine es_name ?_ | with_reducible refine es_tup2 ?_ | with_reducible refine es_tup3 ?_
  | with_reducible refine ed_addI ?_ | with_reducible refine ed_subI ?_ | with_reducible refine ed_cmp ?_ | with_reducible refine ed_eqI ?_ | with_reducible refine ed_neI ?_ | with_reducible refine ed_slT ?_ | with_reducible refine ed_slL ?_ | with_reducible refine ed_lenT ?_ | with_reducible refine ed_lenL ?_ | with_reducible refine ed_lenS ?_ | with_reducible refine ed_inS ?_ | with_reducible refine ed_itT ?_ | with_reducible refine ed_itL ?_ | with_reducible refine ed_tupL ?_ | with_reducible refine ed_tupT ?_ | with_reducible refine ed_listL ?_ | with_reducible refine ed_listT ?_ | with_reducible refine ed_neg ?_ | with_reducible refine ed_max ?_ | with_reducible refine ed_min ?_ | with_reducible refine ed_intB ?_
  | with_reducible refine ev_rng1 ?_ | with_reducible refine ev_rng2 ?_)
local macro_rules | `(tactic| walk_at "sd") => `(tactic| first | rfl | assumption | (simp only [decide_eq_true_eq, decide_eq_false_iff_not, Bool.not_eq_true', Bool.not_eq_false', Bool.and_eq_true, Bool.or_eq_true, List.length_map, List.length_cons, List.length_nil, List.length_append, List.length_range] at *; omega))
local macro_rules | `(tactic| walk_at "e2") => `(tactic| first
  | walk_at "e1" | with_reducible refine ⟨_, rfl, ?_⟩ | with_reducible refine ⟨_, _, rfl, ?_⟩
  | with_reducible refine And.intro (Eq.refl (List.length _)) ?_ | with_reducible refine And.intro (Nat.le_of_ble_eq_true (n := List.length _) rfl) ?_
  | with_reducible refine And.intro (Eq.refl (_ : Sx)) (?_ : Ed _ _)
  | ((with_reducible refine And.intro ?_ (And.intro ?_ (?_ : Ev _ _))); (· rfl); (· rfl))
  | ((with_reducible refine ed_ixT ?_ ?_ ?_); (· decide); (· rfl)) | ((with_reducible refine ed_ixL ?_ ?_ ?_); (· decide); (· rfl)) | ((with_reducible refine ed_at ?_ ?_ ?_); (· decide); (· rfl))
  | ((with_reducible refine ed_modI ?_ ?_); (· first | decide | omega))
  | with_reducible exact gives_nx | ((with_reducible refine gives_rt ?_); (· rfl)) | ((with_reducible refine And.intro ?_ ?_); (· exact rfl); (· with_reducible exact Eq.refl (_ : Sx))))
local macro_rules | `(tactic| walk_at "e") => `(tactic| repeat walk_at "e2")
/-- begin a def's spec -/
local macro_rules | `(tactic| walk_at "i") => `(tactic| simp only [initS, List.map_cons, List.map_nil, List.length_cons, List.length_nil, Nat.reduceAdd, Nat.reduceSub, List.replicate, List.cons_append, List.nil_append])
/-- a known truth decides -/
local macro_rules | `(tactic| walk_at "t") => `(tactic| first | ((with_reducible refine split_t ?_ ?_); (· walk_at "sd")) | ((with_reducible refine split_t' ?_ ?_); (· walk_at "sd")))
local macro_rules | `(tactic| walk_at "f") => `(tactic| first | ((with_reducible refine split_f ?_ ?_); (· walk_at "sd")) | ((with_reducible refine split_f' ?_ ?_); (· walk_at "sd")))
/-- all that is seen in a look -/
local macro_rules | `(tactic| walk_at "v") => `(tactic| (rw [sealAll_mk (by (simp only [List.set_cons_zero, List.set_cons_succ, List.map_cons, List.map_nil, sealS_none, sealS_dat, sealS_scr, sealS_own, List.getElem?_cons_zero, List.getElem?_cons_succ, sealC_lst]; rfl)) (by (simp only [List.set_cons_zero, List.set_cons_succ, List.map_cons, List.map_nil]; rfl))]))
theorem ev_chain3 {S : Sx} {f f' f'' : D → D → Option D} {ga gb gc gd : M D} {Q : D → Sx → Prop} (h : Ev (ga S) fun x S1 => Ev (gb S1) fun y S2 => Ed (f x y) fun b => ∃ c, b = .bool c ∧ (c = true → Ev (gc S2) fun z S3 => Ed (f' y z) fun b => ∃ c, b = .bool c ∧ (c = true → Ev (gd S3) fun u S4 => Ed (f'' z u) fun r => Q r S4) ∧ (c = false → Q (.bool false) S3)) ∧ (c = false → Q (.bool false) S2)) : Ev (gChain3 f f' f'' ga gb gc gd S) Q := by
  obtain ⟨x, S1, e1, y, S2, e2, b, e3, c, rfl, h1, h2⟩ := h
  cases c with
  | true =>
    obtain ⟨z, S3, e4, b, e5, c, rfl, h3, h4⟩ := h1 rfl
    cases c with
    | true =>
      obtain ⟨u, S4, e6, r, e7, q⟩ := h3 rfl
      exact ⟨r, S4, by simp only [gChain3, e1, e2, e3, e4, e5, e6, e7, Option.bind_some], q⟩
    | false => exact ⟨_, S3, by simp only [gChain3, e1, e2, e3, e4, e5, Option.bind_some], h4 rfl⟩
  | false => exact ⟨_, S2, by simp only [gChain3, e1, e2, e3, Option.bind_some], h2 rfl⟩
/-! ### the law's own looks -/
end Lw

set_option maxHeartbeats 4000000
namespace Lw
open PySem Fu
local macro_rules | `(tactic| walk_at "e1") => `(tactic| first
  | with_reducible refine eo_seq ?_ | (with_reducible refine then_nx' ?_; refine ⟨?_, ?_, ?_⟩; rotate_left; · (try dsimp only [List.set, List.length_cons, List.length_nil, List.cons_append, List.nil_append, Nat.zero_add, Nat.reduceAdd]); exact rfl) | with_reducible refine then_rt ?_ | with_reducible refine eo_if ?_ | with_reducible refine eo_ret ?_ | with_reducible refine eo_set ?_ | with_reducible refine eo_asg ?_ | with_reducible refine eo_drop ?_ | with_reducible refine eo_nx ?_ | with_reducible refine eo_par ?_ | with_reducible refine eo_own ?_ | with_reducible refine eo_retN ?_ | with_reducible refine eo_for ?_ | with_reducible refine eo_retO ?_
  | with_reducible refine ev_c ?_ | (with_reducible refine ev_var ?_; refine ⟨_, rfl, ?_⟩) | with_reducible refine ev_bin ?_ | with_reducible refine ev_un ?_ | with_reducible refine ev_nil ?_ | with_reducible refine ev_cons ?_
  | with_reducible refine ev_tup ?_ | with_reducible refine ev_lst ?_ | with_reducible refine ev_call ?_ | with_reducible refine ev_callF ?_ | with_reducible refine ev_isi ?_ | with_reducible refine ev_isi2 ?_ | with_reducible refine ev_andV ?_ | with_reducible refine ev_orV ?_ | with_reducible refine ev_notV ?_
  | with_reducible refine ev_B ?_ | with_reducible refine ev_and ?_ | with_reducible refine ev_or ?_ | with_reducible refine ev_not ?_ | with_reducible refine ev_yes ?_ | with_reducible refine ev_if ?_ | with_reducible refine ev_no ?_ | with_reducible refine ev_so ?_ | with_reducible refine ev_sl ?_ | with_reducible refine ev_items ?_
  | (with_reducible refine ev_ixO ?_; refine ⟨_, _, rfl, rfl, ?_⟩) | (with_reducible refine ev_varO ?_; refine ⟨_, _, rfl, rfl, ?_⟩) | (with_reducible refine ev_lenO ?_; refine ⟨_, _, rfl, rfl, ?_⟩) | (with_reducible refine ev_scrSl ?_; refine ⟨_, rfl, ?_⟩) | (with_reducible refine ev_scrLen ?_; refine ⟨_, rfl, ?_⟩) | (with_reducible refine ev_callScr ?_; refine ⟨_, rfl, ?_⟩) | (with_reducible refine ev_OL ?_; refine ⟨_, _, rfl, rfl, ?_⟩) | with_reducible refine ev_OR ?_ | with_reducible refine ev_rep ?_ | with_reducible refine ev_listRng1 ?_ | with_reducible refine eo_setO ?_
  | with_reducible refine es_name ?_ | with_reducible refine es_tup2 ?_ | with_reducible refine es_tup3 ?_
  | with_reducible refine ed_addI ?_ | with_reducible refine ed_subI ?_ | with_reducible refine ed_cmp ?_ | with_reducible refine ed_eqI ?_ | with_reducible refine ed_neI ?_ | with_reducible refine ed_slT ?_ | with_reducible refine ed_slL ?_ | with_reducible refine ed_lenT ?_ | with_reducible refine ed_lenL ?_ | with_reducible refine ed_lenS ?_ | with_reducible refine ed_inS ?_ | with_reducible refine ed_itT ?_ | with_reducible refine ed_itL ?_ | with_reducible refine ed_tupL ?_ | with_reducible refine ed_tupT ?_ | with_reducible refine ed_listL ?_ | with_reducible refine ed_listT ?_ | with_reducible refine ed_neg ?_ | with_reducible refine ed_max ?_ | with_reducible refine ed_min ?_ | with_reducible refine ed_intB ?_
  | with_reducible refine ev_rng1 ?_ | with_reducible refine ev_rng2 ?_)
local macro_rules | `(tactic| walk_at "sd") => `(tactic| first | rfl | assumption | (simp only [decide_eq_true_eq, decide_eq_false_iff_not, Bool.not_eq_true', Bool.not_eq_false', Bool.and_eq_true, Bool.or_eq_true, List.length_map, List.length_cons, List.length_nil, List.length_append, List.length_range] at *; omega))
local macro_rules | `(tactic| walk_at "e2") => `(tactic| first
  | walk_at "e1" | with_reducible refine ⟨_, rfl, ?_⟩ | with_reducible refine ⟨_, _, rfl, ?_⟩
  | with_reducible refine And.intro (Eq.refl (List.length _)) ?_ | with_reducible refine And.intro (Nat.le_of_ble_eq_true (n := List.length _) rfl) ?_
  | with_reducible refine And.intro (Eq.refl (_ : Sx)) (?_ : Ed _ _)
  | ((with_reducible refine And.intro ?_ (And.intro ?_ (?_ : Ev _ _))); (· rfl); (· rfl))
  | ((with_reducible refine ed_ixT ?_ ?_ ?_); (· decide); (· rfl)) | ((with_reducible refine ed_ixL ?_ ?_ ?_); (· decide); (· rfl)) | ((with_reducible refine ed_at ?_ ?_ ?_); (· decide); (· rfl))
  | ((with_reducible refine ed_modI ?_ ?_); (· first | decide | omega))
  | with_reducible exact gives_nx | ((with_reducible refine gives_rt ?_); (· rfl)) | ((with_reducible refine And.intro ?_ ?_); (· exact rfl); (· with_reducible exact Eq.refl (_ : Sx))))
local macro_rules | `(tactic| walk_at "e") => `(tactic| repeat walk_at "e2")
/-- begin a def's spec -/
local macro_rules | `(tactic| walk_at "i") => `(tactic| simp only [initS, List.map_cons, List.map_nil, List.length_cons, List.length_nil, Nat.reduceAdd, Nat.reduceSub, List.replicate, List.cons_append, List.nil_append])
/-- a known truth decides -/
local macro_rules | `(tactic| walk_at "t") => `(tactic| first | ((with_reducible refine split_t ?_ ?_); (· walk_at "sd")) | ((with_reducible refine split_t' ?_ ?_); (· walk_at "sd")))
local macro_rules | `(tactic| walk_at "f") => `(tactic| first | ((with_reducible refine split_f ?_ ?_); (· walk_at "sd")) | ((with_reducible refine split_f' ?_ ?_); (· walk_at "sd")))
/-- all that is seen in a look -/
local macro_rules | `(tactic| walk_at "v") => `(tactic| (rw [sealAll_mk (by (simp only [List.set_cons_zero, List.set_cons_succ, List.map_cons, List.map_nil, sealS_none, sealS_dat, sealS_scr, sealS_own, List.getElem?_cons_zero, List.getElem?_cons_succ, sealC_lst]; rfl)) (by (simp only [List.set_cons_zero, List.set_cons_succ, List.map_cons, List.map_nil]; rfl))]))
namespace Sp
end Sp
end Lw

set_option maxHeartbeats 4000000
namespace Lw
open PySem Fu
local macro_rules | `(tactic| walk_at "e1") => `(tactic| first
  | with_reducible refine eo_seq ?_ | (with_reducible refine then_nx' ?_; refine ⟨?_, ?_, ?_⟩; rotate_left; · (try dsimp only [List.set, List.length_cons, List.length_nil, List.cons_append, List.nil_append, Nat.zero_add, Nat.reduceAdd]); exact rfl) | with_reducible refine then_rt ?_ | with_reducible refine eo_if ?_ | with_reducible refine eo_ret ?_ | with_reducible refine eo_set ?_ | with_reducible refine eo_asg ?_ | with_reducible refine eo_drop ?_ | with_reducible refine eo_nx ?_ | with_reducible refine eo_par ?_ | with_reducible refine eo_own ?_ | with_reducible refine eo_retN ?_ | with_reducible refine eo_for ?_ | with_reducible refine eo_retO ?_
  | with_reducible refine ev_c ?_ | (with_reducible refine ev_var ?_; refine ⟨_, rfl, ?_⟩) | with_reducible refine ev_bin ?_ | with_reducible refine ev_un ?_ | with_reducible refine ev_nil ?_ | with_reducible refine ev_cons ?_
  | with_reducible refine ev_tup ?_ | with_reducible refine ev_lst ?_ | with_reducible refine ev_call ?_ | with_reducible refine ev_callF ?_ | with_reducible refine ev_isi ?_ | with_reducible refine ev_isi2 ?_ | with_reducible refine ev_andV ?_ | with_reducible refine ev_orV ?_ | with_reducible refine ev_notV ?_
  | with_reducible refine ev_B ?_ | with_reducible refine ev_and ?_ | with_reducible refine ev_or ?_ | with_reducible refine ev_not ?_ | with_reducible refine ev_yes ?_ | with_reducible refine ev_if ?_ | with_reducible refine ev_no ?_ | with_reducible refine ev_so ?_ | with_reducible refine ev_sl ?_ | with_reducible refine ev_items ?_
  | (with_reducible refine ev_ixO ?_; refine ⟨_, _, rfl, rfl, ?_⟩) | (with_reducible refine ev_varO ?_; refine ⟨_, _, rfl, rfl, ?_⟩) | (with_reducible refine ev_lenO ?_; refine ⟨_, _, rfl, rfl, ?_⟩) | (with_reducible refine ev_scrSl ?_; refine ⟨_, rfl, ?_⟩) | (with_reducible refine ev_scrLen ?_; refine ⟨_, rfl, ?_⟩) | (with_reducible refine ev_callScr ?_; refine ⟨_, rfl, ?_⟩) | (with_reducible refine ev_OL ?_; refine ⟨_, _, rfl, rfl, ?_⟩) | with_reducible refine ev_OR ?_ | with_reducible refine ev_rep ?_ | with_reducible refine ev_listRng1 ?_ | with_reducible refine eo_setO ?_
  | with_reducible refine es_name ?_ | with_reducible refine es_tup2 ?_ | with_reducible refine es_tup3 ?_
  | with_reducible refine ed_addI ?_ | with_reducible refine ed_subI ?_ | with_reducible refine ed_cmp ?_ | with_reducible refine ed_eqI ?_ | with_reducible refine ed_neI ?_ | with_reducible refine ed_slT ?_ | with_reducible refine ed_slL ?_ | with_reducible refine ed_lenT ?_ | with_reducible refine ed_lenL ?_ | with_reducible refine ed_lenS ?_ | with_reducible refine ed_inS ?_ | with_reducible refine ed_itT ?_ | with_reducible refine ed_itL ?_ | with_reducible refine ed_tupL ?_ | with_reducible refine ed_tupT ?_ | with_reducible refine ed_listL ?_ | with_reducible refine ed_listT ?_ | with_reducible refine ed_neg ?_ | with_reducible refine ed_max ?_ | with_reducible refine ed_min ?_ | with_reducible refine ed_intB ?_
  | with_reducible refine ev_rng1 ?_ | with_reducible refine ev_rng2 ?_)
local macro_rules | `(tactic| walk_at "sd") => `(tactic| first | rfl | assumption | (simp only [decide_eq_true_eq, decide_eq_false_iff_not, Bool.not_eq_true', Bool.not_eq_false', Bool.and_eq_true, Bool.or_eq_true, List.length_map, List.length_cons, List.length_nil, List.length_append, List.length_range] at *; omega))
local macro_rules | `(tactic| walk_at "e2") => `(tactic| first
  | walk_at "e1" | with_reducible refine ⟨_, rfl, ?_⟩ | with_reducible refine ⟨_, _, rfl, ?_⟩
  | with_reducible refine And.intro (Eq.refl (List.length _)) ?_ | with_reducible refine And.intro (Nat.le_of_ble_eq_true (n := List.length _) rfl) ?_
  | with_reducible refine And.intro (Eq.refl (_ : Sx)) (?_ : Ed _ _)
  | ((with_reducible refine And.intro ?_ (And.intro ?_ (?_ : Ev _ _))); (· rfl); (· rfl))
  | ((with_reducible refine ed_ixT ?_ ?_ ?_); (· decide); (· rfl)) | ((with_reducible refine ed_ixL ?_ ?_ ?_); (· decide); (· rfl)) | ((with_reducible refine ed_at ?_ ?_ ?_); (· decide); (· rfl))
  | ((with_reducible refine ed_modI ?_ ?_); (· first | decide | omega))
  | with_reducible exact gives_nx | ((with_reducible refine gives_rt ?_); (· rfl)) | ((with_reducible refine And.intro ?_ ?_); (· exact rfl); (· with_reducible exact Eq.refl (_ : Sx))))
local macro_rules | `(tactic| walk_at "e") => `(tactic| repeat walk_at "e2")
/-- begin a def's spec -/
local macro_rules | `(tactic| walk_at "i") => `(tactic| simp only [initS, List.map_cons, List.map_nil, List.length_cons, List.length_nil, Nat.reduceAdd, Nat.reduceSub, List.replicate, List.cons_append, List.nil_append])
/-- a known truth decides -/
local macro_rules | `(tactic| walk_at "t") => `(tactic| first | ((with_reducible refine split_t ?_ ?_); (· walk_at "sd")) | ((with_reducible refine split_t' ?_ ?_); (· walk_at "sd")))
local macro_rules | `(tactic| walk_at "f") => `(tactic| first | ((with_reducible refine split_f ?_ ?_); (· walk_at "sd")) | ((with_reducible refine split_f' ?_ ?_); (· walk_at "sd")))
/-- all that is seen in a look -/
local macro_rules | `(tactic| walk_at "v") => `(tactic| (rw [sealAll_mk (by (simp only [List.set_cons_zero, List.set_cons_succ, List.map_cons, List.map_nil, sealS_none, sealS_dat, sealS_scr, sealS_own, List.getElem?_cons_zero, List.getElem?_cons_succ, sealC_lst]; rfl)) (by (simp only [List.set_cons_zero, List.set_cons_succ, List.map_cons, List.map_nil]; rfl))]))
theorem ev_slO {sl : List (Option R)} {os : List (Option Cell)} {i : Nat} {gl gh : M (Option Int)} {Q : D → Sx → Prop}
    (h : ∃ j, sl[i]? = some (some (.own j)) ∧ Ev (gl ⟨sl, os⟩) fun lo S1 => Ev (gh S1) fun hi S2 => ∃ cs, S2.os[j]? = some (some (.lst cs)) ∧ Q (.list (cutL cs lo hi)) S2) : Ev (gSlO i gl gh ⟨sl, os⟩) Q := by
  obtain ⟨j, hi, lo, S1, e1, h2, S2, e2, cs, e3, q⟩ := h
  exact ⟨_, _, by simp only [gSlO, hi, e1, e2, Fu.cellOf, e3, Option.bind_some], q⟩
theorem ed_picked {Q P : D → Prop} {xs : List D} {i : Int} (h0 : 0 ≤ i) (h1 : i < xs.length) (hp : ∀ x ∈ xs, P x) (h : ∀ x, x ∈ xs → P x → Q x) : Ed (dIx (.list xs) (.int i)) Q := by
  have l : i.toNat < xs.length := by omega
  exact ed_ixL h0 (List.getElem?_eq_getElem l) (h _ (List.getElem_mem l) (hp _ (List.getElem_mem l)))
namespace Sp
end Sp
end Lw

set_option maxHeartbeats 4000000
namespace Lw
open PySem Fu
local macro_rules | `(tactic| walk_at "e1") => `(tactic| first
  | with_reducible refine eo_seq ?_ | (with_reducible refine then_nx' ?_; refine ⟨?_, ?_, ?_⟩; rotate_left; · (try dsimp only [List.set, List.length_cons, List.length_nil, List.cons_append, List.nil_append, Nat.zero_add, Nat.reduceAdd]); exact rfl) | with_reducible refine then_rt ?_ | with_reducible refine eo_if ?_ | with_reducible refine eo_ret ?_ | with_reducible refine eo_set ?_ | with_reducible refine eo_asg ?_ | with_reducible refine eo_drop ?_ | with_reducible refine eo_nx ?_ | with_reducible refine eo_par ?_ | with_reducible refine eo_own ?_ | with_reducible refine eo_retN ?_ | with_reducible refine eo_for ?_ | with_reducible refine eo_retO ?_
  | with_reducible refine ev_c ?_ | (with_reducible refine ev_var ?_; refine ⟨_, rfl, ?_⟩) | with_reducible refine ev_bin ?_ | with_reducible refine ev_un ?_ | with_reducible refine ev_nil ?_ | with_reducible refine ev_cons ?_
  | with_reducible refine ev_tup ?_ | with_reducible refine ev_lst ?_ | with_reducible refine ev_call ?_ | with_reducible refine ev_callF ?_ | with_reducible refine ev_isi ?_ | with_reducible refine ev_isi2 ?_ | with_reducible refine ev_andV ?_ | with_reducible refine ev_orV ?_ | with_reducible refine ev_notV ?_
  | with_reducible refine ev_B ?_ | with_reducible refine ev_and ?_ | with_reducible refine ev_or ?_ | with_reducible refine ev_not ?_ | with_reducible refine ev_yes ?_ | with_reducible refine ev_if ?_ | with_reducible refine ev_no ?_ | with_reducible refine ev_so ?_ | with_reducible refine ev_sl ?_ | with_reducible refine ev_items ?_
  | (with_reducible refine ev_ixO ?_; refine ⟨_, _, rfl, rfl, ?_⟩) | (with_reducible refine ev_varO ?_; refine ⟨_, _, rfl, rfl, ?_⟩) | (with_reducible refine ev_lenO ?_; refine ⟨_, _, rfl, rfl, ?_⟩) | (with_reducible refine ev_scrSl ?_; refine ⟨_, rfl, ?_⟩) | (with_reducible refine ev_scrLen ?_; refine ⟨_, rfl, ?_⟩) | (with_reducible refine ev_callScr ?_; refine ⟨_, rfl, ?_⟩) | (with_reducible refine ev_OL ?_; refine ⟨_, _, rfl, rfl, ?_⟩) | with_reducible refine ev_OR ?_ | with_reducible refine ev_rep ?_ | with_reducible refine ev_listRng1 ?_ | with_reducible refine eo_setO ?_
  | with_reducible refine es_name ?_ | with_reducible refine es_tup2 ?_ | with_reducible refine es_tup3 ?_
  | with_reducible refine ed_addI ?_ | with_reducible refine ed_subI ?_ | with_reducible refine ed_cmp ?_ | with_reducible refine ed_eqI ?_ | with_reducible refine ed_neI ?_ | with_reducible refine ed_slT ?_ | with_reducible refine ed_slL ?_ | with_reducible refine ed_lenT ?_ | with_reducible refine ed_lenL ?_ | with_reducible refine ed_lenS ?_ | with_reducible refine ed_inS ?_ | with_reducible refine ed_itT ?_ | with_reducible refine ed_itL ?_ | with_reducible refine ed_tupL ?_ | with_reducible refine ed_tupT ?_ | with_reducible refine ed_listL ?_ | with_reducible refine ed_listT ?_ | with_reducible refine ed_neg ?_ | with_reducible refine ed_max ?_ | with_reducible refine ed_min ?_ | with_reducible refine ed_intB ?_
  | with_reducible refine ev_rng1 ?_ | with_reducible refine ev_rng2 ?_)
local macro_rules | `(tactic| walk_at "sd") => `(tactic| first | rfl | assumption | (simp only [decide_eq_true_eq, decide_eq_false_iff_not, Bool.not_eq_true', Bool.not_eq_false', Bool.and_eq_true, Bool.or_eq_true, List.length_map, List.length_cons, List.length_nil, List.length_append, List.length_range] at *; omega))
local macro_rules | `(tactic| walk_at "e2") => `(tactic| first
  | walk_at "e1" | with_reducible refine ⟨_, rfl, ?_⟩ | with_reducible refine ⟨_, _, rfl, ?_⟩
  | with_reducible refine And.intro (Eq.refl (List.length _)) ?_ | with_reducible refine And.intro (Nat.le_of_ble_eq_true (n := List.length _) rfl) ?_
  | with_reducible refine And.intro (Eq.refl (_ : Sx)) (?_ : Ed _ _)
  | ((with_reducible refine And.intro ?_ (And.intro ?_ (?_ : Ev _ _))); (· rfl); (· rfl))
  | ((with_reducible refine ed_ixT ?_ ?_ ?_); (· decide); (· rfl)) | ((with_reducible refine ed_ixL ?_ ?_ ?_); (· decide); (· rfl)) | ((with_reducible refine ed_at ?_ ?_ ?_); (· decide); (· rfl))
  | ((with_reducible refine ed_modI ?_ ?_); (· first | decide | omega))
  | with_reducible exact gives_nx | ((with_reducible refine gives_rt ?_); (· rfl)) | ((with_reducible refine And.intro ?_ ?_); (· exact rfl); (· with_reducible exact Eq.refl (_ : Sx))))
local macro_rules | `(tactic| walk_at "e") => `(tactic| repeat walk_at "e2")
/-- begin a def's spec -/
local macro_rules | `(tactic| walk_at "i") => `(tactic| simp only [initS, List.map_cons, List.map_nil, List.length_cons, List.length_nil, Nat.reduceAdd, Nat.reduceSub, List.replicate, List.cons_append, List.nil_append])
/-- a known truth decides -/
local macro_rules | `(tactic| walk_at "t") => `(tactic| first | ((with_reducible refine split_t ?_ ?_); (· walk_at "sd")) | ((with_reducible refine split_t' ?_ ?_); (· walk_at "sd")))
local macro_rules | `(tactic| walk_at "f") => `(tactic| first | ((with_reducible refine split_f ?_ ?_); (· walk_at "sd")) | ((with_reducible refine split_f' ?_ ?_); (· walk_at "sd")))
/-- all that is seen in a look -/
local macro_rules | `(tactic| walk_at "v") => `(tactic| (rw [sealAll_mk (by (simp only [List.set_cons_zero, List.set_cons_succ, List.map_cons, List.map_nil, sealS_none, sealS_dat, sealS_scr, sealS_own, List.getElem?_cons_zero, List.getElem?_cons_succ, sealC_lst]; rfl)) (by (simp only [List.set_cons_zero, List.set_cons_succ, List.map_cons, List.map_nil]; rfl))]))
namespace Sp
end Sp
end Lw

set_option maxHeartbeats 4000000
namespace Lw
open PySem Fu
local macro_rules | `(tactic| walk_at "e1") => `(tactic| first
  | with_reducible refine eo_seq ?_ | (with_reducible refine then_nx' ?_; refine ⟨?_, ?_, ?_⟩; rotate_left; · (try dsimp only [List.set, List.length_cons, List.length_nil, List.cons_append, List.nil_append, Nat.zero_add, Nat.reduceAdd]); exact rfl) | with_reducible refine then_rt ?_ | with_reducible refine eo_if ?_ | with_reducible refine eo_ret ?_ | with_reducible refine eo_set ?_ | with_reducible refine eo_asg ?_ | with_reducible refine eo_drop ?_ | with_reducible refine eo_nx ?_ | with_reducible refine eo_par ?_ | with_reducible refine eo_own ?_ | with_reducible refine eo_retN ?_ | with_reducible refine eo_for ?_ | with_reducible refine eo_retO ?_
  | with_reducible refine ev_c ?_ | (with_reducible refine ev_var ?_; refine ⟨_, rfl, ?_⟩) | with_reducible refine ev_bin ?_ | with_reducible refine ev_un ?_ | with_reducible refine ev_nil ?_ | with_reducible refine ev_cons ?_
  | with_reducible refine ev_tup ?_ | with_reducible refine ev_lst ?_ | with_reducible refine ev_call ?_ | with_reducible refine ev_callF ?_ | with_reducible refine ev_isi ?_ | with_reducible refine ev_isi2 ?_ | with_reducible refine ev_andV ?_ | with_reducible refine ev_orV ?_ | with_reducible refine ev_notV ?_
  | with_reducible refine ev_B ?_ | with_reducible refine ev_and ?_ | with_reducible refine ev_or ?_ | with_reducible refine ev_not ?_ | with_reducible refine ev_yes ?_ | with_reducible refine ev_if ?_ | with_reducible refine ev_no ?_ | with_reducible refine ev_so ?_ | with_reducible refine ev_sl ?_ | with_reducible refine ev_items ?_
  | (with_reducible refine ev_ixO ?_; refine ⟨_, _, rfl, rfl, ?_⟩) | (with_reducible refine ev_varO ?_; refine ⟨_, _, rfl, rfl, ?_⟩) | (with_reducible refine ev_lenO ?_; refine ⟨_, _, rfl, rfl, ?_⟩) | (with_reducible refine ev_scrSl ?_; refine ⟨_, rfl, ?_⟩) | (with_reducible refine ev_scrLen ?_; refine ⟨_, rfl, ?_⟩) | (with_reducible refine ev_callScr ?_; refine ⟨_, rfl, ?_⟩) | (with_reducible refine ev_OL ?_; refine ⟨_, _, rfl, rfl, ?_⟩) | with_reducible refine ev_OR ?_ | with_reducible refine ev_rep ?_ | with_reducible refine ev_listRng1 ?_ | with_reducible refine eo_setO ?_
  | with_reducible refine es_name ?_ | with_reducible refine es_tup2 ?_ | with_reducible refine es_tup3 ?_
  | with_reducible refine ed_addI ?_ | with_reducible refine ed_subI ?_ | with_reducible refine ed_cmp ?_ | with_reducible refine ed_eqI ?_ | with_reducible refine ed_neI ?_ | with_reducible refine ed_slT ?_ | with_reducible refine ed_slL ?_ | with_reducible refine ed_lenT ?_ | with_reducible refine ed_lenL ?_ | with_reducible refine ed_lenS ?_ | with_reducible refine ed_inS ?_ | with_reducible refine ed_itT ?_ | with_reducible refine ed_itL ?_ | with_reducible refine ed_tupL ?_ | with_reducible refine ed_tupT ?_ | with_reducible refine ed_listL ?_ | with_reducible refine ed_listT ?_ | with_reducible refine ed_neg ?_ | with_reducible refine ed_max ?_ | with_reducible refine ed_min ?_ | with_reducible refine ed_intB ?_
  | with_reducible refine ev_rng1 ?_ | with_reducible refine ev_rng2 ?_)
local macro_rules | `(tactic| walk_at "sd") => `(tactic| first | rfl | assumption | (simp only [decide_eq_true_eq, decide_eq_false_iff_not, Bool.not_eq_true', Bool.not_eq_false', Bool.and_eq_true, Bool.or_eq_true, List.length_map, List.length_cons, List.length_nil, List.length_append, List.length_range] at *; omega))
local macro_rules | `(tactic| walk_at "e2") => `(tactic| first
  | walk_at "e1" | with_reducible refine ⟨_, rfl, ?_⟩ | with_reducible refine ⟨_, _, rfl, ?_⟩
  | with_reducible refine And.intro (Eq.refl (List.length _)) ?_ | with_reducible refine And.intro (Nat.le_of_ble_eq_true (n := List.length _) rfl) ?_
  | with_reducible refine And.intro (Eq.refl (_ : Sx)) (?_ : Ed _ _)
  | ((with_reducible refine And.intro ?_ (And.intro ?_ (?_ : Ev _ _))); (· rfl); (· rfl))
  | ((with_reducible refine ed_ixT ?_ ?_ ?_); (· decide); (· rfl)) | ((with_reducible refine ed_ixL ?_ ?_ ?_); (· decide); (· rfl)) | ((with_reducible refine ed_at ?_ ?_ ?_); (· decide); (· rfl))
  | ((with_reducible refine ed_modI ?_ ?_); (· first | decide | omega))
  | with_reducible exact gives_nx | ((with_reducible refine gives_rt ?_); (· rfl)) | ((with_reducible refine And.intro ?_ ?_); (· exact rfl); (· with_reducible exact Eq.refl (_ : Sx))))
local macro_rules | `(tactic| walk_at "e") => `(tactic| repeat walk_at "e2")
/-- begin a def's spec -/
local macro_rules | `(tactic| walk_at "i") => `(tactic| simp only [initS, List.map_cons, List.map_nil, List.length_cons, List.length_nil, Nat.reduceAdd, Nat.reduceSub, List.replicate, List.cons_append, List.nil_append])
/-- a known truth decides -/
local macro_rules | `(tactic| walk_at "t") => `(tactic| first | ((with_reducible refine split_t ?_ ?_); (· walk_at "sd")) | ((with_reducible refine split_t' ?_ ?_); (· walk_at "sd")))
local macro_rules | `(tactic| walk_at "f") => `(tactic| first | ((with_reducible refine split_f ?_ ?_); (· walk_at "sd")) | ((with_reducible refine split_f' ?_ ?_); (· walk_at "sd")))
/-- all that is seen in a look -/
local macro_rules | `(tactic| walk_at "v") => `(tactic| (rw [sealAll_mk (by (simp only [List.set_cons_zero, List.set_cons_succ, List.map_cons, List.map_nil, sealS_none, sealS_dat, sealS_scr, sealS_own, List.getElem?_cons_zero, List.getElem?_cons_succ, sealC_lst]; rfl)) (by (simp only [List.set_cons_zero, List.set_cons_succ, List.map_cons, List.map_nil]; rfl))]))
namespace Sp
end Sp
end Lw

set_option maxHeartbeats 4000000
namespace Lw
open PySem Fu
local macro_rules | `(tactic| walk_at "e1") => `(tactic| first
  | with_reducible refine eo_seq ?_ | (with_reducible refine then_nx' ?_; refine ⟨?_, ?_, ?_⟩; rotate_left; · (try dsimp only [List.set, List.length_cons, List.length_nil, List.cons_append, List.nil_append, Nat.zero_add, Nat.reduceAdd]); exact rfl) | with_reducible refine then_rt ?_ | with_reducible refine eo_if ?_ | with_reducible refine eo_ret ?_ | with_reducible refine eo_set ?_ | with_reducible refine eo_asg ?_ | with_reducible refine eo_drop ?_ | with_reducible refine eo_nx ?_ | with_reducible refine eo_par ?_ | with_reducible refine eo_own ?_ | with_reducible refine eo_retN ?_ | with_reducible refine eo_for ?_ | with_reducible refine eo_retO ?_
  | with_reducible refine ev_c ?_ | (with_reducible refine ev_var ?_; refine ⟨_, rfl, ?_⟩) | with_reducible refine ev_bin ?_ | with_reducible refine ev_un ?_ | with_reducible refine ev_nil ?_ | with_reducible refine ev_cons ?_
  | with_reducible refine ev_tup ?_ | with_reducible refine ev_lst ?_ | with_reducible refine ev_call ?_ | with_reducible refine ev_callF ?_ | with_reducible refine ev_isi ?_ | with_reducible refine ev_isi2 ?_ | with_reducible refine ev_andV ?_ | with_reducible refine ev_orV ?_ | with_reducible refine ev_notV ?_
  | with_reducible refine ev_B ?_ | with_reducible refine ev_and ?_ | with_reducible refine ev_or ?_ | with_reducible refine ev_not ?_ | with_reducible refine ev_yes ?_ | with_reducible refine ev_if ?_ | with_reducible refine ev_no ?_ | with_reducible refine ev_so ?_ | with_reducible refine ev_sl ?_ | with_reducible refine ev_items ?_
  | (with_reducible refine ev_ixO ?_; refine ⟨_, _, rfl, rfl, ?_⟩) | (with_reducible refine ev_varO ?_; refine ⟨_, _, rfl, rfl, ?_⟩) | (with_reducible refine ev_lenO ?_; refine ⟨_, _, rfl, rfl, ?_⟩) | (with_reducible refine ev_scrSl ?_; refine ⟨_, rfl, ?_⟩) | (with_reducible refine ev_scrLen ?_; refine ⟨_, rfl, ?_⟩) | (with_reducible refine ev_callScr ?_; refine ⟨_, rfl, ?_⟩) | (with_reducible refine ev_OL ?_; refine ⟨_, _, rfl, rfl, ?_⟩) | with_reducible refine ev_OR ?_ | with_reducible refine ev_rep ?_ | with_reducible refine ev_listRng1 ?_ | with_reducible refine eo_setO ?_
  | with_reducible refine es_name ?_ | with_reducible refine es_tup2 ?_ | with_reducible refine es_tup3 ?_
  | with_reducible refine ed_addI ?_ | with_reducible refine ed_subI ?_ | with_reducible refine ed_cmp ?_ | with_reducible refine ed_eqI ?_ | with_reducible refine ed_neI ?_ | with_reducible refine ed_slT ?_ | with_reducible refine ed_slL ?_ | with_reducible refine ed_lenT ?_ | with_reducible refine ed_lenL ?_ | with_reducible refine ed_lenS ?_ | with_reducible refine ed_inS ?_ | with_reducible refine ed_itT ?_ | with_reducible refine ed_itL ?_ | with_reducible refine ed_tupL ?_ | with_reducible refine ed_tupT ?_ | with_reducible refine ed_listL ?_ | with_reducible refine ed_listT ?_ | with_reducible refine ed_neg ?_ | with_reducible refine ed_max ?_ | with_reducible refine ed_min ?_ | with_reducible refine ed_intB ?_
  | with_reducible refine ev_rng1 ?_ | with_reducible refine ev_rng2 ?_)
local macro_rules | `(tactic| walk_at "sd") => `(tactic| first | rfl | assumption | (simp only [decide_eq_true_eq, decide_eq_false_iff_not, Bool.not_eq_true', Bool.not_eq_false', Bool.and_eq_true, Bool.or_eq_true, List.length_map, List.length_cons, List.length_nil, List.length_append, List.length_range] at *; omega))
local macro_rules | `(tactic| walk_at "e2") => `(tactic| first
  | walk_at "e1" | with_reducible refine ⟨_, rfl, ?_⟩ | with_reducible refine ⟨_, _, rfl, ?_⟩
  | with_reducible refine And.intro (Eq.refl (List.length _)) ?_ | with_reducible refine And.intro (Nat.le_of_ble_eq_true (n := List.length _) rfl) ?_
  | with_reducible refine And.intro (Eq.refl (_ : Sx)) (?_ : Ed _ _)
  | ((with_reducible refine And.intro ?_ (And.intro ?_ (?_ : Ev _ _))); (· rfl); (· rfl))
  | ((with_reducible refine ed_ixT ?_ ?_ ?_); (· decide); (· rfl)) | ((with_reducible refine ed_ixL ?_ ?_ ?_); (· decide); (· rfl)) | ((with_reducible refine ed_at ?_ ?_ ?_); (· decide); (· rfl))
  | ((with_reducible refine ed_modI ?_ ?_); (· first | decide | omega))
  | with_reducible exact gives_nx | ((with_reducible refine gives_rt ?_); (· rfl)) | ((with_reducible refine And.intro ?_ ?_); (· exact rfl); (· with_reducible exact Eq.refl (_ : Sx))))
local macro_rules | `(tactic| walk_at "e") => `(tactic| repeat walk_at "e2")
/-- begin a def's spec -/
local macro_rules | `(tactic| walk_at "i") => `(tactic| simp only [initS, List.map_cons, List.map_nil, List.length_cons, List.length_nil, Nat.reduceAdd, Nat.reduceSub, List.replicate, List.cons_append, List.nil_append])
/-- a known truth decides -/
local macro_rules | `(tactic| walk_at "t") => `(tactic| first | ((with_reducible refine split_t ?_ ?_); (· walk_at "sd")) | ((with_reducible refine split_t' ?_ ?_); (· walk_at "sd")))
local macro_rules | `(tactic| walk_at "f") => `(tactic| first | ((with_reducible refine split_f ?_ ?_); (· walk_at "sd")) | ((with_reducible refine split_f' ?_ ?_); (· walk_at "sd")))
/-- all that is seen in a look -/
local macro_rules | `(tactic| walk_at "v") => `(tactic| (rw [sealAll_mk (by (simp only [List.set_cons_zero, List.set_cons_succ, List.map_cons, List.map_nil, sealS_none, sealS_dat, sealS_scr, sealS_own, List.getElem?_cons_zero, List.getElem?_cons_succ, sealC_lst]; rfl)) (by (simp only [List.set_cons_zero, List.set_cons_succ, List.map_cons, List.map_nil]; rfl))]))
theorem ends_small {ls : List Ln} {p : Int} {es : List (Int × Int)} (hk : WbOk p ls) (h : ∀ e ∈ es, EndOk ls.length e) : ∀ e ∈ es, e.1.natAbs < 10 ^ 12 ∧ e.2.natAbs < 10 ^ 12 := fun e he => by
  obtain ⟨a, b, c, d⟩ := h e he
  have := hk.len
  omega
namespace Sp
end Sp
end Lw

set_option maxHeartbeats 4000000
namespace Lw
open PySem Fu
local macro_rules | `(tactic| walk_at "e1") => `(tactic| first
  | with_reducible refine eo_seq ?_ | (with_reducible refine then_nx' ?_; refine ⟨?_, ?_, ?_⟩; rotate_left; · (try dsimp only [List.set, List.length_cons, List.length_nil, List.cons_append, List.nil_append, Nat.zero_add, Nat.reduceAdd]); exact rfl) | with_reducible refine then_rt ?_ | with_reducible refine eo_if ?_ | with_reducible refine eo_ret ?_ | with_reducible refine eo_set ?_ | with_reducible refine eo_asg ?_ | with_reducible refine eo_drop ?_ | with_reducible refine eo_nx ?_ | with_reducible refine eo_par ?_ | with_reducible refine eo_own ?_ | with_reducible refine eo_retN ?_ | with_reducible refine eo_for ?_ | with_reducible refine eo_retO ?_
  | with_reducible refine ev_c ?_ | (with_reducible refine ev_var ?_; refine ⟨_, rfl, ?_⟩) | with_reducible refine ev_bin ?_ | with_reducible refine ev_un ?_ | with_reducible refine ev_nil ?_ | with_reducible refine ev_cons ?_
  | with_reducible refine ev_tup ?_ | with_reducible refine ev_lst ?_ | with_reducible refine ev_call ?_ | with_reducible refine ev_callF ?_ | with_reducible refine ev_isi ?_ | with_reducible refine ev_isi2 ?_ | with_reducible refine ev_andV ?_ | with_reducible refine ev_orV ?_ | with_reducible refine ev_notV ?_
  | with_reducible refine ev_B ?_ | with_reducible refine ev_and ?_ | with_reducible refine ev_or ?_ | with_reducible refine ev_not ?_ | with_reducible refine ev_yes ?_ | with_reducible refine ev_if ?_ | with_reducible refine ev_no ?_ | with_reducible refine ev_so ?_ | with_reducible refine ev_sl ?_ | with_reducible refine ev_items ?_
  | (with_reducible refine ev_ixO ?_; refine ⟨_, _, rfl, rfl, ?_⟩) | (with_reducible refine ev_varO ?_; refine ⟨_, _, rfl, rfl, ?_⟩) | (with_reducible refine ev_lenO ?_; refine ⟨_, _, rfl, rfl, ?_⟩) | (with_reducible refine ev_scrSl ?_; refine ⟨_, rfl, ?_⟩) | (with_reducible refine ev_scrLen ?_; refine ⟨_, rfl, ?_⟩) | (with_reducible refine ev_callScr ?_; refine ⟨_, rfl, ?_⟩) | (with_reducible refine ev_OL ?_; refine ⟨_, _, rfl, rfl, ?_⟩) | with_reducible refine ev_OR ?_ | with_reducible refine ev_rep ?_ | with_reducible refine ev_listRng1 ?_ | with_reducible refine eo_setO ?_
  | with_reducible refine es_name ?_ | with_reducible refine es_tup2 ?_ | with_reducible refine es_tup3 ?_
  | with_reducible refine ed_addI ?_ | with_reducible refine ed_subI ?_ | with_reducible refine ed_cmp ?_ | with_reducible refine ed_eqI ?_ | with_reducible refine ed_neI ?_ | with_reducible refine ed_slT ?_ | with_reducible refine ed_slL ?_ | with_reducible refine ed_lenT ?_ | with_reducible refine ed_lenL ?_ | with_reducible refine ed_lenS ?_ | with_reducible refine ed_inS ?_ | with_reducible refine ed_itT ?_ | with_reducible refine ed_itL ?_ | with_reducible refine ed_tupL ?_ | with_reducible refine ed_tupT ?_ | with_reducible refine ed_listL ?_ | with_reducible refine ed_listT ?_ | with_reducible refine ed_neg ?_ | with_reducible refine ed_max ?_ | with_reducible refine ed_min ?_ | with_reducible refine ed_intB ?_
  | with_reducible refine ev_rng1 ?_ | with_reducible refine ev_rng2 ?_)
local macro_rules | `(tactic| walk_at "sd") => `(tactic| first | rfl | assumption | (simp only [decide_eq_true_eq, decide_eq_false_iff_not, Bool.not_eq_true', Bool.not_eq_false', Bool.and_eq_true, Bool.or_eq_true, List.length_map, List.length_cons, List.length_nil, List.length_append, List.length_range] at *; omega))
local macro_rules | `(tactic| walk_at "e2") => `(tactic| first
  | walk_at "e1" | with_reducible refine ⟨_, rfl, ?_⟩ | with_reducible refine ⟨_, _, rfl, ?_⟩
  | with_reducible refine And.intro (Eq.refl (List.length _)) ?_ | with_reducible refine And.intro (Nat.le_of_ble_eq_true (n := List.length _) rfl) ?_
  | with_reducible refine And.intro (Eq.refl (_ : Sx)) (?_ : Ed _ _)
  | ((with_reducible refine And.intro ?_ (And.intro ?_ (?_ : Ev _ _))); (· rfl); (· rfl))
  | ((with_reducible refine ed_ixT ?_ ?_ ?_); (· decide); (· rfl)) | ((with_reducible refine ed_ixL ?_ ?_ ?_); (· decide); (· rfl)) | ((with_reducible refine ed_at ?_ ?_ ?_); (· decide); (· rfl))
  | ((with_reducible refine ed_modI ?_ ?_); (· first | decide | omega))
  | with_reducible exact gives_nx | ((with_reducible refine gives_rt ?_); (· rfl)) | ((with_reducible refine And.intro ?_ ?_); (· exact rfl); (· with_reducible exact Eq.refl (_ : Sx))))
local macro_rules | `(tactic| walk_at "e") => `(tactic| repeat walk_at "e2")
/-- begin a def's spec -/
local macro_rules | `(tactic| walk_at "i") => `(tactic| simp only [initS, List.map_cons, List.map_nil, List.length_cons, List.length_nil, Nat.reduceAdd, Nat.reduceSub, List.replicate, List.cons_append, List.nil_append])
/-- a known truth decides -/
local macro_rules | `(tactic| walk_at "t") => `(tactic| first | ((with_reducible refine split_t ?_ ?_); (· walk_at "sd")) | ((with_reducible refine split_t' ?_ ?_); (· walk_at "sd")))
local macro_rules | `(tactic| walk_at "f") => `(tactic| first | ((with_reducible refine split_f ?_ ?_); (· walk_at "sd")) | ((with_reducible refine split_f' ?_ ?_); (· walk_at "sd")))
/-- all that is seen in a look -/
local macro_rules | `(tactic| walk_at "v") => `(tactic| (rw [sealAll_mk (by (simp only [List.set_cons_zero, List.set_cons_succ, List.map_cons, List.map_nil, sealS_none, sealS_dat, sealS_scr, sealS_own, List.getElem?_cons_zero, List.getElem?_cons_succ, sealC_lst]; rfl)) (by (simp only [List.set_cons_zero, List.set_cons_succ, List.map_cons, List.map_nil]; rfl))]))
def GivesP (P : D → Prop) : Out → Prop
  | .rt d _ => P d
  | .nx _ => P .none
  | _ => False
theorem mF_ofP {n : Nat} {g : Sx → Option Out} {ds : List D} {P : D → Prop} (h : Eo (g ⟨initS n ds, []⟩) (GivesP P)) : ∃ d, mF n g ds = some d ∧ P d := by
  obtain ⟨o, e, q⟩ := h
  unfold mF
  rw [e]
  cases o with
  | nx S => exact ⟨_, rfl, q⟩
  | rt d S => exact ⟨_, rfl, q⟩
  | _ => exact q.elim
namespace Bg
/-! ### the bag -/
structure Bag (b : Nat) (cs : List D) : Prop where
  ex : ∃ (ns : List Int) (pos : Nat) (rest cnt total : Int), cs = [.list (ns.map .int), .int pos, .int rest, .int cnt, .int total] ∧ ns.length ≤ 63 ∧ pos ≤ ns.length ∧ 0 ≤ rest ∧ 0 ≤ cnt ∧ cnt + b ≤ 4294967296 ∧ 0 ≤ total ∧ total < 2305843009213693951
theorem Bag.mono {a b : Nat} {cs : List D} (h : Bag a cs) (l : b ≤ a) : Bag b cs := by
  obtain ⟨f, s, n, t, u, h1, h2, h3, h4, h5, h6, h7⟩ := h
  exact ⟨f, s, n, t, u, h1, h2, h3, h4, h5, by omega, h7⟩
theorem x__law_stir {a p : Int} (a0 : 0 ≤ a) (a1 : a < 2305843009213693951) (p0 : 0 ≤ p) (p1 : p ≤ 4294967296) : ∃ v, m__law_stir [.int a, .int p] = some (.int v) ∧ 0 ≤ v := by
  have hp : p * p ≤ 4294967296 * 4294967296 := Int.mul_le_mul p1 p1 p0 (by decide)
  have hp0 : 0 ≤ p * p := Int.mul_nonneg p0 p0
  have key : ∃ v, m__law_stir [.int a, .int p] = some v ∧ ∃ n : Int, v = .int n ∧ 0 ≤ n := by
    unfold m__law_stir; refine mF_ofP ?_; walk_at "i"; unfold g__law_stir
    walk_at "e"
    refine ed_mulI (Sp.mulW ⟨by omega, by omega⟩ ⟨by decide, by decide⟩) ?_
    walk_at "e"
    refine ed_mulI (Sp.mulW ⟨by omega, by omega⟩ ⟨by decide, by decide⟩) ?_
    walk_at "e"
    generalize hx : (a * 998244353 + p * 1000000007 + 5) % 2305843009213693951 = x
    have x0 : 0 ≤ x := hx ▸ Int.emod_nonneg _ (by decide)
    have x1 : x < 2305843009213693951 := hx ▸ Int.emod_lt_of_pos _ (by decide)
    refine ed_mulI (Sp.mulW ⟨by omega, by omega⟩ ⟨by omega, by omega⟩) ?_
    walk_at "e"
    generalize hy : x * x % 2305843009213693951 = y
    have y0 : 0 ≤ y := hy ▸ Int.emod_nonneg _ (by decide)
    have y1 : y < 2305843009213693951 := hy ▸ Int.emod_lt_of_pos _ (by decide)
    refine ed_mulI (Sp.mulW ⟨by omega, by omega⟩ ⟨by decide, by decide⟩) ?_
    walk_at "e"
    refine ed_mulI (Sp.mulW ⟨by omega, by omega⟩ ⟨by omega, by omega⟩) ?_
    walk_at "e"
    refine ed_mulI (Sp.mulW ⟨by omega, by omega⟩ ⟨by decide, by decide⟩) ?_
    walk_at "e"
    refine ed_divI (Sp.divW ⟨by decide, by decide⟩) ?_
    walk_at "e"
    refine ed_divI (Sp.divW ⟨by decide, by decide⟩) ?_
    walk_at "e"
    exact ⟨_, rfl, Int.ediv_nonneg (Int.emod_nonneg _ (by decide)) (by decide)⟩
  obtain ⟨v, e, n, rfl, h⟩ := key
  exact ⟨n, e, h⟩
theorem ed_atN {ns : List Int} {i : Nat} {Q : D → Prop} (hi : i < ns.length) (q : ∀ c, c ∈ ns → Q (.int c)) : Ed (dIx (.list (ns.map PyData.int)) (.int i)) Q := by
  refine ed_ixL (by omega) (d := .int ns[i]) ?_ (q _ (List.getElem_mem _))
  rw [Int.toNat_natCast, List.getElem?_map, List.getElem?_eq_getElem hi]; rfl
theorem x_drawB {b : Nat} {cs : List D} {many : Int} (h : Bag (b + 1) cs) (m0 : 0 < many) (m1 : many ≤ 4294967296) : ∃ d cs', m__law_draw_k32 cs [.int many] = some (d, cs') ∧ ∃ v, d = .int v ∧ 0 ≤ v ∧ v < many ∧ Bag b cs' := by
  obtain ⟨ns, pos, rest, cnt, total, rfl, hn, hp, r0, c0, c1, t0, t1⟩ := h
  unfold m__law_draw_k32; refine mIO_of ?_; walk_at "i"; unfold g__law_draw_k32
  walk_at "e"
  refine ⟨fun ht => ?_, fun ht => ?_⟩
  · walk_at "e"
    have : many = 1 := by simpa using ht
    exact ⟨_, rfl, 0, rfl, by decide, by omega, ns, pos, rest, cnt, total, rfl, hn, hp, r0, c0, by omega, t0, t1⟩
  walk_at "e"
  refine ed_at (by decide) rfl ?_
  walk_at "e"
  refine ⟨0, _, rfl, rfl, ?_⟩
  walk_at "e"
  refine ⟨rfl, 3, rfl, by simp, ?_⟩
  walk_at "e"
  refine ed_at (by decide) rfl ?_
  walk_at "e"
  have mod0 := Int.emod_nonneg
  refine ⟨fun h2 => ?_, fun h2 => ?_⟩
  · walk_at "e"
    refine ed_at (by decide) rfl ?_
    walk_at "e"
    refine ed_at (by decide) rfl ?_
    walk_at "e"
    refine ⟨fun h3 => ?_, fun h3 => ?_⟩
    · walk_at "e"
      refine ed_at (by decide) rfl ?_
      walk_at "e"
      refine ed_at (by decide) rfl ?_
      walk_at "e"
      obtain ⟨v, e, v0⟩ := x__law_stir (a := total) (p := cnt + 1) t0 t1 (by omega) (by omega)
      refine Ed.of e ?_
      walk_at "e"
      exact ⟨_, rfl, _, rfl, Int.emod_nonneg _ (by omega), Int.emod_lt_of_pos _ m0, ns, pos, rest, cnt + 1, total, rfl, hn, hp, r0, by omega, by omega, t0, t1⟩
    · have hlt : pos < ns.length := by
        have : ¬ (pos : Int) = ns.length := by simpa using h3
        omega
      walk_at "e"
      refine ed_at (by decide) rfl ?_
      walk_at "e"
      walk_at "t"
      walk_at "e"
      refine ed_at (by decide) rfl ?_
      walk_at "e"
      refine ed_at (by decide) rfl ?_
      walk_at "e"
      refine ed_atN hlt fun c _ => ?_
      walk_at "e"
      refine ed_at (by decide) rfl ?_
      walk_at "e"
      refine ⟨0, _, rfl, rfl, ?_⟩
      walk_at "e"
      refine ⟨rfl, 1, rfl, by simp, ?_⟩
      walk_at "e"
      refine ed_powI (by decide) ?_
      walk_at "e"
      refine ⟨fun h4 => ?_, fun h4 => ?_⟩
      · walk_at "e"
        refine ed_at (by decide) rfl ?_
        walk_at "e"
        obtain ⟨v, e, v0⟩ := x__law_stir (a := c % 2305843009213693951) (p := cnt + 1) (Int.emod_nonneg _ (by decide)) (Int.emod_lt_of_pos _ (by decide)) (by omega) (by omega)
        refine Ed.of e ?_
        walk_at "e"
        exact ⟨_, rfl, _, rfl, Int.emod_nonneg _ (by omega), Int.emod_lt_of_pos _ m0, ns, pos + 1, rest, cnt + 1, total, rfl, hn, by omega, r0, by omega, by omega, t0, t1⟩
      · walk_at "e"
        refine ed_powI (by decide) ?_
        walk_at "e"
        refine ⟨0, _, rfl, rfl, ?_⟩
        walk_at "e"
        refine ⟨rfl, 2, rfl, by simp, ?_⟩
        walk_at "e"
        refine ed_at (by decide) rfl ?_
        walk_at "e"
        refine ed_at (by decide) rfl ?_
        walk_at "e"
        refine ed_divI (Sp.divW ⟨m0, by omega⟩) ?_
        refine ⟨0, _, rfl, rfl, ?_⟩
        walk_at "e"
        refine ⟨rfl, 2, rfl, by simp, ?_⟩
        walk_at "e"
        have h4 : ¬ (c < 10 ^ 18) := by simpa using h4
        exact ⟨_, rfl, _, rfl, Int.emod_nonneg _ (by omega), Int.emod_lt_of_pos _ m0, ns, pos + 1, (c - 10 ^ 18) / many, cnt + 1, total, rfl, hn, by omega, Int.ediv_nonneg (by show (0 : Int) ≤ c - 10 ^ 18; omega) (by omega), by omega, by omega, t0, t1⟩
  · walk_at "e"
    walk_at "f"
    walk_at "e"
    refine ed_at (by decide) rfl ?_
    walk_at "e"
    walk_at "f"
    walk_at "e"
    refine ed_at (by decide) rfl ?_
    walk_at "e"
    refine ed_at (by decide) rfl ?_
    walk_at "e"
    refine ed_divI (Sp.divW ⟨m0, by omega⟩) ?_
    refine ⟨0, _, rfl, rfl, ?_⟩
    walk_at "e"
    refine ⟨rfl, 2, rfl, by simp, ?_⟩
    walk_at "e"
    exact ⟨_, rfl, _, rfl, Int.emod_nonneg _ (by omega), Int.emod_lt_of_pos _ m0, ns, pos, _, cnt + 1, total, rfl, hn, hp, Int.ediv_nonneg r0 (by omega), by omega, by omega, t0, t1⟩
end Bg
end Lw

set_option maxHeartbeats 4000000
namespace Lw
open PySem Fu
local macro_rules | `(tactic| walk_at "e1") => `(tactic| first
  | with_reducible refine eo_seq ?_ | (with_reducible refine then_nx' ?_; refine ⟨?_, ?_, ?_⟩; rotate_left; · (try dsimp only [List.set, List.length_cons, List.length_nil, List.cons_append, List.nil_append, Nat.zero_add, Nat.reduceAdd]); exact rfl) | with_reducible refine then_rt ?_ | with_reducible refine eo_if ?_ | with_reducible refine eo_ret ?_ | with_reducible refine eo_set ?_ | with_reducible refine eo_asg ?_ | with_reducible refine eo_drop ?_ | with_reducible refine eo_nx ?_ | with_reducible refine eo_par ?_ | with_reducible refine eo_own ?_ | with_reducible refine eo_retN ?_ | with_reducible refine eo_for ?_ | with_reducible refine eo_retO ?_
  | with_reducible refine ev_c ?_ | (with_reducible refine ev_var ?_; refine ⟨_, rfl, ?_⟩) | with_reducible refine ev_bin ?_ | with_reducible refine ev_un ?_ | with_reducible refine ev_nil ?_ | with_reducible refine ev_cons ?_
  | with_reducible refine ev_tup ?_ | with_reducible refine ev_lst ?_ | with_reducible refine ev_call ?_ | with_reducible refine ev_callF ?_ | with_reducible refine ev_isi ?_ | with_reducible refine ev_isi2 ?_ | with_reducible refine ev_andV ?_ | with_reducible refine ev_orV ?_ | with_reducible refine ev_notV ?_
  | with_reducible refine ev_B ?_ | with_reducible refine ev_and ?_ | with_reducible refine ev_or ?_ | with_reducible refine ev_not ?_ | with_reducible refine ev_yes ?_ | with_reducible refine ev_if ?_ | with_reducible refine ev_no ?_ | with_reducible refine ev_so ?_ | with_reducible refine ev_sl ?_ | with_reducible refine ev_items ?_
  | (with_reducible refine ev_ixO ?_; refine ⟨_, _, rfl, rfl, ?_⟩) | (with_reducible refine ev_varO ?_; refine ⟨_, _, rfl, rfl, ?_⟩) | (with_reducible refine ev_lenO ?_; refine ⟨_, _, rfl, rfl, ?_⟩) | (with_reducible refine ev_scrSl ?_; refine ⟨_, rfl, ?_⟩) | (with_reducible refine ev_scrLen ?_; refine ⟨_, rfl, ?_⟩) | (with_reducible refine ev_callScr ?_; refine ⟨_, rfl, ?_⟩) | (with_reducible refine ev_OL ?_; refine ⟨_, _, rfl, rfl, ?_⟩) | with_reducible refine ev_OR ?_ | with_reducible refine ev_rep ?_ | with_reducible refine ev_listRng1 ?_ | with_reducible refine eo_setO ?_
  | with_reducible refine es_name ?_ | with_reducible refine es_tup2 ?_ | with_reducible refine es_tup3 ?_
  | with_reducible refine ed_addI ?_ | with_reducible refine ed_subI ?_ | with_reducible refine ed_cmp ?_ | with_reducible refine ed_eqI ?_ | with_reducible refine ed_neI ?_ | with_reducible refine ed_slT ?_ | with_reducible refine ed_slL ?_ | with_reducible refine ed_lenT ?_ | with_reducible refine ed_lenL ?_ | with_reducible refine ed_lenS ?_ | with_reducible refine ed_inS ?_ | with_reducible refine ed_itT ?_ | with_reducible refine ed_itL ?_ | with_reducible refine ed_tupL ?_ | with_reducible refine ed_tupT ?_ | with_reducible refine ed_listL ?_ | with_reducible refine ed_listT ?_ | with_reducible refine ed_neg ?_ | with_reducible refine ed_max ?_ | with_reducible refine ed_min ?_ | with_reducible refine ed_intB ?_
  | with_reducible refine ev_rng1 ?_ | with_reducible refine ev_rng2 ?_)
local macro_rules | `(tactic| walk_at "sd") => `(tactic| first | rfl | assumption | (simp only [decide_eq_true_eq, decide_eq_false_iff_not, Bool.not_eq_true', Bool.not_eq_false', Bool.and_eq_true, Bool.or_eq_true, List.length_map, List.length_cons, List.length_nil, List.length_append, List.length_range] at *; omega))
local macro_rules | `(tactic| walk_at "e2") => `(tactic| first
  | walk_at "e1" | with_reducible refine ⟨_, rfl, ?_⟩ | with_reducible refine ⟨_, _, rfl, ?_⟩
  | with_reducible refine And.intro (Eq.refl (List.length _)) ?_ | with_reducible refine And.intro (Nat.le_of_ble_eq_true (n := List.length _) rfl) ?_
  | with_reducible refine And.intro (Eq.refl (_ : Sx)) (?_ : Ed _ _)
  | ((with_reducible refine And.intro ?_ (And.intro ?_ (?_ : Ev _ _))); (· rfl); (· rfl))
  | ((with_reducible refine ed_ixT ?_ ?_ ?_); (· decide); (· rfl)) | ((with_reducible refine ed_ixL ?_ ?_ ?_); (· decide); (· rfl)) | ((with_reducible refine ed_at ?_ ?_ ?_); (· decide); (· rfl))
  | ((with_reducible refine ed_modI ?_ ?_); (· first | decide | omega))
  | with_reducible exact gives_nx | ((with_reducible refine gives_rt ?_); (· rfl)) | ((with_reducible refine And.intro ?_ ?_); (· exact rfl); (· with_reducible exact Eq.refl (_ : Sx))))
local macro_rules | `(tactic| walk_at "e") => `(tactic| repeat walk_at "e2")
/-- begin a def's spec -/
local macro_rules | `(tactic| walk_at "i") => `(tactic| simp only [initS, List.map_cons, List.map_nil, List.length_cons, List.length_nil, Nat.reduceAdd, Nat.reduceSub, List.replicate, List.cons_append, List.nil_append])
/-- a known truth decides -/
local macro_rules | `(tactic| walk_at "t") => `(tactic| first | ((with_reducible refine split_t ?_ ?_); (· walk_at "sd")) | ((with_reducible refine split_t' ?_ ?_); (· walk_at "sd")))
local macro_rules | `(tactic| walk_at "f") => `(tactic| first | ((with_reducible refine split_f ?_ ?_); (· walk_at "sd")) | ((with_reducible refine split_f' ?_ ?_); (· walk_at "sd")))
/-- all that is seen in a look -/
local macro_rules | `(tactic| walk_at "v") => `(tactic| (rw [sealAll_mk (by (simp only [List.set_cons_zero, List.set_cons_succ, List.map_cons, List.map_nil, sealS_none, sealS_dat, sealS_scr, sealS_own, List.getElem?_cons_zero, List.getElem?_cons_succ, sealC_lst]; rfl)) (by (simp only [List.set_cons_zero, List.set_cons_succ, List.map_cons, List.map_nil]; rfl))]))
/-- a comprehension that writes lists: what stands is said of all that was gathered -/
theorem turns_acc {gg : D → Sx → Option Sx} {ge : M D} {vs : List Nat} {w : List (Option R)} {ds0 : List D} (J : List D → List (Option Cell) → Prop)
    (h : ∀ i d acc os, ds0[i]? = some d → acc.length = i → J acc os → ∃ S2, gg d ⟨w, os⟩ = some S2 ∧ ∃ e S4, ge S2 = some (e, S4) ∧ wipeS S4.sl vs = w ∧ J (acc ++ [e]) S4.os) :
    ∀ (ds : List D) (acc : List D) (sl : List (Option R)) (os : List (Option Cell)), ds = ds0.drop acc.length → wipeS sl vs = w → J acc os →
      ∃ es sl' os', gTurns gg gYes ge vs ds ⟨sl, os⟩ = some (es, ⟨sl', os'⟩) ∧ wipeS sl' vs = w ∧ J (acc ++ es) os' ∧ es.length = ds.length
  | [], acc, sl, os, _, hw, hj => ⟨[], sl, os, rfl, hw, by rw [List.append_nil]; exact hj, rfl⟩
  | d :: ds, acc, sl, os, hd, hw, hj => by
    have hi : ds0[acc.length]? = some d := by
      have : (ds0.drop acc.length)[0]? = some d := by rw [← hd]; rfl
      rwa [List.getElem?_drop, Nat.add_zero] at this
    obtain ⟨S2, e2, e, ⟨sl4, os4⟩, e4, hw4, hj4⟩ := h _ d acc os hi rfl hj
    obtain ⟨es, sl', os', e5, hw5, hj5, hl⟩ := turns_acc J h ds (acc ++ [e]) sl4 os4 (by
      rw [List.length_append, List.length_singleton, ← List.drop_drop, ← hd]; rfl) hw4 hj4
    refine ⟨e :: es, sl', os', ?_, hw5, by rw [List.append_assoc] at hj5; exact hj5, by simp [hl]⟩
    rw [gTurns]
    simp only [hw, e2, Option.bind_some, gYes, if_true, e4, e5]
theorem ev_lcA {S : Sx} {Q : D → Sx → Prop} {gi : M (List D)} {gg : D → Sx → Option Sx} {ge : M D} {vs : List Nat} (J : List D → List (Option Cell) → Prop)
    (h : Ev (gi S) fun ds S1 => J [] S1.os ∧ (∀ i d acc os, ds[i]? = some d → acc.length = i → J acc os → Es (gg d ⟨wipeS S1.sl vs, os⟩) fun S2 => Ev (ge S2) fun e S4 => wipeS S4.sl vs = wipeS S1.sl vs ∧ J (acc ++ [e]) S4.os) ∧
      (∀ acc os, acc.length = ds.length → J acc os → Q (.list acc) ⟨S1.sl, os⟩)) : Ev (gLc gi gg gYes ge vs S) Q := by
  obtain ⟨ds, ⟨sl1, os1⟩, e1, h0, h1, q⟩ := h
  obtain ⟨es, sl', os', e2, hw, hj, hl⟩ := turns_acc (gg := gg) (ge := ge) (vs := vs) (w := wipeS sl1 vs) (ds0 := ds) J (fun i d acc os hd ha hj => by
    obtain ⟨S2, h2, e, S4, h4, h5⟩ := h1 i d acc os hd ha hj
    exact ⟨S2, h2, e, S4, h4, h5⟩) ds [] sl1 os1 rfl rfl h0
  refine ⟨_, _, ?_, q es os' hl (by simpa using hj)⟩
  unfold gLc
  rw [e1]
  simp only [Option.bind_some, e2, backS_same hw]
theorem ev_scrI {sl : List (Option R)} {os : List (Option Cell)} {i : Nat} {L : List D → Sx → Prop} (h : ∃ ns : List Int, sl[i]? = some (some (.scr ns)) ∧ L (ns.map .int) ⟨sl, os⟩) : Ev (gScrI i ⟨sl, os⟩) L := by
  obtain ⟨ns, hi, h⟩ := h
  exact ⟨_, _, by simp only [gScrI, scrOf, hi, Option.bind_some], h⟩
theorem ev_scrList {sl : List (Option R)} {os : List (Option Cell)} {i : Nat} {Q : D → Sx → Prop} (h : ∃ ns : List Int, sl[i]? = some (some (.scr ns)) ∧ Q (.list (ns.map .int)) ⟨sl, os⟩) : Ev (gScrList i ⟨sl, os⟩) Q := by
  obtain ⟨ns, hi, h⟩ := h
  exact ⟨_, _, by simp only [gScrList, scrOf, hi, Option.bind_some], h⟩
theorem ev_stepL {S : Sx} {ga gc : M D} {Q : D → Sx → Prop} (h : Ev (ga S) fun d S1 => Ev (gc S1) fun c S2 => ∃ xs, d = .list xs ∧ ((c = .int 1 ∧ Q (.list xs) S2) ∨ (c = .int (-1) ∧ Q (.list xs.reverse) S2))) : Ev (gStepL ga gc S) Q := by
  obtain ⟨d, S1, e1, c, S2, e2, xs, rfl, ⟨rfl, q⟩ | ⟨rfl, q⟩⟩ := h
  · exact ⟨_, S2, by simp only [gStepL, e1, e2, Option.bind_some, if_true], q⟩
  · exact ⟨_, S2, by simp only [gStepL, e1, e2, Option.bind_some, if_true, if_neg (show ¬ (-1 : Int) = 1 by decide)], q⟩
theorem eo_augL {S : Sx} {i : Nat} {ge : M D} {Z : Out → Prop} (h : ∃ j cs0, S.sl[i]? = some (some (.own j)) ∧ S.os[j]? = some (some (.lst cs0)) ∧ Ev (ge S) fun d S1 => ∃ xs cs, d = .list xs ∧ S1.os[j]? = some (some (.lst cs)) ∧ cs.length + xs.length ≤ 16777216 ∧ Z (.nx ⟨S1.sl.set i (some (.own j)), S1.os.set j (some (.lst (cs ++ xs)))⟩)) : Eo (qAugL i ge S) Z := by
  obtain ⟨j, cs0, hi, hc, d, S1, e1, xs, cs, rfl, e2, l, q⟩ := h
  refine ⟨_, ?_, q⟩
  simp only [qAugL, ownOf, Fu.cellOf, hi, hc, e1, e2, Option.bind_some, line_eq, if_pos l]
theorem ev_enum {S : Sx} {g : M (List D)} {L : List D → Sx → Prop} (h : Ev (g S) fun ds S1 => ∃ xs, ds = [.list xs] ∧ L (enumD 0 xs) S1) : Ev (gEnum g S) L := by
  obtain ⟨ds, S1, e, xs, rfl, q⟩ := h
  exact ⟨_, S1, by simp only [gEnum, e, Option.bind_some], q⟩
theorem erase_perm {α : Type} : ∀ (l : List α) (i : Nat) (h : i < l.length), (l[i] :: l.eraseIdx i).Perm l
  | [], i, h => by simp at h
  | x :: l, 0, _ => by simp
  | x :: l, i + 1, h => by
    simp only [List.getElem_cons_succ, List.eraseIdx_cons_succ]
    exact (List.Perm.swap _ _ _).trans ((erase_perm l i (by simpa using h)).cons x)
namespace Bg
theorem ev_drawB {sl : List (Option R)} {os : List (Option Cell)} {i : Nat} {g : M (List D)} {Q : D → Sx → Prop}
    (h : ∃ j, sl[i]? = some (some (.own j)) ∧ Ev (g ⟨sl, os⟩) fun ds S1 => ∃ cs many c, S1.os[j]? = some (some (.lst cs)) ∧ ds = [.int many] ∧ Bag c cs ∧ 1 ≤ c ∧ 0 < many ∧ many ≤ 4294967296 ∧ ∀ v cs', 0 ≤ v → v < many → Bag (c - 1) cs' → Q (.int v) ⟨S1.sl, S1.os.set j (some (.lst cs'))⟩) : Ev (gIO i 1 m__law_draw_k32 g ⟨sl, os⟩) Q := by
  obtain ⟨j, hi, h⟩ := h
  refine ev_IO ⟨j, hi, h.mono ?_⟩
  rintro ds S1 ⟨cs, many, c, hc, rfl, hR, c1, m0, m1, h⟩
  obtain ⟨d, cs', e, v, rfl, v0, v1, hR'⟩ := x_drawB (b := c - 1) (hR.mono (by omega)) m0 m1
  exact ⟨cs, hc, rfl, _, cs', e, h v cs' v0 v1 hR'⟩
theorem x__law_bag {ns : List Int} (h : ns.length ≤ 63) : ∃ cs, m__law_bag ns = some cs ∧ Bag 4294967296 cs := by
  unfold m__law_bag; refine mScrN_of ?_; walk_at "i"; unfold g__law_bag
  walk_at "e"
  refine ev_scrI ⟨_, rfl, ?_⟩
  refine eo_loop (fun i S => ∃ t x, S = ⟨[some (.scr ns), some (.dat (.int t)), x], []⟩ ∧ 0 ≤ t ∧ t < 2305843009213693951) ⟨_, _, rfl, by decide, by decide⟩ ?_ ?_
  · rintro i d S hd ⟨t, x, rfl, t0, t1⟩
    obtain ⟨c, hc, rfl⟩ := List.mem_map.mp (List.mem_of_getElem? hd)
    walk_at "e"
    refine ed_mulI (Sp.mulW ⟨by omega, by omega⟩ ⟨by decide, by decide⟩) ?_
    walk_at "e"
    exact ⟨Int.emod_nonneg _ (by decide), Int.emod_lt_of_pos _ (by decide)⟩
  · rintro S ⟨t, x, rfl, t0, t1⟩
    walk_at "e"
    refine ev_scrList ⟨_, rfl, ?_⟩
    walk_at "e"
    exact ⟨_, _, _, rfl, rfl, ns, 0, 0, 0, t, rfl, h, by simp, by decide, by decide, by decide, t0, t1⟩
/-- a row mixed -/
theorem x__law_mixed {c : Nat} {cs xs : List D} (hB : Bag c cs) (hl : xs.length ≤ c) (hn : xs.length ≤ 1000000) : ∃ d cs', m__law_mixed cs [.list xs] = some (d, cs') ∧ ∃ ys, d = .list ys ∧ ys.Perm xs ∧ Bag (c - xs.length) cs' := by
  unfold m__law_mixed; refine mIO_of ?_; walk_at "i"; unfold g__law_mixed
  walk_at "e"
  refine ev_lcA (fun acc os => ∃ cs left, os = [some (.lst cs), some (.lst left)] ∧ (acc ++ left).Perm xs ∧ Bag (c - acc.length) cs) ?_
  walk_at "e"
  refine ⟨by omega, by omega, ⟨cs, xs, rfl, by simp, by simpa using hB⟩, ?_, ?_⟩
  · rintro i d acc os hd ha ⟨cs, left, rfl, hp, hB⟩
    obtain ⟨hi, rfl⟩ := rng_at hd
    have hlen : acc.length + left.length = xs.length := by have := hp.length_eq; simpa using this
    walk_at "e"
    refine ev_popAt ⟨_, _, rfl, rfl, ?_⟩
    walk_at "e"
    refine ev_drawB ⟨_, rfl, ?_⟩
    walk_at "e"
    refine ⟨_, _, _, rfl, rfl, hB, by omega, by omega, by omega, fun v cs a b hB => ?_⟩
    have hv : v.toNat < left.length := by omega
    refine ⟨_, _, rfl, rfl, a, left[v.toNat], List.getElem?_eq_getElem hv, ?_⟩
    walk_at "e"
    refine ⟨rfl, _, _, rfl, ?_, by rw [List.length_append, List.length_singleton]; exact hB.mono (by omega)⟩
    refine List.Perm.trans ?_ hp
    rw [List.append_assoc]
    exact (List.perm_append_left_iff acc).mpr (erase_perm _ _ hv)
  · rintro acc os hl2 ⟨cs, left, rfl, hp, hB⟩
    rw [rng_len] at hl2
    have hlen : acc.length + left.length = xs.length := by have := hp.length_eq; simpa using this
    have : left = [] := List.length_eq_zero_iff.mp (by omega)
    subst this
    rw [List.append_nil] at hp
    exact ⟨cs, rfl, acc, rfl, hp, by rw [← hp.length_eq]; exact hB⟩
end Bg
end Lw

set_option maxHeartbeats 4000000
namespace Lw
open PySem Fu
local macro_rules | `(tactic| walk_at "e1") => `(tactic| first
  | with_reducible refine eo_seq ?_ | (with_reducible refine then_nx' ?_; refine ⟨?_, ?_, ?_⟩; rotate_left; · (try dsimp only [List.set, List.length_cons, List.length_nil, List.cons_append, List.nil_append, Nat.zero_add, Nat.reduceAdd]); exact rfl) | with_reducible refine then_rt ?_ | with_reducible refine eo_if ?_ | with_reducible refine eo_ret ?_ | with_reducible refine eo_set ?_ | with_reducible refine eo_asg ?_ | with_reducible refine eo_drop ?_ | with_reducible refine eo_nx ?_ | with_reducible refine eo_par ?_ | with_reducible refine eo_own ?_ | with_reducible refine eo_retN ?_ | with_reducible refine eo_for ?_ | with_reducible refine eo_retO ?_
  | with_reducible refine ev_c ?_ | (with_reducible refine ev_var ?_; refine ⟨_, rfl, ?_⟩) | with_reducible refine ev_bin ?_ | with_reducible refine ev_un ?_ | with_reducible refine ev_nil ?_ | with_reducible refine ev_cons ?_
  | with_reducible refine ev_tup ?_ | with_reducible refine ev_lst ?_ | with_reducible refine ev_call ?_ | with_reducible refine ev_callF ?_ | with_reducible refine ev_isi ?_ | with_reducible refine ev_isi2 ?_ | with_reducible refine ev_andV ?_ | with_reducible refine ev_orV ?_ | with_reducible refine ev_notV ?_
  | with_reducible refine ev_B ?_ | with_reducible refine ev_and ?_ | with_reducible refine ev_or ?_ | with_reducible refine ev_not ?_ | with_reducible refine ev_yes ?_ | with_reducible refine ev_if ?_ | with_reducible refine ev_no ?_ | with_reducible refine ev_so ?_ | with_reducible refine ev_sl ?_ | with_reducible refine ev_items ?_
  | (with_reducible refine ev_ixO ?_; refine ⟨_, _, rfl, rfl, ?_⟩) | (with_reducible refine ev_varO ?_; refine ⟨_, _, rfl, rfl, ?_⟩) | (with_reducible refine ev_lenO ?_; refine ⟨_, _, rfl, rfl, ?_⟩) | (with_reducible refine ev_scrSl ?_; refine ⟨_, rfl, ?_⟩) | (with_reducible refine ev_scrLen ?_; refine ⟨_, rfl, ?_⟩) | (with_reducible refine ev_callScr ?_; refine ⟨_, rfl, ?_⟩) | (with_reducible refine ev_OL ?_; refine ⟨_, _, rfl, rfl, ?_⟩) | with_reducible refine ev_OR ?_ | with_reducible refine ev_rep ?_ | with_reducible refine ev_listRng1 ?_ | with_reducible refine eo_setO ?_
  | with_reducible refine es_name ?_ | with_reducible refine es_tup2 ?_ | with_reducible refine es_tup3 ?_
  | with_reducible refine ed_addI ?_ | with_reducible refine ed_subI ?_ | with_reducible refine ed_cmp ?_ | with_reducible refine ed_eqI ?_ | with_reducible refine ed_neI ?_ | with_reducible refine ed_slT ?_ | with_reducible refine ed_slL ?_ | with_reducible refine ed_lenT ?_ | with_reducible refine ed_lenL ?_ | with_reducible refine ed_lenS ?_ | with_reducible refine ed_inS ?_ | with_reducible refine ed_itT ?_ | with_reducible refine ed_itL ?_ | with_reducible refine ed_tupL ?_ | with_reducible refine ed_tupT ?_ | with_reducible refine ed_listL ?_ | with_reducible refine ed_listT ?_ | with_reducible refine ed_neg ?_ | with_reducible refine ed_max ?_ | with_reducible refine ed_min ?_ | with_reducible refine ed_intB ?_
  | with_reducible refine ev_rng1 ?_ | with_reducible refine ev_rng2 ?_)
local macro_rules | `(tactic| walk_at "sd") => `(tactic| first | rfl | assumption | (simp only [decide_eq_true_eq, decide_eq_false_iff_not, Bool.not_eq_true', Bool.not_eq_false', Bool.and_eq_true, Bool.or_eq_true, List.length_map, List.length_cons, List.length_nil, List.length_append, List.length_range] at *; omega))
local macro_rules | `(tactic| walk_at "e2") => `(tactic| first
  | walk_at "e1" | with_reducible refine ⟨_, rfl, ?_⟩ | with_reducible refine ⟨_, _, rfl, ?_⟩
  | with_reducible refine And.intro (Eq.refl (List.length _)) ?_ | with_reducible refine And.intro (Nat.le_of_ble_eq_true (n := List.length _) rfl) ?_
  | with_reducible refine And.intro (Eq.refl (_ : Sx)) (?_ : Ed _ _)
  | ((with_reducible refine And.intro ?_ (And.intro ?_ (?_ : Ev _ _))); (· rfl); (· rfl))
  | ((with_reducible refine ed_ixT ?_ ?_ ?_); (· decide); (· rfl)) | ((with_reducible refine ed_ixL ?_ ?_ ?_); (· decide); (· rfl)) | ((with_reducible refine ed_at ?_ ?_ ?_); (· decide); (· rfl))
  | ((with_reducible refine ed_modI ?_ ?_); (· first | decide | omega))
  | with_reducible exact gives_nx | ((with_reducible refine gives_rt ?_); (· rfl)) | ((with_reducible refine And.intro ?_ ?_); (· exact rfl); (· with_reducible exact Eq.refl (_ : Sx))))
local macro_rules | `(tactic| walk_at "e") => `(tactic| repeat walk_at "e2")
/-- begin a def's spec -/
local macro_rules | `(tactic| walk_at "i") => `(tactic| simp only [initS, List.map_cons, List.map_nil, List.length_cons, List.length_nil, Nat.reduceAdd, Nat.reduceSub, List.replicate, List.cons_append, List.nil_append])
/-- a known truth decides -/
local macro_rules | `(tactic| walk_at "t") => `(tactic| first | ((with_reducible refine split_t ?_ ?_); (· walk_at "sd")) | ((with_reducible refine split_t' ?_ ?_); (· walk_at "sd")))
local macro_rules | `(tactic| walk_at "f") => `(tactic| first | ((with_reducible refine split_f ?_ ?_); (· walk_at "sd")) | ((with_reducible refine split_f' ?_ ?_); (· walk_at "sd")))
/-- all that is seen in a look -/
local macro_rules | `(tactic| walk_at "v") => `(tactic| (rw [sealAll_mk (by (simp only [List.set_cons_zero, List.set_cons_succ, List.map_cons, List.map_nil, sealS_none, sealS_dat, sealS_scr, sealS_own, List.getElem?_cons_zero, List.getElem?_cons_succ, sealC_lst]; rfl)) (by (simp only [List.set_cons_zero, List.set_cons_succ, List.map_cons, List.map_nil]; rfl))]))
namespace Bg
open Sp
/-! ### a walk's lines, plainly -/
def lnAt (sp : List Int) (sg : List Nat) (i : Nat) (s : Int) : Ln := if s = 0 then (sp.getD i 0, sp.getD (i + 1) 0, sg.getD i 0) else (sp.getD (i + 1) 0, sp.getD i 0, sg.getD i 0)
structure Wk (n k : Nat) (sp : List Int) (od sg : List Nat) (qs : List (Option Ln)) (es : List (Int × Int)) : Prop where
  qlen : qs.length = n
  elen : es.length = k
  glen : sg.length = k
  at' : ∀ i, i < k → ∃ m s, od[i]? = some m ∧ (s = 0 ∨ s = 1) ∧ es[i]? = some ((m : Int), s) ∧ qs[m]? = some (some (lnAt sp sg i s))
theorem getD_add {α : Type} {xs : List α} {x d : α} {i : Nat} (h : i < xs.length) : (xs ++ [x]).getD i d = xs.getD i d := by
  rw [List.getD_eq_getElem?_getD, List.getD_eq_getElem?_getD, List.getElem?_append_left h]
theorem Wk.zero (n : Nat) (sp : List Int) (od : List Nat) : Wk n 0 sp od [] (List.replicate n none) [] := ⟨by simp, rfl, rfl, fun i h => absurd h (Nat.not_lt_zero _)⟩
theorem Wk.step {n k m : Nat} {sp : List Int} {od sg : List Nat} {qs : List (Option Ln)} {es : List (Int × Int)} {s : Int} {c : Nat} (h : Wk n k sp od sg qs es) (hnd : od.Nodup) (hm : od[k]? = some m) (hmn : m < n) (hs : s = 0 ∨ s = 1) :
    Wk n (k + 1) sp od (sg ++ [c]) (qs.set m (some (lnAt sp (sg ++ [c]) k s))) (es ++ [((m : Int), s)]) := by
  have hlt : m < qs.length := by rw [h.qlen]; exact hmn
  refine ⟨by simp [h.qlen], by simp [h.elen], by simp [h.glen], fun i hi => ?_⟩
  rcases Nat.lt_succ_iff_lt_or_eq.mp hi with hi | rfl
  · obtain ⟨m2, s2, h1, h2, h3, h4⟩ := h.at' i hi
    refine ⟨m2, s2, h1, h2, by rw [List.getElem?_append_left (by rw [h.elen]; exact hi)]; exact h3, ?_⟩
    have hne : m ≠ m2 := by
      rintro rfl
      obtain ⟨l1, e1⟩ := List.getElem?_eq_some_iff.mp hm
      obtain ⟨l2, e2⟩ := List.getElem?_eq_some_iff.mp h1
      have := (List.getElem_inj hnd).mp (e1.trans e2.symm)
      omega
    rw [List.getElem?_set_ne hne, h4]
    unfold lnAt
    rw [getD_add (by rw [h.glen]; exact hi)]
  · exact ⟨m, s, hm, hs, by rw [List.getElem?_append_right (by rw [h.elen]; exact Nat.le_refl _), h.elen, Nat.sub_self]; rfl, by rw [List.getElem?_set_self hlt]⟩
/-- a walk's web and ride -/
structure Walked (n : Nat) (sp : List Int) (od sg : List Nat) (ls : List Ln) (es : List (Int × Int)) : Prop where
  llen : ls.length = n
  elen : es.length = n
  glen : sg.length = n
  nd : od.Nodup
  at' : ∀ i, i < n → ∃ m s, od[i]? = some m ∧ (s = 0 ∨ s = 1) ∧ es[i]? = some ((m : Int), s) ∧ ls[m]? = some (lnAt sp sg i s)
theorem Wk.done {n : Nat} {sp : List Int} {od sg : List Nat} {qs : List (Option Ln)} {es : List (Int × Int)} (h : Wk n n sp od sg qs es) (hp : od.Perm (List.range n)) : ∃ ls : List Ln, qs = ls.map some ∧ Walked n sp od sg ls es := by
  have hl : od.length = n := by simpa using hp.length_eq
  obtain ⟨ls, rfl⟩ := all_some (qs := qs) fun q hq => by
    obtain ⟨m, hm⟩ := List.mem_iff_getElem?.mp hq
    have hlt := (List.getElem?_eq_some_iff.mp hm).1
    rw [h.qlen] at hlt
    have : m ∈ od := hp.mem_iff.mpr (List.mem_range.mpr hlt)
    obtain ⟨i, hi⟩ := List.mem_iff_getElem?.mp this
    have hin := (List.getElem?_eq_some_iff.mp hi).1
    obtain ⟨m2, s, e1, _, _, e4⟩ := h.at' i (by omega)
    rw [hi] at e1; cases e1
    rw [hm] at e4; cases e4
    exact ⟨_, rfl⟩
  refine ⟨ls, rfl, by have := h.qlen; simpa using this, h.elen, h.glen, hp.nodup_iff.mpr List.nodup_range, fun i hi => ?_⟩
  obtain ⟨m, s, e1, e2, e3, e4⟩ := h.at' i hi
  rw [List.getElem?_map] at e4
  obtain ⟨l, e5, e6⟩ := Option.map_eq_some_iff.mp e4
  cases e6
  exact ⟨m, s, e1, e2, e3, e5⟩
theorem Walked.at {n : Nat} {sp : List Int} {od sg : List Nat} {ls : List Ln} {es : List (Int × Int)} (h : Walked n sp od sg ls es) {i : Nat} (hi : i < n) :
    ∃ e, es[i]? = some e ∧ EndOk ls.length e ∧ plc ls e = sp.getD i 0 ∧ plc ls (far e) = sp.getD (i + 1) 0 ∧ cmpy ls e = sg.getD i 0 := by
  obtain ⟨m, s, _, hs, h1, h2⟩ := h.at' i hi
  have hm := (List.getElem?_eq_some_iff.mp h2).1
  refine ⟨_, h1, ⟨by simp, by simpa using hm, by simp only; omega, by simp only; omega⟩, ?_, ?_, ?_⟩
  · unfold plc
    simp only [Int.toNat_natCast, h2]
    rcases hs with rfl | rfl <;> simp [sideOf, lnAt]
  · unfold plc far
    simp only [Int.toNat_natCast, h2]
    rcases hs with rfl | rfl <;> simp [sideOf, lnAt]
  · unfold cmpy
    simp only [Int.toNat_natCast, h2]
    rcases hs with rfl | rfl <;> simp [lnAt]
/-- companies: neighbours unlike -/
def Adj (sg : List Nat) : Prop := ∀ i a b, sg[i]? = some a → sg[i + 1]? = some b → a ≠ b
theorem Adj.add {sg : List Nat} {c : Nat} (h : Adj sg) (h2 : sg ≠ [] → c ≠ lastN sg) : Adj (sg ++ [c]) := by
  intro i a b ha hb
  by_cases h1 : i + 1 < sg.length
  · rw [List.getElem?_append_left (by omega)] at ha
    rw [List.getElem?_append_left h1] at hb
    exact h i a b ha hb
  · have hi := (List.getElem?_eq_some_iff.mp hb).1
    rw [List.length_append, List.length_singleton] at hi
    have e : i + 1 = sg.length := by omega
    have hne : sg ≠ [] := by intro z; rw [z] at e; simp at e
    rw [List.getElem?_append_left (by omega)] at ha
    rw [e, List.getElem?_append_right (Nat.le_refl _), Nat.sub_self] at hb
    have hbc : c = b := by simpa using hb
    have hla : lastN sg = a := by
      unfold lastN
      rw [List.getLast?_eq_getElem?, show sg.length - 1 = i by omega, ha]; rfl
    subst hbc
    rw [← hla]
    exact fun z => h2 hne z.symm
theorem adj_two {sg : List Nat} (h : Adj sg) (h2 : ∀ c ∈ sg, c = 97 ∨ c = 98) : ∀ i a b, sg[0]? = some a → sg[i]? = some b → (a = b ↔ i % 2 = 0) := by
  intro i
  induction i with
  | zero => intro a b ha hb; rw [ha] at hb; cases hb; simp
  | succ i ih =>
    intro a b ha hb
    have hl := (List.getElem?_eq_some_iff.mp hb).1
    have hc : sg[i]? = some sg[i] := List.getElem?_eq_getElem (by omega)
    have k1 := ih a _ ha hc
    have k2 := h i _ b hc hb
    have m1 := h2 a (List.mem_of_getElem? ha)
    have m2 := h2 _ (List.mem_of_getElem? hc)
    have m3 := h2 b (List.mem_of_getElem? hb)
    generalize sg[i] = x at *
    omega
theorem walked_ride {n : Nat} {sp : List Int} {od sg : List Nat} {ls : List Ln} {es : List (Int × Int)} (h : Walked n sp od sg ls es) (n0 : 0 < n) (ha : Adj sg) : rideB ls es = true := by
  have hn : es ≠ [] := by intro z; have := h.elen; rw [z] at this; simp at this; omega
  refine rideB_iff.mpr ⟨hn, fun e he => ?_, ?_, chain_idx _ _ fun i e f he hf => ?_⟩
  · obtain ⟨i, hi⟩ := List.mem_iff_getElem?.mp he
    have hl := (List.getElem?_eq_some_iff.mp hi).1
    obtain ⟨x, h1, h2, _⟩ := h.at (show i < n by rw [← h.elen]; exact hl)
    rw [hi] at h1; cases h1
    exact h2
  · refine List.pairwise_iff_getElem.mpr fun i j hi hj hij e => ?_
    have hj2 := hj
    rw [List.length_map, h.elen] at hj2
    have e : (es.map Prod.fst)[i]? = (es.map Prod.fst)[j]? := by rw [List.getElem?_eq_getElem hi, List.getElem?_eq_getElem hj, e]
    have hj := hj2
    obtain ⟨m, s, e1, _, e3, _⟩ := h.at' i (by omega)
    obtain ⟨m2, s2, f1, _, f3, _⟩ := h.at' j hj
    rw [List.getElem?_map, List.getElem?_map, e3, f3] at e
    have : m = m2 := by
      have e : (m : Int) = (m2 : Int) := by simpa using e
      omega
    subst this
    obtain ⟨l1, g1⟩ := List.getElem?_eq_some_iff.mp e1
    obtain ⟨l2, g2⟩ := List.getElem?_eq_some_iff.mp f1
    have := (List.getElem_inj h.nd).mp (g1.trans g2.symm)
    omega
  · have hl := (List.getElem?_eq_some_iff.mp hf).1
    rw [h.elen] at hl
    obtain ⟨x, h1, _, _, h3, h4⟩ := h.at (show i < n by omega)
    obtain ⟨y, k1, _, k2, _, k4⟩ := h.at hl
    rw [he] at h1; cases h1
    rw [hf] at k1; cases k1
    refine goes_of (by rw [h3, k2]) ?_
    rw [h4, k4]
    have hgl := h.glen
    have g1 : sg[i]? = some (sg[i]'(by omega)) := List.getElem?_eq_getElem (by omega)
    have g2 : sg[i + 1]? = some (sg[i + 1]'(by omega)) := List.getElem?_eq_getElem (by omega)
    rw [List.getD_eq_getElem?_getD, List.getD_eq_getElem?_getD, g1, g2]
    exact ha i _ _ g1 g2
theorem walked_round {n : Nat} {sp : List Int} {od sg : List Nat} {ls : List Ln} {es : List (Int × Int)} (h : Walked n sp od sg ls es) (n0 : 0 < n) (ha : Adj sg) (hc : sp.getD n 0 = sp.getD 0 0) (hs : lastN sg ≠ headN sg) : roundB ls es = true := by
  refine roundB_iff.mpr ⟨walked_ride h n0 ha, ?_⟩
  obtain ⟨x, h1, _, _, h3, h4⟩ := h.at (show n - 1 < n by omega)
  obtain ⟨y, k1, _, k2, _, k4⟩ := h.at n0
  have e1 : lastE es = x := by unfold lastE; rw [List.getLast?_eq_getElem?, h.elen, h1]; rfl
  have e2 : headE es = y := by unfold headE; rw [List.head?_eq_getElem?, k1]; rfl
  rw [e1, e2]
  refine goes_of (by rw [h3, k2, show n - 1 + 1 = n by omega, hc]) ?_
  rw [h4, k4]
  have g1 : lastN sg = sg.getD (n - 1) 0 := by unfold lastN; rw [List.getLast?_eq_getElem?, h.glen, List.getD_eq_getElem?_getD]
  have g2 : headN sg = sg.getD 0 0 := by unfold headN; rw [List.head?_eq_getElem?, List.getD_eq_getElem?_getD]
  rw [← g1, ← g2]
  exact hs
theorem lnAt_ok {p : Int} {n i : Nat} {sp : List Int} {sg : List Nat} {s : Int} (h : ∀ x ∈ sp, 0 ≤ x ∧ x < p) (hl : sp.length = n + 1) (hg : ∀ c ∈ sg, Let c) (hgl : i < sg.length) (hi : i < n) : LnOk p (lnAt sp sg i s) := by
  have a := getD_ok h (show i < sp.length by omega)
  have b := getD_ok h (show i + 1 < sp.length by omega)
  have c : Let (sg.getD i 0) := by
    rw [List.getD_eq_getElem?_getD, List.getElem?_eq_getElem hgl]
    exact hg _ (List.getElem_mem _)
  unfold lnAt
  split
  · exact ⟨a.1, a.2, b.1, b.2, c⟩
  · exact ⟨b.1, b.2, a.1, a.2, c⟩
end Bg
end Lw

set_option maxHeartbeats 4000000
namespace Lw
open PySem Fu
local macro_rules | `(tactic| walk_at "e1") => `(tactic| first
  | with_reducible refine eo_seq ?_ | (with_reducible refine then_nx' ?_; refine ⟨?_, ?_, ?_⟩; rotate_left; · (try dsimp only [List.set, List.length_cons, List.length_nil, List.cons_append, List.nil_append, Nat.zero_add, Nat.reduceAdd]); exact rfl) | with_reducible refine then_rt ?_ | with_reducible refine eo_if ?_ | with_reducible refine eo_ret ?_ | with_reducible refine eo_set ?_ | with_reducible refine eo_asg ?_ | with_reducible refine eo_drop ?_ | with_reducible refine eo_nx ?_ | with_reducible refine eo_par ?_ | with_reducible refine eo_own ?_ | with_reducible refine eo_retN ?_ | with_reducible refine eo_for ?_ | with_reducible refine eo_retO ?_
  | with_reducible refine ev_c ?_ | (with_reducible refine ev_var ?_; refine ⟨_, rfl, ?_⟩) | with_reducible refine ev_bin ?_ | with_reducible refine ev_un ?_ | with_reducible refine ev_nil ?_ | with_reducible refine ev_cons ?_
  | with_reducible refine ev_tup ?_ | with_reducible refine ev_lst ?_ | with_reducible refine ev_call ?_ | with_reducible refine ev_callF ?_ | with_reducible refine ev_isi ?_ | with_reducible refine ev_isi2 ?_ | with_reducible refine ev_andV ?_ | with_reducible refine ev_orV ?_ | with_reducible refine ev_notV ?_
  | with_reducible refine ev_B ?_ | with_reducible refine ev_and ?_ | with_reducible refine ev_or ?_ | with_reducible refine ev_not ?_ | with_reducible refine ev_yes ?_ | with_reducible refine ev_if ?_ | with_reducible refine ev_no ?_ | with_reducible refine ev_so ?_ | with_reducible refine ev_sl ?_ | with_reducible refine ev_items ?_
  | (with_reducible refine ev_ixO ?_; refine ⟨_, _, rfl, rfl, ?_⟩) | (with_reducible refine ev_varO ?_; refine ⟨_, _, rfl, rfl, ?_⟩) | (with_reducible refine ev_lenO ?_; refine ⟨_, _, rfl, rfl, ?_⟩) | (with_reducible refine ev_scrSl ?_; refine ⟨_, rfl, ?_⟩) | (with_reducible refine ev_scrLen ?_; refine ⟨_, rfl, ?_⟩) | (with_reducible refine ev_callScr ?_; refine ⟨_, rfl, ?_⟩) | (with_reducible refine ev_OL ?_; refine ⟨_, _, rfl, rfl, ?_⟩) | with_reducible refine ev_OR ?_ | with_reducible refine ev_rep ?_ | with_reducible refine ev_listRng1 ?_ | with_reducible refine eo_setO ?_
  | with_reducible refine es_name ?_ | with_reducible refine es_tup2 ?_ | with_reducible refine es_tup3 ?_
  | with_reducible refine ed_addI ?_ | with_reducible refine ed_subI ?_ | with_reducible refine ed_cmp ?_ | with_reducible refine ed_eqI ?_ | with_reducible refine ed_neI ?_ | with_reducible refine ed_slT ?_ | with_reducible refine ed_slL ?_ | with_reducible refine ed_lenT ?_ | with_reducible refine ed_lenL ?_ | with_reducible refine ed_lenS ?_ | with_reducible refine ed_inS ?_ | with_reducible refine ed_itT ?_ | with_reducible refine ed_itL ?_ | with_reducible refine ed_tupL ?_ | with_reducible refine ed_tupT ?_ | with_reducible refine ed_listL ?_ | with_reducible refine ed_listT ?_ | with_reducible refine ed_neg ?_ | with_reducible refine ed_max ?_ | with_reducible refine ed_min ?_ | with_reducible refine ed_intB ?_
  | with_reducible refine ev_rng1 ?_ | with_reducible refine ev_rng2 ?_)
local macro_rules | `(tactic| walk_at "sd") => `(tactic| first | rfl | assumption | (simp only [decide_eq_true_eq, decide_eq_false_iff_not, Bool.not_eq_true', Bool.not_eq_false', Bool.and_eq_true, Bool.or_eq_true, List.length_map, List.length_cons, List.length_nil, List.length_append, List.length_range] at *; omega))
local macro_rules | `(tactic| walk_at "e2") => `(tactic| first
  | walk_at "e1" | with_reducible refine ⟨_, rfl, ?_⟩ | with_reducible refine ⟨_, _, rfl, ?_⟩
  | with_reducible refine And.intro (Eq.refl (List.length _)) ?_ | with_reducible refine And.intro (Nat.le_of_ble_eq_true (n := List.length _) rfl) ?_
  | with_reducible refine And.intro (Eq.refl (_ : Sx)) (?_ : Ed _ _)
  | ((with_reducible refine And.intro ?_ (And.intro ?_ (?_ : Ev _ _))); (· rfl); (· rfl))
  | ((with_reducible refine ed_ixT ?_ ?_ ?_); (· decide); (· rfl)) | ((with_reducible refine ed_ixL ?_ ?_ ?_); (· decide); (· rfl)) | ((with_reducible refine ed_at ?_ ?_ ?_); (· decide); (· rfl))
  | ((with_reducible refine ed_modI ?_ ?_); (· first | decide | omega))
  | with_reducible exact gives_nx | ((with_reducible refine gives_rt ?_); (· rfl)) | ((with_reducible refine And.intro ?_ ?_); (· exact rfl); (· with_reducible exact Eq.refl (_ : Sx))))
local macro_rules | `(tactic| walk_at "e") => `(tactic| repeat walk_at "e2")
/-- begin a def's spec -/
local macro_rules | `(tactic| walk_at "i") => `(tactic| simp only [initS, List.map_cons, List.map_nil, List.length_cons, List.length_nil, Nat.reduceAdd, Nat.reduceSub, List.replicate, List.cons_append, List.nil_append])
/-- a known truth decides -/
local macro_rules | `(tactic| walk_at "t") => `(tactic| first | ((with_reducible refine split_t ?_ ?_); (· walk_at "sd")) | ((with_reducible refine split_t' ?_ ?_); (· walk_at "sd")))
local macro_rules | `(tactic| walk_at "f") => `(tactic| first | ((with_reducible refine split_f ?_ ?_); (· walk_at "sd")) | ((with_reducible refine split_f' ?_ ?_); (· walk_at "sd")))
/-- all that is seen in a look -/
local macro_rules | `(tactic| walk_at "v") => `(tactic| (rw [sealAll_mk (by (simp only [List.set_cons_zero, List.set_cons_succ, List.map_cons, List.map_nil, sealS_none, sealS_dat, sealS_scr, sealS_own, List.getElem?_cons_zero, List.getElem?_cons_succ, sealC_lst]; rfl)) (by (simp only [List.set_cons_zero, List.set_cons_succ, List.map_cons, List.map_nil]; rfl))]))
namespace Bg
open Sp
theorem ed_notInCh {bs : List Nat} {c : Nat} {Q : D → Prop} (hb : ∀ b ∈ bs, Let b) (hc : Let c) (h : Q (.bool (!decide (c ∈ bs)))) : Ed (dNotIn (ch c) (.list (bs.map ch))) Q := by
  refine ⟨_, ?_, h⟩
  unfold ch
  dsimp only [dNotIn]
  rw [if_pos ⟨(fine_ch hc.ok).shaped, (fine_list (n := 0) fun d hd => by obtain ⟨n, hn, rfl⟩ := List.mem_map.mp hd; exact fine_ch (hb n hn).ok).shaped⟩]
  congr 3
  rw [Bool.eq_iff_iff, List.any_map, List.any_eq_true, decide_eq_true_eq]
  constructor
  · rintro ⟨x, hx, e⟩
    have e : (ch x).eqv (ch c) = true := e
    rw [eqv_plain _ _ rfl rfl] at e
    exact ch_inj e ▸ hx
  · intro hx
    exact ⟨c, hx, (eqv_plain (ch c) (ch c) rfl rfl).mpr rfl⟩
theorem cut_last {α : Type} (xs : List α) : cutL xs (some (-1)) none = xs.drop (xs.length - 1) := by
  unfold cutL
  have e : HT.sIx xs.length 0 (some (-1)) = xs.length - 1 := by
    show (if (-1 : Int) < 0 then ((-1 : Int) + (xs.length : Int)).toNat else min (-1 : Int).toNat xs.length) = _
    rw [if_pos (by decide)]; omega
  rw [e, HT.sIx_none]
  exact List.take_of_length_le (by rw [List.length_drop]; omega)
theorem cut_mid {α : Type} {xs : List α} {a b : Int} (ha : 0 ≤ a) (hb : 0 ≤ b) : cutL xs (some a) (some b) = (xs.take b.toNat).drop a.toNat := by
  obtain ⟨i, rfl⟩ : ∃ i : Nat, a = (i : Int) := ⟨a.toNat, by omega⟩
  obtain ⟨j, rfl⟩ : ∃ j : Nat, b = (j : Int) := ⟨b.toNat, by omega⟩
  unfold cutL
  rw [HT.sIx_nat, HT.sIx_nat, Int.toNat_natCast, Int.toNat_natCast, List.drop_take]
  by_cases h1 : i ≤ xs.length
  · rw [Nat.min_eq_left h1]
    by_cases h2 : j ≤ xs.length
    · rw [Nat.min_eq_left h2]
    · rw [Nat.min_eq_right (by omega), List.take_of_length_le (by rw [List.length_drop]; omega), List.take_of_length_le (by rw [List.length_drop]; omega)]
  · rw [List.drop_eq_nil_of_le (by omega), List.drop_eq_nil_of_le (by omega)]
    simp
theorem cut_two {sp : List Int} {k : Nat} (h : k + 1 < sp.length) : cutL (sp.map PyData.int) (some (k : Int)) (some ((k : Int) + 2)) = [.int (sp.getD k 0), .int (sp.getD (k + 1) 0)] := by
  rw [cut_mid (by omega) (by omega), Int.toNat_natCast, show ((k : Int) + 2).toNat = k + 2 by omega, List.drop_take, show k + 2 - k = 2 by omega, ← List.map_drop, ← List.map_take]
  have e1 : sp.drop k = sp[k] :: sp[k + 1] :: sp.drop (k + 2) := by rw [List.drop_eq_getElem_cons (by omega), List.drop_eq_getElem_cons h]
  rw [e1, List.getD_eq_getElem?_getD, List.getD_eq_getElem?_getD, List.getElem?_eq_getElem h, List.getElem?_eq_getElem (show k < sp.length by omega)]
  rfl
def lets (m : Nat) : List Nat := (List.range m).map fun i : Nat => 97 + i
theorem mem_lets {m c : Nat} : c ∈ lets m ↔ 97 ≤ c ∧ c < 97 + m := by
  unfold lets
  rw [List.mem_map]
  constructor
  · rintro ⟨i, hi, rfl⟩; rw [List.mem_range] at hi; omega
  · rintro ⟨h1, h2⟩; exact ⟨c - 97, List.mem_range.mpr (by omega), by omega⟩
theorem menu_ne {m : Nat} {bs : List Nat} (h2 : 2 ≤ m) (h : bs.length ≤ 1 ∨ ∃ a b, bs = [a, b] ∧ (3 ≤ m ∨ a = b)) : ((lets m).filter fun c => !decide (c ∈ bs)) ≠ [] := by
  have key : ∃ c, 97 ≤ c ∧ c < 97 + m ∧ c ∉ bs := by
    rcases h with h | ⟨a, b, rfl, h⟩
    · match bs, h with
      | [], _ => exact ⟨97, by omega, by omega, by simp⟩
      | [a], _ =>
        by_cases ha : a = 97
        · exact ⟨98, by omega, by omega, by simp; omega⟩
        · exact ⟨97, by omega, by omega, by simp; omega⟩
    · by_cases h1 : a ≠ 97 ∧ b ≠ 97
      · exact ⟨97, by omega, by omega, by simp; omega⟩
      · by_cases h3 : a ≠ 98 ∧ b ≠ 98
        · exact ⟨98, by omega, by omega, by simp; omega⟩
        · rcases h with h | h
          · exact ⟨99, by omega, by omega, by simp; omega⟩
          · exact ⟨0, by omega, by omega, by simp; omega⟩
  obtain ⟨c, c0, c1, c2⟩ := key
  intro z
  have : c ∈ (lets m).filter fun c => !decide (c ∈ bs) := List.mem_filter.mpr ⟨mem_lets.mpr ⟨c0, c1⟩, by simpa using c2⟩
  rw [z] at this; cases this
/-- the companies so far -/
structure Cols (m k : Nat) (sg : List Nat) : Prop where
  len : sg.length = k
  mem : ∀ c ∈ sg, c ∈ lets m
  adj : Adj sg
def bars (cl : Bool) (n k : Nat) (sg : List Nat) : List Nat := sg.drop (sg.length - 1) ++ sg.take (if (cl && decide ((k : Int) = (n : Int) - 1)) = true then 1 else 0)
theorem bars_ok {cl : Bool} {n k m : Nat} {sg : List Nat} (h : Cols m k sg) (h2 : 2 ≤ m) (hk : k < n) (hn : cl = true → m = 2 → n % 2 = 0) (hn2 : 2 ≤ n) : ((lets m).filter fun c => !decide (c ∈ bars cl n k sg)) ≠ [] := by
  refine menu_ne h2 ?_
  unfold bars
  have l1 : (sg.drop (sg.length - 1)).length ≤ 1 := by rw [List.length_drop]; omega
  split
  · rename_i hc
    rw [Bool.and_eq_true, decide_eq_true_eq] at hc
    obtain ⟨hc, hkn⟩ := hc
    have hl := h.len
    have g1 : sg[sg.length - 1]? = some (sg[sg.length - 1]'(by omega)) := List.getElem?_eq_getElem (by omega)
    have g2 : sg[0]? = some (sg[0]'(by omega)) := List.getElem?_eq_getElem (by omega)
    have e1 : sg.drop (sg.length - 1) = [sg[sg.length - 1]'(by omega)] := by
      rw [List.drop_eq_getElem_cons (by omega), List.drop_eq_nil_of_le (by omega)]
    have e2 : sg.take 1 = [sg[0]'(by omega)] := by
      rw [List.take_one, List.head?_eq_getElem?, g2]; rfl
    refine .inr ⟨_, _, by rw [e1, e2]; rfl, ?_⟩
    by_cases h3 : 3 ≤ m
    · exact .inl h3
    · right
      have hm : m = 2 := by omega
      have hpar := hn hc hm
      have := (adj_two h.adj (fun c hc => by have := mem_lets.mp (h.mem c hc); omega) (sg.length - 1) _ _ g2 g1).mpr (by omega)
      exact this.symm
  · left
    rw [List.take_zero, List.append_nil]; exact l1
theorem cols_add {cl : Bool} {n k m c : Nat} {sg : List Nat} (h : Cols m k sg) (hc : c ∈ (lets m).filter fun c => !decide (c ∈ bars cl n k sg)) : Cols m (k + 1) (sg ++ [c]) := by
  obtain ⟨h1, h2⟩ := List.mem_filter.mp hc
  have h2 : c ∉ bars cl n k sg := by simpa using h2
  refine ⟨by simp [h.len], fun x hx => ?_, h.adj.add fun hne z => h2 ?_⟩
  · rcases List.mem_append.mp hx with hx | hx
    · exact h.mem x hx
    · rw [List.mem_singleton.mp hx]; exact h1
  · unfold bars
    refine List.mem_append.mpr (.inl ?_)
    have hl : 0 < sg.length := List.length_pos_iff.mpr hne
    rw [List.drop_eq_getElem_cons (by omega), z]
    unfold lastN
    rw [List.getLast?_eq_getElem?, List.getElem?_eq_getElem (by omega)]
    exact List.mem_cons_self
theorem cols_last {n m c : Nat} {sg : List Nat} (h : Cols m (n - 1) sg) (hn : 2 ≤ n) (hc : c ∈ (lets m).filter fun c => !decide (c ∈ bars true n (n - 1) sg)) : lastN (sg ++ [c]) ≠ headN (sg ++ [c]) := by
  obtain ⟨h1, h2⟩ := List.mem_filter.mp hc
  have h2 : c ∉ bars true n (n - 1) sg := by simpa using h2
  have hl := h.len
  have e1 : lastN (sg ++ [c]) = c := by unfold lastN; rw [List.getLast?_append]; rfl
  intro z
  rw [e1] at z
  apply h2
  unfold bars
  rw [if_pos (by simp; omega)]
  refine List.mem_append.mpr (.inr ?_)
  rw [z]
  unfold headN
  cases sg with
  | nil => simp at hl; omega
  | cons x xs => simp
end Bg
end Lw

set_option maxHeartbeats 4000000
namespace Lw
open PySem Fu
local macro_rules | `(tactic| walk_at "e1") => `(tactic| first
  | with_reducible refine eo_seq ?_ | (with_reducible refine then_nx' ?_; refine ⟨?_, ?_, ?_⟩; rotate_left; · (try dsimp only [List.set, List.length_cons, List.length_nil, List.cons_append, List.nil_append, Nat.zero_add, Nat.reduceAdd]); exact rfl) | with_reducible refine then_rt ?_ | with_reducible refine eo_if ?_ | with_reducible refine eo_ret ?_ | with_reducible refine eo_set ?_ | with_reducible refine eo_asg ?_ | with_reducible refine eo_drop ?_ | with_reducible refine eo_nx ?_ | with_reducible refine eo_par ?_ | with_reducible refine eo_own ?_ | with_reducible refine eo_retN ?_ | with_reducible refine eo_for ?_ | with_reducible refine eo_retO ?_
  | with_reducible refine ev_c ?_ | (with_reducible refine ev_var ?_; refine ⟨_, rfl, ?_⟩) | with_reducible refine ev_bin ?_ | with_reducible refine ev_un ?_ | with_reducible refine ev_nil ?_ | with_reducible refine ev_cons ?_
  | with_reducible refine ev_tup ?_ | with_reducible refine ev_lst ?_ | with_reducible refine ev_call ?_ | with_reducible refine ev_callF ?_ | with_reducible refine ev_isi ?_ | with_reducible refine ev_isi2 ?_ | with_reducible refine ev_andV ?_ | with_reducible refine ev_orV ?_ | with_reducible refine ev_notV ?_
  | with_reducible refine ev_B ?_ | with_reducible refine ev_and ?_ | with_reducible refine ev_or ?_ | with_reducible refine ev_not ?_ | with_reducible refine ev_yes ?_ | with_reducible refine ev_if ?_ | with_reducible refine ev_no ?_ | with_reducible refine ev_so ?_ | with_reducible refine ev_sl ?_ | with_reducible refine ev_items ?_
  | (with_reducible refine ev_ixO ?_; refine ⟨_, _, rfl, rfl, ?_⟩) | (with_reducible refine ev_varO ?_; refine ⟨_, _, rfl, rfl, ?_⟩) | (with_reducible refine ev_lenO ?_; refine ⟨_, _, rfl, rfl, ?_⟩) | (with_reducible refine ev_scrSl ?_; refine ⟨_, rfl, ?_⟩) | (with_reducible refine ev_scrLen ?_; refine ⟨_, rfl, ?_⟩) | (with_reducible refine ev_callScr ?_; refine ⟨_, rfl, ?_⟩) | (with_reducible refine ev_OL ?_; refine ⟨_, _, rfl, rfl, ?_⟩) | with_reducible refine ev_OR ?_ | with_reducible refine ev_rep ?_ | with_reducible refine ev_listRng1 ?_ | with_reducible refine eo_setO ?_
  | with_reducible refine es_name ?_ | with_reducible refine es_tup2 ?_ | with_reducible refine es_tup3 ?_
  | with_reducible refine ed_addI ?_ | with_reducible refine ed_subI ?_ | with_reducible refine ed_cmp ?_ | with_reducible refine ed_eqI ?_ | with_reducible refine ed_neI ?_ | with_reducible refine ed_slT ?_ | with_reducible refine ed_slL ?_ | with_reducible refine ed_lenT ?_ | with_reducible refine ed_lenL ?_ | with_reducible refine ed_lenS ?_ | with_reducible refine ed_inS ?_ | with_reducible refine ed_itT ?_ | with_reducible refine ed_itL ?_ | with_reducible refine ed_tupL ?_ | with_reducible refine ed_tupT ?_ | with_reducible refine ed_listL ?_ | with_reducible refine ed_listT ?_ | with_reducible refine ed_neg ?_ | with_reducible refine ed_max ?_ | with_reducible refine ed_min ?_ | with_reducible refine ed_intB ?_
  | with_reducible refine ev_rng1 ?_ | with_reducible refine ev_rng2 ?_)
local macro_rules | `(tactic| walk_at "sd") => `(tactic| first | rfl | assumption | (simp only [decide_eq_true_eq, decide_eq_false_iff_not, Bool.not_eq_true', Bool.not_eq_false', Bool.and_eq_true, Bool.or_eq_true, List.length_map, List.length_cons, List.length_nil, List.length_append, List.length_range] at *; omega))
local macro_rules | `(tactic| walk_at "e2") => `(tactic| first
  | walk_at "e1" | with_reducible refine ⟨_, rfl, ?_⟩ | with_reducible refine ⟨_, _, rfl, ?_⟩
  | with_reducible refine And.intro (Eq.refl (List.length _)) ?_ | with_reducible refine And.intro (Nat.le_of_ble_eq_true (n := List.length _) rfl) ?_
  | with_reducible refine And.intro (Eq.refl (_ : Sx)) (?_ : Ed _ _)
  | ((with_reducible refine And.intro ?_ (And.intro ?_ (?_ : Ev _ _))); (· rfl); (· rfl))
  | ((with_reducible refine ed_ixT ?_ ?_ ?_); (· decide); (· rfl)) | ((with_reducible refine ed_ixL ?_ ?_ ?_); (· decide); (· rfl)) | ((with_reducible refine ed_at ?_ ?_ ?_); (· decide); (· rfl))
  | ((with_reducible refine ed_modI ?_ ?_); (· first | decide | omega))
  | with_reducible exact gives_nx | ((with_reducible refine gives_rt ?_); (· rfl)) | ((with_reducible refine And.intro ?_ ?_); (· exact rfl); (· with_reducible exact Eq.refl (_ : Sx))))
local macro_rules | `(tactic| walk_at "e") => `(tactic| repeat walk_at "e2")
/-- begin a def's spec -/
local macro_rules | `(tactic| walk_at "i") => `(tactic| simp only [initS, List.map_cons, List.map_nil, List.length_cons, List.length_nil, Nat.reduceAdd, Nat.reduceSub, List.replicate, List.cons_append, List.nil_append])
/-- a known truth decides -/
local macro_rules | `(tactic| walk_at "t") => `(tactic| first | ((with_reducible refine split_t ?_ ?_); (· walk_at "sd")) | ((with_reducible refine split_t' ?_ ?_); (· walk_at "sd")))
local macro_rules | `(tactic| walk_at "f") => `(tactic| first | ((with_reducible refine split_f ?_ ?_); (· walk_at "sd")) | ((with_reducible refine split_f' ?_ ?_); (· walk_at "sd")))
/-- all that is seen in a look -/
local macro_rules | `(tactic| walk_at "v") => `(tactic| (rw [sealAll_mk (by (simp only [List.set_cons_zero, List.set_cons_succ, List.map_cons, List.map_nil, sealS_none, sealS_dat, sealS_scr, sealS_own, List.getElem?_cons_zero, List.getElem?_cons_succ, sealC_lst]; rfl)) (by (simp only [List.set_cons_zero, List.set_cons_succ, List.map_cons, List.map_nil]; rfl))]))
theorem if_mid {P : Sx → Prop} {A B : Option Out} {Y : Out → Prop} {c : Bool} (h1 : c = true → Eo A fun o => ∃ S, o = .nx S ∧ P S) (h2 : c = false → Eo B fun o => ∃ S, o = .nx S ∧ P S) (h3 : ∀ S, P S → Y (.nx S)) : (c = true → Eo A Y) ∧ (c = false → Eo B Y) :=
  ⟨fun h => (h1 h).mono fun o ⟨S, e, p⟩ => e ▸ h3 S p, fun h => (h2 h).mono fun o ⟨S, e, p⟩ => e ▸ h3 S p⟩
theorem perm_map {α β : Type} {f : α → β} : ∀ {xs : List α} {ys : List β}, ys.Perm (xs.map f) → ∃ zs : List α, ys = zs.map f ∧ zs.Perm xs := by
  intro xs ys h
  generalize hz : xs.map f = zs at h
  induction h generalizing xs with
  | nil => exact ⟨[], rfl, by rw [List.map_eq_nil_iff.mp hz]⟩
  | @cons a l1 l2 hp ih =>
    cases xs with
    | nil => cases hz
    | cons x xs =>
      cases hz
      obtain ⟨zs, rfl, h⟩ := ih rfl
      exact ⟨x :: zs, rfl, h.cons x⟩
  | swap a b l =>
    match xs, hz with
    | x :: y :: xs, hz =>
      cases hz
      exact ⟨y :: x :: xs, rfl, .swap _ _ _⟩
  | trans _ _ ih1 ih2 =>
    obtain ⟨z2, rfl, h2⟩ := ih2 hz
    obtain ⟨z1, rfl, h1⟩ := ih1 rfl
    exact ⟨z1, rfl, h1.trans h2⟩
theorem mk_eq {a b : List (Option R)} {c d : List (Option Cell)} (h : a = b) (k : c = d) : (⟨a, c⟩ : Sx) = ⟨b, d⟩ := by rw [h, k]
theorem and_mid {b2 c : Bool} {k : M D} {S : Sx} {Q : Bool → Sx → Prop} (h : c = true → Ev (k S) fun e S2 => e = .bool b2 ∧ S2 = S) (q : Q (c && b2) S) : (c = true → Ev (k S) fun e S2 => ∃ b, e = .bool b ∧ Q b S2) ∧ (c = false → Q false S) := by
  cases c with
  | true => exact ⟨fun _ => (h rfl).mono fun e S2 h12 => ⟨b2, h12.1, by rw [h12.2]; exact q⟩, (fun z => nomatch z)⟩
  | false => exact ⟨(fun z => nomatch z), fun _ => q⟩
namespace Bg
open Sp
theorem x__law_walk {c n m : Nat} {cl : Bool} {cs : List D} {x : Str} (hx : x.cps.toList = lets m) (m2 : 2 ≤ m) (m4 : m ≤ 4) (n0 : 2 ≤ n) (n1 : n ≤ 1000) (hpar : cl = true → m = 2 → n % 2 = 0) (hB : Bag c cs) (hc : 4 * n + 2 ≤ c) :
    ∃ d cs', m__law_walk cs [.int (n : Int), .bool cl, .str x] = some (d, cs') ∧ ∃ (p : Int) (ls : List Ln) (es : List (Int × Int)) (sp : List Int) (od sg : List Nat), d = .tuple [wb p ls, .list (es.map en)] ∧ WbOk p ls ∧ 0 < p ∧ p ≤ 4 ∧ Walked n sp od sg ls es ∧ rideB ls es = true ∧ (cl = true → roundB ls es = true) ∧ Bag (c - (4 * n + 2)) cs' := by
  unfold m__law_walk; refine mIO_of ?_; walk_at "i"; unfold g__law_walk
  walk_at "e"
  refine ev_drawB ⟨_, rfl, ?_⟩
  walk_at "e"
  refine ⟨_, _, _, rfl, rfl, hB, by omega, by decide, by decide, fun v1 cs a1 b1 hB => ?_⟩
  walk_at "e"
  refine ev_lcA (fun acc os => ∃ cs, ∃ sp : List Int, os = [some (.lst cs)] ∧ acc = sp.map PyData.int ∧ (∀ y ∈ sp, 0 ≤ y ∧ y < 1 + v1) ∧ Bag (c - 1 - acc.length) cs) ?_
  walk_at "e"
  refine ⟨by omega, by omega, ⟨_, [], rfl, rfl, (fun _ h => nomatch h), by simpa using hB⟩, ?_, ?_⟩
  · rintro i d acc os hd ha ⟨cs, sp, rfl, rfl, hsp, hB⟩
    obtain ⟨hi, rfl⟩ := rng_at hd
    have hi : i < n + 1 := by omega
    walk_at "e"
    refine ev_drawB ⟨_, rfl, ?_⟩
    walk_at "e"
    refine ⟨_, _, _, rfl, rfl, hB, by omega, by omega, by omega, fun v cs a b hB => ?_⟩
    refine ⟨rfl, _, sp ++ [v], rfl, by rw [List.map_append]; rfl, fun y hy => ?_, by rw [List.length_append, List.length_singleton]; exact hB.mono (by omega)⟩
    rcases List.mem_append.mp hy with hy | hy
    · exact hsp y hy
    · rw [List.mem_singleton.mp hy]; exact ⟨a, b⟩
  rintro acc os hl ⟨cs, sp, rfl, rfl, hsp, hB⟩
  rw [rng_len, show ((n : Int) + 1).toNat = n + 1 by omega] at hl
  have hspl : sp.length = n + 1 := by simpa using hl
  rw [hl] at hB
  clear hl
  walk_at "e"
  refine if_mid (P := fun S => ∃ sp : List Int, S = ⟨[some (.own 0), some (.dat (.int (n : Int))), some (.dat (.bool cl)), some (.dat (.str x)), some (.dat (.int (1 + v1))), some (.own 1), none, none, none, none, none, none, none, none, none, none], [some (.lst cs), some (.lst (sp.map .int))]⟩ ∧ (∀ y ∈ sp, 0 ≤ y ∧ y < 1 + v1) ∧ sp.length = n + 1 ∧ (cl = true → sp.getD n 0 = sp.getD 0 0)) (fun _ => ?_) (fun h => ?_) ?_
  · have g0 : sp[0]? = some (sp[0]'(by omega)) := List.getElem?_eq_getElem (by omega)
    have m0 : sp[0]'(by omega) ∈ sp := List.getElem_mem _
    generalize sp[0]'(by omega) = y0 at g0 m0
    walk_at "e"
    refine ed_at (by decide) (d := .int y0) (by rw [List.getElem?_map, show (0 : Int).toNat = 0 from rfl, g0]; rfl) ?_
    refine ⟨1, _, rfl, rfl, ?_⟩
    walk_at "e"
    refine ⟨rfl, n, rfl, by simp; omega, ?_⟩
    walk_at "e"
    refine ⟨sp.set n y0, by rw [List.map_set]; rfl, fun y hy => (List.mem_or_eq_of_mem_set hy).elim (hsp y) fun z => z ▸ hsp _ m0, by simpa using hspl, fun _ => ?_⟩
    rw [List.getD_eq_getElem?_getD, List.getD_eq_getElem?_getD, List.getElem?_set_self (by omega), List.getElem?_set_ne (by omega), g0]
  · walk_at "e"
    exact ⟨hsp, hspl, fun z => by rw [h] at z; cases z⟩
  clear hsp hspl sp
  rintro S ⟨sp, rfl, hsp, hspl, hcl⟩
  walk_at "e"
  refine ev_IO ⟨_, rfl, ?_⟩
  walk_at "e"
  refine ⟨by omega, by omega, ?_⟩
  walk_at "e"
  obtain ⟨d, cs, e, ys, rfl, hys, hB⟩ := x__law_mixed (xs := rng 0 (n : Int).toNat) hB (by rw [rng_len]; omega) (by rw [rng_len]; omega)
  obtain ⟨od, rfl, hod⟩ : ∃ od : List Nat, ys = od.map (fun i : Nat => PyData.int (i : Int)) ∧ od.Perm (List.range n) := by
    rw [rng0, Int.toNat_natCast] at hys
    exact perm_map hys
  rw [rng_len, Int.toNat_natCast] at hB
  refine ⟨_, _, e, ?_⟩
  walk_at "e"
  refine ed_mulL (by omega) (by omega) (by simp; omega) ?_
  rw [rep_one, Int.toNat_natCast]
  walk_at "e"
  refine ⟨by omega, by omega, ?_⟩
  have hodl : od.length = n := by simpa using hod.length_eq
  have hodn : od.Nodup := hod.nodup_iff.mpr List.nodup_range
  have hsp' : ∀ i : Nat, i < n → ∃ m, od[i]? = some m ∧ m < n := fun i hi => by
    have := List.getElem?_eq_getElem (show i < od.length by omega)
    exact ⟨_, this, List.mem_range.mp (hod.mem_iff.mp (List.mem_of_getElem? this))⟩
  rw [Int.toNat_natCast]
  have hz0 : List.replicate n PyData.none = (List.replicate n (none : Option Ln)).map lnO := by rw [List.map_replicate]; rfl
  rw [hz0]
  refine eo_loop (fun i S => ∃ x10 x11 x12 x13 x14 cs sg qs es, S = ⟨[some (.own 0), some (.dat (.int (n : Int))), some (.dat (.bool cl)), some (.dat (.str x)), some (.dat (.int (1 + v1))), some (.own 1), some (.dat (.list (od.map fun i : Nat => PyData.int (i : Int)))), some (.own 2), some (.own 3), some (.own 4), x10, x11, x12, x13, x14, none], [some (.lst cs), some (.lst (sp.map .int)), some (.lst (qs.map lnO)), some (.lst (sg.map ch)), some (.lst (es.map en))]⟩ ∧ Wk n i sp od sg qs es ∧ Cols m i sg ∧ (cl = true → i = n → lastN sg ≠ headN sg) ∧ Bag (c - (2 * n + 2) - 2 * i) cs) ⟨_, _, _, _, _, _, [], _, [], rfl, .zero n sp od, ⟨rfl, (fun _ h => nomatch h), fun i a b ha _ => by simp at ha⟩, fun _ z => by omega, hB.mono (by omega)⟩ ?_ ?_
  · rintro i d S hd ⟨x10, x11, x12, x13, x14, cs, sg, qs, es, rfl, hwk, hco, hcl2, hB⟩
    obtain ⟨hi, rfl⟩ := rng_at hd
    obtain ⟨mm, hmm, hmn⟩ := hsp' i hi
    have hsgl := hwk.glen
    have hesl := hwk.elen
    have hqsl := hwk.qlen
    walk_at "e"
    refine ev_slO ⟨_, rfl, ?_⟩
    walk_at "e"
    refine ev_slO ⟨_, rfl, ?_⟩
    walk_at "e"
    refine and_mid (b2 := decide ((0 + (i : Int)) = (n : Int) - 1)) (fun _ => ?_) ?_
    · walk_at "e"
    walk_at "e"
    rw [cut_last, cut_to (by split <;> omega)]
    have eb : (sg.map ch).drop ((sg.map ch).length - 1) ++ (sg.map ch).take (if (cl && decide ((0 + (i : Int)) = (n : Int) - 1)) = true then (1 : Int) else 0).toNat = (bars cl n i sg).map ch := by
      unfold bars
      rw [List.map_append, List.map_drop, List.map_take, List.length_map, Int.zero_add]
      congr 2
      split <;> rfl
    refine ed_addL (by simp; omega) ?_
    rw [eb]
    walk_at "e"
    have hlet : ∀ c ∈ sg, Let c := fun c hc => by
      have := mem_lets.mp (hco.mem c hc)
      exact ⟨this.1, by omega⟩
    have hbar : ∀ c ∈ bars cl n i sg, Let c := fun c hc => by
      unfold bars at hc
      rcases List.mem_append.mp hc with hc | hc
      · exact hlet c (List.mem_of_mem_drop hc)
      · exact hlet c (List.mem_of_mem_take hc)
    refine ev_lcX (xs := lets m) (enc := ch) (b := fun c => !decide (c ∈ bars cl n i sg)) (g := ch) ?_
    walk_at "e"
    refine ⟨_, rfl, by unfold chars; rw [hx]; rfl, fun y hy => ?_, ?_⟩
    · have hy := mem_lets.mp hy
      walk_at "e"
      refine ed_notInCh hbar ⟨hy.1, by omega⟩ ?_
      walk_at "e"
      refine ⟨rfl, rfl, fun _ => ?_⟩
      walk_at "e"
    walk_at "e"
    have hmenu := bars_ok (cl := cl) hco m2 hi hpar n0
    have hmlen : ((lets m).filter fun c => !decide (c ∈ bars cl n i sg)).length ≤ 4 := by
      refine Nat.le_trans (List.length_filter_le _ _) ?_
      unfold lets
      simpa using m4
    have hmpos := List.length_pos_iff.mpr hmenu
    refine ev_app ⟨_, _, rfl, rfl, ?_⟩
    walk_at "e"
    refine ev_drawB ⟨_, rfl, ?_⟩
    walk_at "e"
    refine ⟨_, _, _, rfl, rfl, hB, by omega, by simpa using hmpos, by simp; omega, fun v2 cs a2 b2 hB => ?_⟩
    refine ed_picked (P := fun d => ∃ y, d = ch y ∧ y ∈ (lets m).filter fun c => !decide (c ∈ bars cl n i sg)) a2 (by simpa using b2) (fun x hx => ?_) ?_
    · obtain ⟨f, hf, rfl⟩ := List.mem_map.mp hx
      exact ⟨f, rfl, hf⟩
    rintro _ _ ⟨y, rfl, hy⟩
    walk_at "e"
    refine ⟨by simp; omega, ?_⟩
    walk_at "e"
    refine ev_drawB ⟨_, rfl, ?_⟩
    walk_at "e"
    refine ⟨_, _, _, rfl, rfl, hB, by omega, by decide, by decide, fun sd cs a3 b3 hB => ?_⟩
    walk_at "e"
    refine ev_stepL ?_
    refine ev_slO ⟨_, rfl, ?_⟩
    walk_at "e"
    rw [Int.zero_add, cut_two (by omega)]
    have hsd : sd = 0 ∨ sd = 1 := by omega
    have hgl : (sg ++ [y])[i]? = some y := by rw [List.getElem?_append_right (by omega), hsgl, Nat.sub_self]; rfl
    have hgd : (sg ++ [y]).getD i 0 = y := by rw [List.getD_eq_getElem?_getD, hgl]; rfl
    have hwk2 := hwk.step (c := y) hodn hmm hmn hsd
    have hco2 := cols_add hco hy
    have hcl3 : cl = true → i + 1 = n → lastN (sg ++ [y]) ≠ headN (sg ++ [y]) := fun h1 h2 => by
      subst h1
      obtain rfl : i = n - 1 := by omega
      exact cols_last hco n0 hy
    have hln : lnAt sp (sg ++ [y]) i sd = (if sd = 0 then (sp.getD i 0, sp.getD (i + 1) 0, y) else (sp.getD (i + 1) 0, sp.getD i 0, y)) := by unfold lnAt; rw [hgd]
    have hmi : (od.map fun i : Nat => PyData.int (i : Int))[(i : Int).toNat]? = some (.int (mm : Int)) := by rw [Int.toNat_natCast, List.getElem?_map, hmm]; rfl
    have hgc : ((sg ++ [y]).map ch)[(i : Int).toNat]? = some (ch y) := by rw [Int.toNat_natCast, List.getElem?_map, hgl]; rfl
    rw [List.map_append, List.map_singleton] at hgc
    rcases hsd with rfl | rfl
    · refine ed_ixL (by decide) rfl ?_
      refine ⟨_, rfl, .inl ⟨rfl, ?_⟩⟩
      walk_at "e"
      refine ed_ixL (by decide) rfl ?_
      walk_at "e"
      refine ed_ixL (by decide) rfl ?_
      walk_at "e"
      refine ed_at (by omega) hgc ?_
      walk_at "e"
      refine ⟨2, _, rfl, rfl, ?_⟩
      walk_at "e"
      refine ed_ixL (by omega) hmi ?_
      refine ⟨rfl, mm, rfl, by simp; omega, ?_⟩
      walk_at "e"
      refine ev_app ⟨_, _, rfl, rfl, ?_⟩
      walk_at "e"
      refine ed_ixL (by omega) hmi ?_
      walk_at "e"
      refine ⟨by simp; omega, ?_⟩
      walk_at "e"
      refine ⟨_, _, _, _, _, cs, _, _, _, mk_eq rfl ?_, hwk2, hco2, hcl3, hB.mono (by omega)⟩
      rw [List.map_set, List.map_append, List.map_append, hln, if_pos rfl]
      rfl
    · refine ed_ixL (by decide) rfl ?_
      refine ⟨_, rfl, .inr ⟨rfl, ?_⟩⟩
      walk_at "e"
      refine ed_ixL (by decide) rfl ?_
      walk_at "e"
      refine ed_ixL (by decide) rfl ?_
      walk_at "e"
      refine ed_at (by omega) hgc ?_
      walk_at "e"
      refine ⟨2, _, rfl, rfl, ?_⟩
      walk_at "e"
      refine ed_ixL (by omega) hmi ?_
      refine ⟨rfl, mm, rfl, by simp; omega, ?_⟩
      walk_at "e"
      refine ev_app ⟨_, _, rfl, rfl, ?_⟩
      walk_at "e"
      refine ed_ixL (by omega) hmi ?_
      walk_at "e"
      refine ⟨by simp; omega, ?_⟩
      walk_at "e"
      refine ⟨_, _, _, _, _, cs, _, _, _, mk_eq rfl ?_, hwk2, hco2, hcl3, hB.mono (by omega)⟩
      rw [List.map_set, List.map_append, List.map_append, hln, if_neg (by decide)]
      rfl
  · rintro S ⟨x10, x11, x12, x13, x14, cs, sg, qs, es, rfl, hwk, hco, hcl2, hB⟩
    rw [rng_len] at hwk hco hcl2 hB
    obtain ⟨ls, rfl, hw⟩ := hwk.done hod
    walk_at "e"
    have hgt : ∀ c ∈ sg, Let c := fun c hc => by
      have := mem_lets.mp (hco.mem c hc)
      exact ⟨this.1, by omega⟩
    have hok : WbOk (1 + v1) ls := ⟨by omega, fun l hl => by
      obtain ⟨j, hj⟩ := List.mem_iff_getElem?.mp hl
      have hjl := (List.getElem?_eq_some_iff.mp hj).1
      rw [hw.llen] at hjl
      obtain ⟨k, hk⟩ := List.mem_iff_getElem?.mp (hod.mem_iff.mpr (List.mem_range.mpr hjl))
      have hkl := (List.getElem?_eq_some_iff.mp hk).1
      rw [hodl] at hkl
      obtain ⟨m', s', e1, _, _, e4⟩ := hw.at' k hkl
      rw [hk] at e1; cases e1
      rw [hj] at e4; cases e4
      exact lnAt_ok hsp hspl hgt (by rw [hw.glen]; exact hkl) hkl, by have := hw.llen; omega⟩
    refine ⟨cs, rfl, 1 + v1, ls, es, sp, od, sg, ?_, hok, by omega, by omega, hw, walked_ride hw (by omega) hco.adj, fun h => walked_round hw (by omega) hco.adj (hcl h) (hcl2 h rfl), hB.mono (by omega)⟩
    unfold wb
    rw [List.map_map]
    rfl
end Bg
end Lw

set_option maxHeartbeats 4000000
namespace Lw
open PySem Fu
local macro_rules | `(tactic| walk_at "e1") => `(tactic| first
  | with_reducible refine eo_seq ?_ | (with_reducible refine then_nx' ?_; refine ⟨?_, ?_, ?_⟩; rotate_left; · (try dsimp only [List.set, List.length_cons, List.length_nil, List.cons_append, List.nil_append, Nat.zero_add, Nat.reduceAdd]); exact rfl) | with_reducible refine then_rt ?_ | with_reducible refine eo_if ?_ | with_reducible refine eo_ret ?_ | with_reducible refine eo_set ?_ | with_reducible refine eo_asg ?_ | with_reducible refine eo_drop ?_ | with_reducible refine eo_nx ?_ | with_reducible refine eo_par ?_ | with_reducible refine eo_own ?_ | with_reducible refine eo_retN ?_ | with_reducible refine eo_for ?_ | with_reducible refine eo_retO ?_
  | with_reducible refine ev_c ?_ | (with_reducible refine ev_var ?_; refine ⟨_, rfl, ?_⟩) | with_reducible refine ev_bin ?_ | with_reducible refine ev_un ?_ | with_reducible refine ev_nil ?_ | with_reducible refine ev_cons ?_
  | with_reducible refine ev_tup ?_ | with_reducible refine ev_lst ?_ | with_reducible refine ev_call ?_ | with_reducible refine ev_callF ?_ | with_reducible refine ev_isi ?_ | with_reducible refine ev_isi2 ?_ | with_reducible refine ev_andV ?_ | with_reducible refine ev_orV ?_ | with_reducible refine ev_notV ?_
  | with_reducible refine ev_B ?_ | with_reducible refine ev_and ?_ | with_reducible refine ev_or ?_ | with_reducible refine ev_not ?_ | with_reducible refine ev_yes ?_ | with_reducible refine ev_if ?_ | with_reducible refine ev_no ?_ | with_reducible refine ev_so ?_ | with_reducible refine ev_sl ?_ | with_reducible refine ev_items ?_
  | (with_reducible refine ev_ixO ?_; refine ⟨_, _, rfl, rfl, ?_⟩) | (with_reducible refine ev_varO ?_; refine ⟨_, _, rfl, rfl, ?_⟩) | (with_reducible refine ev_lenO ?_; refine ⟨_, _, rfl, rfl, ?_⟩) | (with_reducible refine ev_scrSl ?_; refine ⟨_, rfl, ?_⟩) | (with_reducible refine ev_scrLen ?_; refine ⟨_, rfl, ?_⟩) | (with_reducible refine ev_callScr ?_; refine ⟨_, rfl, ?_⟩) | (with_reducible refine ev_OL ?_; refine ⟨_, _, rfl, rfl, ?_⟩) | with_reducible refine ev_OR ?_ | with_reducible refine ev_rep ?_ | with_reducible refine ev_listRng1 ?_ | with_reducible refine eo_setO ?_
  | with_reducible refine es_name ?_ | with_reducible refine es_tup2 ?_ | with_reducible refine es_tup3 ?_
  | with_reducible refine ed_addI ?_ | with_reducible refine ed_subI ?_ | with_reducible refine ed_cmp ?_ | with_reducible refine ed_eqI ?_ | with_reducible refine ed_neI ?_ | with_reducible refine ed_slT ?_ | with_reducible refine ed_slL ?_ | with_reducible refine ed_lenT ?_ | with_reducible refine ed_lenL ?_ | with_reducible refine ed_lenS ?_ | with_reducible refine ed_inS ?_ | with_reducible refine ed_itT ?_ | with_reducible refine ed_itL ?_ | with_reducible refine ed_tupL ?_ | with_reducible refine ed_tupT ?_ | with_reducible refine ed_listL ?_ | with_reducible refine ed_listT ?_ | with_reducible refine ed_neg ?_ | with_reducible refine ed_max ?_ | with_reducible refine ed_min ?_ | with_reducible refine ed_intB ?_
  | with_reducible refine ev_rng1 ?_ | with_reducible refine ev_rng2 ?_)
local macro_rules | `(tactic| walk_at "sd") => `(tactic| first | rfl | assumption | (simp only [decide_eq_true_eq, decide_eq_false_iff_not, Bool.not_eq_true', Bool.not_eq_false', Bool.and_eq_true, Bool.or_eq_true, List.length_map, List.length_cons, List.length_nil, List.length_append, List.length_range] at *; omega))
local macro_rules | `(tactic| walk_at "e2") => `(tactic| first
  | walk_at "e1" | with_reducible refine ⟨_, rfl, ?_⟩ | with_reducible refine ⟨_, _, rfl, ?_⟩
  | with_reducible refine And.intro (Eq.refl (List.length _)) ?_ | with_reducible refine And.intro (Nat.le_of_ble_eq_true (n := List.length _) rfl) ?_
  | with_reducible refine And.intro (Eq.refl (_ : Sx)) (?_ : Ed _ _)
  | ((with_reducible refine And.intro ?_ (And.intro ?_ (?_ : Ev _ _))); (· rfl); (· rfl))
  | ((with_reducible refine ed_ixT ?_ ?_ ?_); (· decide); (· rfl)) | ((with_reducible refine ed_ixL ?_ ?_ ?_); (· decide); (· rfl)) | ((with_reducible refine ed_at ?_ ?_ ?_); (· decide); (· rfl))
  | ((with_reducible refine ed_modI ?_ ?_); (· first | decide | omega))
  | with_reducible exact gives_nx | ((with_reducible refine gives_rt ?_); (· rfl)) | ((with_reducible refine And.intro ?_ ?_); (· exact rfl); (· with_reducible exact Eq.refl (_ : Sx))))
local macro_rules | `(tactic| walk_at "e") => `(tactic| repeat walk_at "e2")
/-- begin a def's spec -/
local macro_rules | `(tactic| walk_at "i") => `(tactic| simp only [initS, List.map_cons, List.map_nil, List.length_cons, List.length_nil, Nat.reduceAdd, Nat.reduceSub, List.replicate, List.cons_append, List.nil_append])
/-- a known truth decides -/
local macro_rules | `(tactic| walk_at "t") => `(tactic| first | ((with_reducible refine split_t ?_ ?_); (· walk_at "sd")) | ((with_reducible refine split_t' ?_ ?_); (· walk_at "sd")))
local macro_rules | `(tactic| walk_at "f") => `(tactic| first | ((with_reducible refine split_f ?_ ?_); (· walk_at "sd")) | ((with_reducible refine split_f' ?_ ?_); (· walk_at "sd")))
/-- all that is seen in a look -/
local macro_rules | `(tactic| walk_at "v") => `(tactic| (rw [sealAll_mk (by (simp only [List.set_cons_zero, List.set_cons_succ, List.map_cons, List.map_nil, sealS_none, sealS_dat, sealS_scr, sealS_own, List.getElem?_cons_zero, List.getElem?_cons_succ, sealC_lst]; rfl)) (by (simp only [List.set_cons_zero, List.set_cons_succ, List.map_cons, List.map_nil]; rfl))]))
/-! ### rounds handed in, places, the other way about: of any data -/
theorem isEn_tup {d : D} {e : Int × Int} (s : IsEn d e) {Q : D → Prop} (q : Q (en e)) : Ed (dTuple [d]) Q := ed_tupQ s q
theorem x_need_round {w : D} {p : Int} {ls : List Ln} {d : D} {es : List (Int × Int)} (hw : Web w p ls) (h : WbOk p ls) (hd : IsRide d es) (hz : es.length ≤ 4000) (hr : roundB ls es = true) : m_need_round [w, d] = some (lE es) := by
  have hr' : roundD ls d = true := by rw [roundD_of hd]; exact hr
  obtain ⟨ps, s, rfl, hp⟩ := hd
  have hl : lenD d ≤ 4000 := by rw [lenD_of s]; simpa using hz
  unfold m_need_round; refine mF_of ?_; walk_at "i"; unfold g_need_round
  walk_at "e"
  refine Ed.of (x_round_is hw h d hl) ?_
  rw [hr']
  walk_at "e"
  walk_at "f"
  walk_at "e"
  refine ev_mapX (xs := ps) (enc := (·.1)) (g := fun q => en q.2) ?_
  walk_at "e"
  refine ed_itQ s ⟨rfl, fun q hq => ?_, ?_⟩
  · walk_at "e"
    exact isEn_tup (hp q hq) ⟨rfl, rfl⟩
  · walk_at "e"
    rw [gives_rtI]; unfold lE; rw [List.map_map]; rfl
theorem x_places_along {w : D} {p : Int} {ls : List Ln} {es : List (Int × Int)} (hw : Web w p ls) (hz : es.length ≤ 1000000) (hn : es ≠ []) (hall : ∀ e ∈ es, EndOk ls.length e) : m_places_along [w, lE es] = some (.list ((along ls es).map .int)) := by
  obtain ⟨l1, l2⟩ := last_mem hn
  unfold m_places_along lE; refine mF_of ?_; walk_at "i"; unfold g_places_along
  walk_at "e"
  refine ev_mapX (xs := es) (enc := en) (g := fun e => .int (plc ls e)) ?_
  walk_at "e"
  refine ⟨rfl, fun e he => ?_, ?_⟩
  · walk_at "e"
    exact Ed.of (x_place_of hw (isEn_en e) (hall e he)) ⟨rfl, rfl⟩
  walk_at "e"
  refine ed_lastQ (sq_l _) (x := en (lastE es)) (by rw [List.getLast?_map, l1]; rfl) ?_
  walk_at "e"
  refine Ed.of (x_far_end (isEn_en _)) ?_
  walk_at "e"
  refine Ed.of (x_place_of hw (isEn_en _) (hall _ l2).far) ?_
  walk_at "e"
  refine ed_addL (by simp; omega) ?_
  rw [gives_rtI]
  unfold along
  rw [List.map_append, List.map_map]; rfl
theorem x_faced_about {es : List (Int × Int)} : m_faced_about [lE es] = some (lE (rv es)) := by
  unfold m_faced_about lE; refine mF_of ?_; walk_at "i"; unfold g_faced_about
  walk_at "e"
  refine ev_mapX (xs := es.reverse) (enc := en) (g := fun e => en (far e)) ?_
  walk_at "e"
  refine ed_rev ?_
  walk_at "e"
  refine ⟨by rw [List.map_reverse], fun e he => ?_, ?_⟩
  · walk_at "e"
    exact Ed.of (x_far_end (isEn_en e)) ⟨rfl, rfl⟩
  · walk_at "e"
    rw [gives_rtI]
    unfold rv
    rw [List.map_map]; rfl
/-! ### turnings -/
def tD (t : List Nat) : D := .tuple (t.map fun i : Nat => PyData.int (i : Int))
def put (t : List Nat) (es : List (Int × Int)) : List (Int × Int) := match t with
  | [i, j] => es.take i ++ rv ((es.take j).drop i) ++ es.drop j
  | [i, j, k, l] => es.take i ++ (es.take l).drop k ++ (es.take k).drop j ++ (es.take j).drop i ++ es.drop l
  | _ => es
theorem x_put2 {es : List (Int × Int)} {i j : Nat} (hz : es.length ≤ 100000) : m_put_otherwise [lE es, tD [i, j]] = some (lE (put [i, j] es)) := by
  unfold m_put_otherwise lE tD; refine mF_of ?_; walk_at "i"; unfold g_put_otherwise
  walk_at "e"
  walk_at "t"
  walk_at "e"
  rw [Bg.cut_mid (by omega) (by omega), ← List.map_take, ← List.map_drop]
  refine Ed.of x_faced_about ?_
  unfold lE
  walk_at "e"
  rw [cut_to (by omega), Int.toNat_natCast, Int.toNat_natCast]
  have h1 : (rv ((es.take j).drop i)).length ≤ es.length := by rw [rv_len, List.length_drop, List.length_take]; omega
  refine ed_addL (by simp; omega) ?_
  walk_at "e"
  rw [cut_from (by omega), Int.toNat_natCast]
  refine ed_addL (by simp; omega) ?_
  walk_at "e"
  rw [gives_rtI]
  unfold put
  rw [List.map_append, List.map_append, List.map_take, List.map_drop]
theorem es_tup4 {S : Sx} {W : Sx → Prop} {i j k l : Nat} {d e f g : D} (h : W ⟨(((S.sl.set i (some (.dat d))).set j (some (.dat e))).set k (some (.dat f))).set l (some (.dat g)), S.os⟩) : Es (sTup 4 (sCons (sName i) (sCons (sName j) (sCons (sName k) (sCons (sName l) sNil)))) (.tuple [d, e, f, g]) S) W := ⟨_, rfl, h⟩
theorem x_put4 {es : List (Int × Int)} {i j k l : Nat} (hz : es.length ≤ 100000) : m_put_otherwise [lE es, tD [i, j, k, l]] = some (lE (put [i, j, k, l] es)) := by
  unfold m_put_otherwise lE tD; refine mF_of ?_; walk_at "i"; unfold g_put_otherwise
  walk_at "e"
  walk_at "f"
  walk_at "e"
  refine es_tup4 ?_
  walk_at "e"
  rw [cut_to (by omega), Bg.cut_mid (by omega) (by omega), Int.toNat_natCast, Int.toNat_natCast, Int.toNat_natCast]
  refine ed_addL (by simp; omega) ?_
  walk_at "e"
  rw [Bg.cut_mid (by omega) (by omega), Int.toNat_natCast, Int.toNat_natCast]
  refine ed_addL (by simp; omega) ?_
  walk_at "e"
  rw [Bg.cut_mid (by omega) (by omega), Int.toNat_natCast, Int.toNat_natCast]
  refine ed_addL (by simp; omega) ?_
  walk_at "e"
  rw [cut_from (by omega), Int.toNat_natCast]
  refine ed_addL (by simp; omega) ?_
  rw [gives_rtI]
  unfold put
  simp only [List.map_append, List.map_take, List.map_drop]
/-! ### which turnings may be -/
def PairIn (ps : List Int) (i j : Nat) : Prop := i < j ∧ j < ps.length ∧ ps.getD i 0 = ps.getD j 0
def mates (ps : List Int) (i : Nat) : List Nat := ((List.range (ps.length - (i + 1))).map fun k => i + 1 + k).filter fun j => decide (ps.getD j 0 = ps.getD i 0)
def pairs (ps : List Int) (n : Nat) : List (List Nat) := (List.range n).flatMap fun i => (mates ps i).map fun j => [i, j]
theorem mem_mates {ps : List Int} {i j : Nat} : j ∈ mates ps i ↔ PairIn ps i j := by
  unfold mates PairIn
  rw [List.mem_filter, List.mem_map, decide_eq_true_eq]
  constructor
  · rintro ⟨⟨k, hk, rfl⟩, h⟩
    rw [List.mem_range] at hk
    exact ⟨by omega, by omega, h.symm⟩
  · rintro ⟨h1, h2, h3⟩
    exact ⟨⟨j - (i + 1), List.mem_range.mpr (by omega), by omega⟩, h3.symm⟩
theorem mem_pairs {ps : List Int} {t : List Nat} : t ∈ pairs ps ps.length ↔ ∃ i j, t = [i, j] ∧ PairIn ps i j := by
  unfold pairs
  rw [List.mem_flatMap]
  constructor
  · rintro ⟨i, _, h⟩
    obtain ⟨j, hj, rfl⟩ := List.mem_map.mp h
    exact ⟨i, j, rfl, mem_mates.mp hj⟩
  · rintro ⟨i, j, rfl, h⟩
    exact ⟨i, List.mem_range.mpr (by have := h.1; have := h.2.1; omega), List.mem_map.mpr ⟨j, mem_mates.mpr h, rfl⟩⟩
theorem pairs_len (ps : List Int) (n : Nat) : (pairs ps n).length ≤ n * ps.length := by
  induction n with
  | zero => simp [pairs]
  | succ n ih =>
    unfold pairs at *
    rw [List.range_succ, List.flatMap_append, List.length_append, Nat.add_mul, Nat.one_mul]
    refine Nat.add_le_add ih ?_
    rw [List.flatMap_cons, List.flatMap_nil, List.append_nil, List.length_map]
    unfold mates
    refine Nat.le_trans (List.length_filter_le _ _) ?_
    rw [List.length_map, List.length_range]; omega
theorem x_pairs_alike {ps : List Int} (hz : ps.length ≤ 1000) : m_pairs_alike [.list (ps.map .int)] = some (.list ((pairs ps ps.length).map tD)) := by
  unfold m_pairs_alike; refine mF_of ?_; walk_at "i"; unfold g_pairs_alike
  walk_at "e"
  refine ev_enum ?_
  walk_at "e"
  refine eo_loop (fun i S => ∃ x2 x3, S = ⟨[some (.dat (.list (ps.map .int))), some (.own 0), x2, x3, none], [some (.lst ((pairs ps i).map tD))]⟩) ⟨_, _, rfl⟩ ?_ ?_
  · rintro i d S hd ⟨x2, x3, rfl⟩
    rw [enumD_at, List.getElem?_map, Option.map_map] at hd
    obtain ⟨v, hv, rfl⟩ := Option.map_eq_some_iff.mp hd
    have hi := (List.getElem?_eq_some_iff.mp hv).1
    have hvd : ps.getD i 0 = v := by rw [List.getD_eq_getElem?_getD, hv]; rfl
    simp only [Function.comp, Nat.zero_add]
    walk_at "e"
    refine eo_augL ⟨_, _, rfl, rfl, ?_⟩
    refine ev_lcX (xs := (List.range (ps.length - (i + 1))).map fun k => i + 1 + k) (enc := fun j : Nat => .int (j : Int)) (b := fun j => decide (ps.getD j 0 = ps.getD i 0)) (g := fun j => tD [i, j]) ?_
    walk_at "e"
    refine ⟨by omega, by omega, by simp <;> omega, by simp <;> omega, by simp <;> omega, ?_, fun j hj => ?_, ?_⟩
    · rw [rng_map, List.map_map, List.length_map, show ((ps.length : Int) - ((i : Int) + 1)).toNat = ps.length - (i + 1) by omega]
      exact List.map_congr_left fun k _ => by simp [Function.comp]
    · obtain ⟨k, hk, rfl⟩ := List.mem_map.mp hj
      rw [List.mem_range] at hk
      walk_at "e"
      refine ed_ixL (by omega) (d := .int (ps.getD (i + 1 + k) 0)) ?_ ?_
      · rw [Int.toNat_natCast, List.getElem?_map, List.getElem?_eq_getElem (by omega), List.getD_eq_getElem?_getD, List.getElem?_eq_getElem (by omega)]; rfl
      walk_at "e"
      refine ⟨rfl, by rw [hvd], fun _ => ?_⟩
      walk_at "e"
    · have hpl := pairs_len ps i
      have hml : (((List.range (ps.length - (i + 1))).map fun k => i + 1 + k).filter fun j => decide (ps.getD j 0 = ps.getD i 0)).length ≤ 1000 := by
        refine Nat.le_trans (List.length_filter_le _ _) ?_
        rw [List.length_map, List.length_range]; omega
      have hpl2 : i * ps.length ≤ 1000 * 1000 := Nat.mul_le_mul (by omega) hz
      refine ⟨_, _, rfl, rfl, by simp only [List.length_map]; omega, _, rfl, _, _, mk_eq rfl ?_⟩
      unfold pairs
      rw [List.range_succ, List.flatMap_append, List.map_append, List.flatMap_cons, List.flatMap_nil, List.append_nil, List.map_map]
      rfl
  · rintro S ⟨x2, x3, rfl⟩
    rw [enumD_len, List.length_map]
    walk_at "e"
end Lw

set_option maxHeartbeats 4000000
namespace Lw
open PySem Fu
local macro_rules | `(tactic| walk_at "e1") => `(tactic| first
  | with_reducible refine eo_seq ?_ | (with_reducible refine then_nx' ?_; refine ⟨?_, ?_, ?_⟩; rotate_left; · (try dsimp only [List.set, List.length_cons, List.length_nil, List.cons_append, List.nil_append, Nat.zero_add, Nat.reduceAdd]); exact rfl) | with_reducible refine then_rt ?_ | with_reducible refine eo_if ?_ | with_reducible refine eo_ret ?_ | with_reducible refine eo_set ?_ | with_reducible refine eo_asg ?_ | with_reducible refine eo_drop ?_ | with_reducible refine eo_nx ?_ | with_reducible refine eo_par ?_ | with_reducible refine eo_own ?_ | with_reducible refine eo_retN ?_ | with_reducible refine eo_for ?_ | with_reducible refine eo_retO ?_
  | with_reducible refine ev_c ?_ | (with_reducible refine ev_var ?_; refine ⟨_, rfl, ?_⟩) | with_reducible refine ev_bin ?_ | with_reducible refine ev_un ?_ | with_reducible refine ev_nil ?_ | with_reducible refine ev_cons ?_
  | with_reducible refine ev_tup ?_ | with_reducible refine ev_lst ?_ | with_reducible refine ev_call ?_ | with_reducible refine ev_callF ?_ | with_reducible refine ev_isi ?_ | with_reducible refine ev_isi2 ?_ | with_reducible refine ev_andV ?_ | with_reducible refine ev_orV ?_ | with_reducible refine ev_notV ?_
  | with_reducible refine ev_B ?_ | with_reducible refine ev_and ?_ | with_reducible refine ev_or ?_ | with_reducible refine ev_not ?_ | with_reducible refine ev_yes ?_ | with_reducible refine ev_if ?_ | with_reducible refine ev_no ?_ | with_reducible refine ev_so ?_ | with_reducible refine ev_sl ?_ | with_reducible refine ev_items ?_
  | (with_reducible refine ev_ixO ?_; refine ⟨_, _, rfl, rfl, ?_⟩) | (with_reducible refine ev_varO ?_; refine ⟨_, _, rfl, rfl, ?_⟩) | (with_reducible refine ev_lenO ?_; refine ⟨_, _, rfl, rfl, ?_⟩) | (with_reducible refine ev_scrSl ?_; refine ⟨_, rfl, ?_⟩) | (with_reducible refine ev_scrLen ?_; refine ⟨_, rfl, ?_⟩) | (with_reducible refine ev_callScr ?_; refine ⟨_, rfl, ?_⟩) | (with_reducible refine ev_OL ?_; refine ⟨_, _, rfl, rfl, ?_⟩) | with_reducible refine ev_OR ?_ | with_reducible refine ev_rep ?_ | with_reducible refine ev_listRng1 ?_ | with_reducible refine eo_setO ?_
  | with_reducible refine es_name ?_ | with_reducible refine es_tup2 ?_ | with_reducible refine es_tup3 ?_
  | with_reducible refine ed_addI ?_ | with_reducible refine ed_subI ?_ | with_reducible refine ed_cmp ?_ | with_reducible refine ed_eqI ?_ | with_reducible refine ed_neI ?_ | with_reducible refine ed_slT ?_ | with_reducible refine ed_slL ?_ | with_reducible refine ed_lenT ?_ | with_reducible refine ed_lenL ?_ | with_reducible refine ed_lenS ?_ | with_reducible refine ed_inS ?_ | with_reducible refine ed_itT ?_ | with_reducible refine ed_itL ?_ | with_reducible refine ed_tupL ?_ | with_reducible refine ed_tupT ?_ | with_reducible refine ed_listL ?_ | with_reducible refine ed_listT ?_ | with_reducible refine ed_neg ?_ | with_reducible refine ed_max ?_ | with_reducible refine ed_min ?_ | with_reducible refine ed_intB ?_
  | with_reducible refine ev_rng1 ?_ | with_reducible refine ev_rng2 ?_)
local macro_rules | `(tactic| walk_at "sd") => `(tactic| first | rfl | assumption | (simp only [decide_eq_true_eq, decide_eq_false_iff_not, Bool.not_eq_true', Bool.not_eq_false', Bool.and_eq_true, Bool.or_eq_true, List.length_map, List.length_cons, List.length_nil, List.length_append, List.length_range] at *; omega))
local macro_rules | `(tactic| walk_at "e2") => `(tactic| first
  | walk_at "e1" | with_reducible refine ⟨_, rfl, ?_⟩ | with_reducible refine ⟨_, _, rfl, ?_⟩
  | with_reducible refine And.intro (Eq.refl (List.length _)) ?_ | with_reducible refine And.intro (Nat.le_of_ble_eq_true (n := List.length _) rfl) ?_
  | with_reducible refine And.intro (Eq.refl (_ : Sx)) (?_ : Ed _ _)
  | ((with_reducible refine And.intro ?_ (And.intro ?_ (?_ : Ev _ _))); (· rfl); (· rfl))
  | ((with_reducible refine ed_ixT ?_ ?_ ?_); (· decide); (· rfl)) | ((with_reducible refine ed_ixL ?_ ?_ ?_); (· decide); (· rfl)) | ((with_reducible refine ed_at ?_ ?_ ?_); (· decide); (· rfl))
  | ((with_reducible refine ed_modI ?_ ?_); (· first | decide | omega))
  | with_reducible exact gives_nx | ((with_reducible refine gives_rt ?_); (· rfl)) | ((with_reducible refine And.intro ?_ ?_); (· exact rfl); (· with_reducible exact Eq.refl (_ : Sx))))
local macro_rules | `(tactic| walk_at "e") => `(tactic| repeat walk_at "e2")
/-- begin a def's spec -/
local macro_rules | `(tactic| walk_at "i") => `(tactic| simp only [initS, List.map_cons, List.map_nil, List.length_cons, List.length_nil, Nat.reduceAdd, Nat.reduceSub, List.replicate, List.cons_append, List.nil_append])
/-- a known truth decides -/
local macro_rules | `(tactic| walk_at "t") => `(tactic| first | ((with_reducible refine split_t ?_ ?_); (· walk_at "sd")) | ((with_reducible refine split_t' ?_ ?_); (· walk_at "sd")))
local macro_rules | `(tactic| walk_at "f") => `(tactic| first | ((with_reducible refine split_f ?_ ?_); (· walk_at "sd")) | ((with_reducible refine split_f' ?_ ?_); (· walk_at "sd")))
/-- all that is seen in a look -/
local macro_rules | `(tactic| walk_at "v") => `(tactic| (rw [sealAll_mk (by (simp only [List.set_cons_zero, List.set_cons_succ, List.map_cons, List.map_nil, sealS_none, sealS_dat, sealS_scr, sealS_own, List.getElem?_cons_zero, List.getElem?_cons_succ, sealC_lst]; rfl)) (by (simp only [List.set_cons_zero, List.set_cons_succ, List.map_cons, List.map_nil]; rfl))]))
theorem ev_chain3I {S : Sx} {p1 p2 p3 : Int → Int → Bool} {ga gb gc gd : M D} {Q : D → Sx → Prop} {a b c d : Int} (h1 : ga S = some (.int a, S)) (h2 : gb S = some (.int b, S)) (h3 : gc S = some (.int c, S)) (h4 : gd S = some (.int d, S)) (q : Q (.bool (p1 a b && p2 b c && p3 c d)) S) : Ev (gChain3 (dCmp p1) (dCmp p2) (dCmp p3) ga gb gc gd S) Q := by
  refine ev_chain3 ⟨_, _, h1, _, _, h2, _, rfl, _, rfl, fun k1 => ⟨_, _, h3, _, rfl, _, rfl, fun k2 => ⟨_, _, h4, _, rfl, ?_⟩, fun k2 => ?_⟩, fun k1 => ?_⟩
  · rw [k1, k2, Bool.true_and, Bool.true_and] at q; exact q
  · rw [k1, k2] at q; exact q
  · rw [k1] at q; exact q
def fours (ps : List Int) (t : List Nat) : List (List Nat) := match t with
  | [i, k] => ((pairs ps ps.length).filter fun u => match u with
    | [j, l] => decide (i < j) && decide (j ≤ k) && decide (k < l)
    | _ => false).map fun u => match u with
    | [j, l] => [i, j, k, l]
    | _ => []
  | _ => []
def MayBe (ps : List Int) (t : List Nat) : Prop := (∃ i j, t = [i, j] ∧ PairIn ps i j) ∨ ∃ i j k l, t = [i, j, k, l] ∧ PairIn ps i k ∧ PairIn ps j l ∧ i < j ∧ j ≤ k ∧ k < l
theorem mem_fours {ps : List Int} {t : List Nat} : (∃ u ∈ pairs ps ps.length, t ∈ fours ps u) ↔ ∃ i j k l, t = [i, j, k, l] ∧ PairIn ps i k ∧ PairIn ps j l ∧ i < j ∧ j ≤ k ∧ k < l := by
  constructor
  · rintro ⟨u, hu, ht⟩
    obtain ⟨i, k, rfl, h1⟩ := mem_pairs.mp hu
    unfold fours at ht
    simp only at ht
    obtain ⟨v, hv, rfl⟩ := List.mem_map.mp ht
    obtain ⟨hv1, hv2⟩ := List.mem_filter.mp hv
    obtain ⟨j, l, rfl, h2⟩ := mem_pairs.mp hv1
    simp only [Bool.and_eq_true, decide_eq_true_eq] at hv2
    exact ⟨i, j, k, l, rfl, h1, h2, hv2.1.1, hv2.1.2, hv2.2⟩
  · rintro ⟨i, j, k, l, rfl, h1, h2, a, b, c⟩
    refine ⟨[i, k], mem_pairs.mpr ⟨i, k, rfl, h1⟩, ?_⟩
    unfold fours
    simp only
    refine List.mem_map.mpr ⟨[j, l], List.mem_filter.mpr ⟨mem_pairs.mpr ⟨j, l, rfl, h2⟩, ?_⟩, rfl⟩
    simp [a, b, c]
theorem fours_len (ps : List Int) (t : List Nat) : (fours ps t).length ≤ ps.length * ps.length := by
  unfold fours
  split
  · rw [List.length_map]
    exact Nat.le_trans (List.length_filter_le _ _) (pairs_len ps ps.length)
  · simp
theorem flat_len {α β : Type} {f : α → List β} {m : Nat} : ∀ xs : List α, (∀ x ∈ xs, (f x).length ≤ m) → (xs.flatMap f).length ≤ xs.length * m
  | [], _ => by simp
  | x :: xs, h => by
    rw [List.flatMap_cons, List.length_append, List.length_cons, Nat.add_mul, Nat.one_mul]
    have := h x List.mem_cons_self
    have := flat_len xs fun y hy => h y (List.mem_cons_of_mem _ hy)
    omega
theorem alike_ints : ∀ a b : List Nat, PySem.W.alikeAll (a.map fun i : Nat => PyData.int (i : Int)) (b.map fun i : Nat => PyData.int (i : Int)) = true
  | [], _ => by cases ‹List Nat› <;> simp [PySem.W.alikeAll]
  | _ :: _, [] => by simp [PySem.W.alikeAll]
  | x :: xs, y :: ys => by
    rw [List.map_cons, List.map_cons, PySem.W.alikeAll, alike_ints xs ys]
    simp [PySem.W.alike]
theorem fine_tD (t : List Nat) : Fine 1 (tD t) := fine_tup (n := 0) fun d hd => by obtain ⟨n, _, rfl⟩ := List.mem_map.mp hd; exact fine_int _
theorem good_tD (t : List Nat) : Good 1 (tD t) := good_tup (n := 0) fun d hd => by obtain ⟨n, _, rfl⟩ := List.mem_map.mp hd; exact good_int _
theorem tD_inj {t u : List Nat} (h : tD t = tD u) : t = u := by
  unfold tD at h
  injection h with h
  have : ∀ a b : List Nat, a.map (fun i : Nat => PyData.int (i : Int)) = b.map (fun i : Nat => PyData.int (i : Int)) → a = b := by
    intro a
    induction a with
    | nil => intro b h; cases b with
      | nil => rfl
      | cons => cases h
    | cons x xs ih =>
      intro b h
      cases b with
      | nil => cases h
      | cons y ys =>
        rw [List.map_cons, List.map_cons] at h
        injection h with h1 h2
        injection h1 with h1
        rw [ih ys h2, Int.ofNat.inj h1]
  exact this _ _ h
theorem sortOk_tD {ts : List (List Nat)} (h : ∀ t ∈ ts, t ≠ []) : sortOk (ts.map tD) = true := by
  unfold sortOk
  rw [Bool.and_eq_true, Bool.and_eq_true, Bool.or_eq_true]
  refine ⟨⟨?_, .inl ?_⟩, ?_⟩
  · rw [List.all_eq_true]
    intro d hd
    rw [List.all_eq_true]
    intro e he
    obtain ⟨a, _, rfl⟩ := List.mem_map.mp hd
    obtain ⟨b, _, rfl⟩ := List.mem_map.mp he
    exact alike_ints a b
  · rw [List.all_eq_true]
    intro d hd
    obtain ⟨a, ha, rfl⟩ := List.mem_map.mp hd
    cases a with
    | nil => exact absurd rfl (h [] ha)
    | cons => rfl
  · rw [List.all_eq_true]
    intro d hd
    obtain ⟨a, ha, rfl⟩ := List.mem_map.mp hd
    have := fine_tD a
    rw [Bool.and_eq_true]
    exact ⟨decide_eq_true (Nat.le_trans this.2 (by decide)), this.1⟩
/-- the turnings that may be, in their order -/
def leT (a b : List Nat) : Bool := leD (tD a) (tD b)
def mb (ps : List Int) : List (List Nat) := (pairs ps ps.length ++ (pairs ps ps.length).flatMap (fours ps)).mergeSort leT
theorem mem_mb {ps : List Int} {t : List Nat} : t ∈ mb ps ↔ MayBe ps t := by
  unfold mb
  rw [(List.mergeSort_perm _ _).mem_iff, List.mem_append, mem_pairs, List.mem_flatMap, mem_fours]
  rfl
theorem mb_len {ps : List Int} (hz : ps.length ≤ 30) : (mb ps).length ≤ 1000000 := by
  have hp := pairs_len ps ps.length
  have hp2 : ps.length * ps.length ≤ 30 * 30 := Nat.mul_le_mul hz hz
  have h2 := flat_len (f := fours ps) (m := ps.length * ps.length) (pairs ps ps.length) fun x _ => fours_len ps x
  have h3 : (pairs ps ps.length).length * (ps.length * ps.length) ≤ 900 * 900 := Nat.mul_le_mul (by omega) hp2
  have := (List.mergeSort_perm (pairs ps ps.length ++ (pairs ps ps.length).flatMap (fours ps)) leT).length_eq
  unfold mb
  rw [List.length_append] at this
  omega
theorem ed_sortedT {l : List (List Nat)} {Q : D → Prop} (h : ∀ t ∈ l, t ≠ []) (q : Q (.list ((l.mergeSort leT).map tD))) : Ed (dSorted [.list (l.map tD)]) Q := by
  refine ⟨.list ((l.map tD).mergeSort leD), by simp only [dSorted, sortOk_tD h, if_true], ?_⟩
  rw [PySem.W.sort_maps (r := leT) (s := leD) tD fun a _ b _ => rfl] at q
  exact q
theorem cand_ne {ps : List Int} : ∀ t ∈ pairs ps ps.length ++ (pairs ps ps.length).flatMap (fours ps), t ≠ [] := fun t ht => by
  rcases List.mem_append.mp ht with ht | ht
  · obtain ⟨i, j, rfl, _⟩ := mem_pairs.mp ht; simp
  · obtain ⟨i, j, k, l, rfl, _⟩ := mem_fours.mp (List.mem_flatMap.mp ht); simp
theorem x_may_beE {ps : List Int} (hz : ps.length ≤ 30) : m_may_be [.list (ps.map .int)] = some (.list ((mb ps).map tD)) := by
  have hp := pairs_len ps ps.length
  have hp2 : ps.length * ps.length ≤ 30 * 30 := Nat.mul_le_mul hz hz
  unfold m_may_be; refine mF_of ?_; walk_at "i"; unfold g_may_be
  walk_at "e"
  refine Ed.of (x_pairs_alike (by omega)) ?_
  walk_at "e"
  refine eo_loopX (xs := pairs ps ps.length) (enc := tD) (fun i S => ∃ x3 x4, S = ⟨[some (.dat (.list (ps.map .int))), some (.dat (.list ((pairs ps ps.length).map tD))), some (.own 0), x3, x4, none, none], [some (.lst ((((pairs ps ps.length).take i).flatMap (fours ps)).map tD))]⟩) ⟨_, _, rfl⟩ ?_ ?_
  · rintro i t S ht ⟨x3, x4, rfl⟩
    have hi := (List.getElem?_eq_some_iff.mp ht).1
    obtain ⟨a, c, rfl, hac⟩ := mem_pairs.mp (List.mem_of_getElem? ht)
    rw [show tD [a, c] = .tuple [.int (a : Int), .int (c : Int)] from rfl]
    walk_at "e"
    refine eo_augL ⟨_, _, rfl, rfl, ?_⟩
    refine ev_lcX (xs := pairs ps ps.length) (enc := tD) (b := fun u => match u with
      | [j, l] => decide (a < j) && decide (j ≤ c) && decide (c < l)
      | _ => false) (g := fun u => tD (match u with
      | [j, l] => [a, j, c, l]
      | _ => [])) ?_
    walk_at "e"
    refine ⟨rfl, fun u hu => ?_, ?_⟩
    · obtain ⟨j, l, rfl, hjl⟩ := mem_pairs.mp hu
      rw [show tD [j, l] = .tuple [.int (j : Int), .int (l : Int)] from rfl]
      walk_at "e"
      refine ev_chain3I rfl rfl rfl rfl ?_
      walk_at "e"
      refine ⟨rfl, ?_, fun _ => ?_⟩
      · simp only [Int.ofNat_lt, Int.ofNat_le]
      · walk_at "e"
    · have e1 : (((pairs ps ps.length).filter fun u => match u with
          | [j, l] => decide (a < j) && decide (j ≤ c) && decide (c < l)
          | _ => false).map fun u => tD (match u with
          | [j, l] => [a, j, c, l]
          | _ => [])) = (fours ps [a, c]).map tD := by
        unfold fours
        rw [List.map_map]; rfl
      have h1 := fours_len ps [a, c]
      have h2 := flat_len (f := fours ps) (m := ps.length * ps.length) ((pairs ps ps.length).take i) fun x _ => fours_len ps x
      have h3 : ((pairs ps ps.length).take i).length * (ps.length * ps.length) ≤ 900 * 900 := Nat.mul_le_mul (by rw [List.length_take]; omega) hp2
      rw [e1]
      refine ⟨_, _, rfl, rfl, by rw [List.length_map, List.length_map]; omega, _, rfl, _, _, mk_eq rfl ?_⟩
      rw [List.take_succ, ht, Option.toList_some, List.flatMap_append, List.map_append, List.flatMap_cons, List.flatMap_nil, List.append_nil]
      rfl
  · rintro S ⟨x3, x4, rfl⟩
    rw [List.take_length]
    have h2 := flat_len (f := fours ps) (m := ps.length * ps.length) (pairs ps ps.length) fun x _ => fours_len ps x
    have h3 : (pairs ps ps.length).length * (ps.length * ps.length) ≤ 900 * 900 := Nat.mul_le_mul (by omega) hp2
    walk_at "e"
    refine ed_addL (by rw [List.length_map, List.length_map]; omega) ?_
    walk_at "e"
    rw [← List.map_append]
    refine ed_sortedT cand_ne ?_
    rfl
theorem x_may_be {ps : List Int} (hz : ps.length ≤ 30) : ∃ ts : List (List Nat), m_may_be [.list (ps.map .int)] = some (.list (ts.map tD)) ∧ (∀ t, t ∈ ts ↔ MayBe ps t) ∧ ts.length ≤ 1000000 :=
  ⟨mb ps, x_may_beE hz, fun _ => mem_mb, mb_len hz⟩
end Lw

set_option maxHeartbeats 4000000
namespace Lw
open PySem Fu
local macro_rules | `(tactic| walk_at "e1") => `(tactic| first
  | with_reducible refine eo_seq ?_ | (with_reducible refine then_nx' ?_; refine ⟨?_, ?_, ?_⟩; rotate_left; · (try dsimp only [List.set, List.length_cons, List.length_nil, List.cons_append, List.nil_append, Nat.zero_add, Nat.reduceAdd]); exact rfl) | with_reducible refine then_rt ?_ | with_reducible refine eo_if ?_ | with_reducible refine eo_ret ?_ | with_reducible refine eo_set ?_ | with_reducible refine eo_asg ?_ | with_reducible refine eo_drop ?_ | with_reducible refine eo_nx ?_ | with_reducible refine eo_par ?_ | with_reducible refine eo_own ?_ | with_reducible refine eo_retN ?_ | with_reducible refine eo_for ?_ | with_reducible refine eo_retO ?_
  | with_reducible refine ev_c ?_ | (with_reducible refine ev_var ?_; refine ⟨_, rfl, ?_⟩) | with_reducible refine ev_bin ?_ | with_reducible refine ev_un ?_ | with_reducible refine ev_nil ?_ | with_reducible refine ev_cons ?_
  | with_reducible refine ev_tup ?_ | with_reducible refine ev_lst ?_ | with_reducible refine ev_call ?_ | with_reducible refine ev_callF ?_ | with_reducible refine ev_isi ?_ | with_reducible refine ev_isi2 ?_ | with_reducible refine ev_andV ?_ | with_reducible refine ev_orV ?_ | with_reducible refine ev_notV ?_
  | with_reducible refine ev_B ?_ | with_reducible refine ev_and ?_ | with_reducible refine ev_or ?_ | with_reducible refine ev_not ?_ | with_reducible refine ev_yes ?_ | with_reducible refine ev_if ?_ | with_reducible refine ev_no ?_ | with_reducible refine ev_so ?_ | with_reducible refine ev_sl ?_ | with_reducible refine ev_items ?_
  | (with_reducible refine ev_ixO ?_; refine ⟨_, _, rfl, rfl, ?_⟩) | (with_reducible refine ev_varO ?_; refine ⟨_, _, rfl, rfl, ?_⟩) | (with_reducible refine ev_lenO ?_; refine ⟨_, _, rfl, rfl, ?_⟩) | (with_reducible refine ev_scrSl ?_; refine ⟨_, rfl, ?_⟩) | (with_reducible refine ev_scrLen ?_; refine ⟨_, rfl, ?_⟩) | (with_reducible refine ev_callScr ?_; refine ⟨_, rfl, ?_⟩) | (with_reducible refine ev_OL ?_; refine ⟨_, _, rfl, rfl, ?_⟩) | with_reducible refine ev_OR ?_ | with_reducible refine ev_rep ?_ | with_reducible refine ev_listRng1 ?_ | with_reducible refine eo_setO ?_
  | with_reducible refine es_name ?_ | with_reducible refine es_tup2 ?_ | with_reducible refine es_tup3 ?_
  | with_reducible refine ed_addI ?_ | with_reducible refine ed_subI ?_ | with_reducible refine ed_cmp ?_ | with_reducible refine ed_eqI ?_ | with_reducible refine ed_neI ?_ | with_reducible refine ed_slT ?_ | with_reducible refine ed_slL ?_ | with_reducible refine ed_lenT ?_ | with_reducible refine ed_lenL ?_ | with_reducible refine ed_lenS ?_ | with_reducible refine ed_inS ?_ | with_reducible refine ed_itT ?_ | with_reducible refine ed_itL ?_ | with_reducible refine ed_tupL ?_ | with_reducible refine ed_tupT ?_ | with_reducible refine ed_listL ?_ | with_reducible refine ed_listT ?_ | with_reducible refine ed_neg ?_ | with_reducible refine ed_max ?_ | with_reducible refine ed_min ?_ | with_reducible refine ed_intB ?_
  | with_reducible refine ev_rng1 ?_ | with_reducible refine ev_rng2 ?_)
local macro_rules | `(tactic| walk_at "sd") => `(tactic| first | rfl | assumption | (simp only [decide_eq_true_eq, decide_eq_false_iff_not, Bool.not_eq_true', Bool.not_eq_false', Bool.and_eq_true, Bool.or_eq_true, List.length_map, List.length_cons, List.length_nil, List.length_append, List.length_range] at *; omega))
local macro_rules | `(tactic| walk_at "e2") => `(tactic| first
  | walk_at "e1" | with_reducible refine ⟨_, rfl, ?_⟩ | with_reducible refine ⟨_, _, rfl, ?_⟩
  | with_reducible refine And.intro (Eq.refl (List.length _)) ?_ | with_reducible refine And.intro (Nat.le_of_ble_eq_true (n := List.length _) rfl) ?_
  | with_reducible refine And.intro (Eq.refl (_ : Sx)) (?_ : Ed _ _)
  | ((with_reducible refine And.intro ?_ (And.intro ?_ (?_ : Ev _ _))); (· rfl); (· rfl))
  | ((with_reducible refine ed_ixT ?_ ?_ ?_); (· decide); (· rfl)) | ((with_reducible refine ed_ixL ?_ ?_ ?_); (· decide); (· rfl)) | ((with_reducible refine ed_at ?_ ?_ ?_); (· decide); (· rfl))
  | ((with_reducible refine ed_modI ?_ ?_); (· first | decide | omega))
  | with_reducible exact gives_nx | ((with_reducible refine gives_rt ?_); (· rfl)) | ((with_reducible refine And.intro ?_ ?_); (· exact rfl); (· with_reducible exact Eq.refl (_ : Sx))))
local macro_rules | `(tactic| walk_at "e") => `(tactic| repeat walk_at "e2")
/-- begin a def's spec -/
local macro_rules | `(tactic| walk_at "i") => `(tactic| simp only [initS, List.map_cons, List.map_nil, List.length_cons, List.length_nil, Nat.reduceAdd, Nat.reduceSub, List.replicate, List.cons_append, List.nil_append])
/-- a known truth decides -/
local macro_rules | `(tactic| walk_at "t") => `(tactic| first | ((with_reducible refine split_t ?_ ?_); (· walk_at "sd")) | ((with_reducible refine split_t' ?_ ?_); (· walk_at "sd")))
local macro_rules | `(tactic| walk_at "f") => `(tactic| first | ((with_reducible refine split_f ?_ ?_); (· walk_at "sd")) | ((with_reducible refine split_f' ?_ ?_); (· walk_at "sd")))
/-- all that is seen in a look -/
local macro_rules | `(tactic| walk_at "v") => `(tactic| (rw [sealAll_mk (by (simp only [List.set_cons_zero, List.set_cons_succ, List.map_cons, List.map_nil, sealS_none, sealS_dat, sealS_scr, sealS_own, List.getElem?_cons_zero, List.getElem?_cons_succ, sealC_lst]; rfl)) (by (simp only [List.set_cons_zero, List.set_cons_succ, List.map_cons, List.map_nil]; rfl))]))
def plcs (ls : List Ln) (es : List (Int × Int)) : List Int := es.map (plc ls)
theorem plcs_len (ls : List Ln) (es : List (Int × Int)) : (plcs ls es).length = es.length := by simp [plcs]
/-! ### what a turning does to a list -/
theorem cut3 {α : Type} (es : List α) {i j : Nat} (h : i ≤ j) : es = es.take i ++ ((es.take j).drop i ++ es.drop j) := by
  have e1 : es.take i ++ (es.take j).drop i = es.take j := by
    have : (es.take j).take i = es.take i := by rw [List.take_take, Nat.min_eq_left h]
    rw [← this, List.take_append_drop]
  rw [← List.append_assoc, e1, List.take_append_drop]
theorem cut5 {α : Type} (es : List α) {i j k l : Nat} (h : i ≤ j) (h2 : j ≤ k) (h3 : k ≤ l) : es = es.take i ++ ((es.take j).drop i ++ ((es.take k).drop j ++ ((es.take l).drop k ++ es.drop l))) := by
  have a := cut3 (es.drop l) (Nat.zero_le 0)
  have e1 : es.take i ++ (es.take j).drop i = es.take j := by
    have : (es.take j).take i = es.take i := by rw [List.take_take, Nat.min_eq_left h]
    rw [← this, List.take_append_drop]
  have e2 : es.take j ++ (es.take k).drop j = es.take k := by
    have : (es.take k).take j = es.take j := by rw [List.take_take, Nat.min_eq_left h2]
    rw [← this, List.take_append_drop]
  have e3 : es.take k ++ (es.take l).drop k = es.take l := by
    have : (es.take l).take k = es.take k := by rw [List.take_take, Nat.min_eq_left h3]
    rw [← this, List.take_append_drop]
  rw [← List.append_assoc, e1, ← List.append_assoc, e2, ← List.append_assoc, e3, List.take_append_drop]
theorem rv_fst (es : List (Int × Int)) : ((rv es).map Prod.fst).Perm (es.map Prod.fst) := by
  unfold rv
  rw [List.map_map]
  have : (Prod.fst ∘ far : Int × Int → Int) = Prod.fst := rfl
  rw [this, List.map_reverse]
  exact List.reverse_perm _
theorem put_perm {ps : List Int} {t : List Nat} {es : List (Int × Int)} (h : MayBe ps t) : ((put t es).map Prod.fst).Perm (es.map Prod.fst) := by
  rcases h with ⟨i, j, rfl, hij⟩ | ⟨i, j, k, l, rfl, _, _, a, b, c⟩
  · have e := cut3 es (show i ≤ j by have := hij.1; omega)
    unfold put
    simp only
    conv => rhs; rw [e]
    rw [List.map_append, List.map_append, List.map_append, List.map_append, List.append_assoc]
    exact ((rv_fst _).append_right _).append_left _
  · have e := cut5 es (show i ≤ j by omega) b (show k ≤ l by omega)
    unfold put
    simp only
    conv => rhs; rw [e]
    refine List.Perm.map _ ?_
    rw [List.append_assoc, List.append_assoc, List.append_assoc]
    refine List.Perm.append_left _ ?_
    generalize (es.take l).drop k = X
    generalize (es.take k).drop j = Y
    generalize (es.take j).drop i = Z
    generalize es.drop l = W
    have p1 := List.perm_append_comm_assoc X Y (Z ++ W)
    have p2 := (List.perm_append_comm_assoc X Z W).append_left Y
    have p3 := List.perm_append_comm_assoc Y Z (X ++ W)
    exact p1.trans (p2.trans p3)
theorem put_len {ps : List Int} {t : List Nat} {es : List (Int × Int)} (h : MayBe ps t) : (put t es).length = es.length := by
  have := (put_perm (es := es) h).length_eq
  simpa using this
end Lw

set_option maxHeartbeats 4000000
namespace Lw
open PySem Fu
local macro_rules | `(tactic| walk_at "e1") => `(tactic| first
  | with_reducible refine eo_seq ?_ | (with_reducible refine then_nx' ?_; refine ⟨?_, ?_, ?_⟩; rotate_left; · (try dsimp only [List.set, List.length_cons, List.length_nil, List.cons_append, List.nil_append, Nat.zero_add, Nat.reduceAdd]); exact rfl) | with_reducible refine then_rt ?_ | with_reducible refine eo_if ?_ | with_reducible refine eo_ret ?_ | with_reducible refine eo_set ?_ | with_reducible refine eo_asg ?_ | with_reducible refine eo_drop ?_ | with_reducible refine eo_nx ?_ | with_reducible refine eo_par ?_ | with_reducible refine eo_own ?_ | with_reducible refine eo_retN ?_ | with_reducible refine eo_for ?_ | with_reducible refine eo_retO ?_
  | with_reducible refine ev_c ?_ | (with_reducible refine ev_var ?_; refine ⟨_, rfl, ?_⟩) | with_reducible refine ev_bin ?_ | with_reducible refine ev_un ?_ | with_reducible refine ev_nil ?_ | with_reducible refine ev_cons ?_
  | with_reducible refine ev_tup ?_ | with_reducible refine ev_lst ?_ | with_reducible refine ev_call ?_ | with_reducible refine ev_callF ?_ | with_reducible refine ev_isi ?_ | with_reducible refine ev_isi2 ?_ | with_reducible refine ev_andV ?_ | with_reducible refine ev_orV ?_ | with_reducible refine ev_notV ?_
  | with_reducible refine ev_B ?_ | with_reducible refine ev_and ?_ | with_reducible refine ev_or ?_ | with_reducible refine ev_not ?_ | with_reducible refine ev_yes ?_ | with_reducible refine ev_if ?_ | with_reducible refine ev_no ?_ | with_reducible refine ev_so ?_ | with_reducible refine ev_sl ?_ | with_reducible refine ev_items ?_
  | (with_reducible refine ev_ixO ?_; refine ⟨_, _, rfl, rfl, ?_⟩) | (with_reducible refine ev_varO ?_; refine ⟨_, _, rfl, rfl, ?_⟩) | (with_reducible refine ev_lenO ?_; refine ⟨_, _, rfl, rfl, ?_⟩) | (with_reducible refine ev_scrSl ?_; refine ⟨_, rfl, ?_⟩) | (with_reducible refine ev_scrLen ?_; refine ⟨_, rfl, ?_⟩) | (with_reducible refine ev_callScr ?_; refine ⟨_, rfl, ?_⟩) | (with_reducible refine ev_OL ?_; refine ⟨_, _, rfl, rfl, ?_⟩) | with_reducible refine ev_OR ?_ | with_reducible refine ev_rep ?_ | with_reducible refine ev_listRng1 ?_ | with_reducible refine eo_setO ?_
  | with_reducible refine es_name ?_ | with_reducible refine es_tup2 ?_ | with_reducible refine es_tup3 ?_
  | with_reducible refine ed_addI ?_ | with_reducible refine ed_subI ?_ | with_reducible refine ed_cmp ?_ | with_reducible refine ed_eqI ?_ | with_reducible refine ed_neI ?_ | with_reducible refine ed_slT ?_ | with_reducible refine ed_slL ?_ | with_reducible refine ed_lenT ?_ | with_reducible refine ed_lenL ?_ | with_reducible refine ed_lenS ?_ | with_reducible refine ed_inS ?_ | with_reducible refine ed_itT ?_ | with_reducible refine ed_itL ?_ | with_reducible refine ed_tupL ?_ | with_reducible refine ed_tupT ?_ | with_reducible refine ed_listL ?_ | with_reducible refine ed_listT ?_ | with_reducible refine ed_neg ?_ | with_reducible refine ed_max ?_ | with_reducible refine ed_min ?_ | with_reducible refine ed_intB ?_
  | with_reducible refine ev_rng1 ?_ | with_reducible refine ev_rng2 ?_)
local macro_rules | `(tactic| walk_at "sd") => `(tactic| first | rfl | assumption | (simp only [decide_eq_true_eq, decide_eq_false_iff_not, Bool.not_eq_true', Bool.not_eq_false', Bool.and_eq_true, Bool.or_eq_true, List.length_map, List.length_cons, List.length_nil, List.length_append, List.length_range] at *; omega))
local macro_rules | `(tactic| walk_at "e2") => `(tactic| first
  | walk_at "e1" | with_reducible refine ⟨_, rfl, ?_⟩ | with_reducible refine ⟨_, _, rfl, ?_⟩
  | with_reducible refine And.intro (Eq.refl (List.length _)) ?_ | with_reducible refine And.intro (Nat.le_of_ble_eq_true (n := List.length _) rfl) ?_
  | with_reducible refine And.intro (Eq.refl (_ : Sx)) (?_ : Ed _ _)
  | ((with_reducible refine And.intro ?_ (And.intro ?_ (?_ : Ev _ _))); (· rfl); (· rfl))
  | ((with_reducible refine ed_ixT ?_ ?_ ?_); (· decide); (· rfl)) | ((with_reducible refine ed_ixL ?_ ?_ ?_); (· decide); (· rfl)) | ((with_reducible refine ed_at ?_ ?_ ?_); (· decide); (· rfl))
  | ((with_reducible refine ed_modI ?_ ?_); (· first | decide | omega))
  | with_reducible exact gives_nx | ((with_reducible refine gives_rt ?_); (· rfl)) | ((with_reducible refine And.intro ?_ ?_); (· exact rfl); (· with_reducible exact Eq.refl (_ : Sx))))
local macro_rules | `(tactic| walk_at "e") => `(tactic| repeat walk_at "e2")
/-- begin a def's spec -/
local macro_rules | `(tactic| walk_at "i") => `(tactic| simp only [initS, List.map_cons, List.map_nil, List.length_cons, List.length_nil, Nat.reduceAdd, Nat.reduceSub, List.replicate, List.cons_append, List.nil_append])
/-- a known truth decides -/
local macro_rules | `(tactic| walk_at "t") => `(tactic| first | ((with_reducible refine split_t ?_ ?_); (· walk_at "sd")) | ((with_reducible refine split_t' ?_ ?_); (· walk_at "sd")))
local macro_rules | `(tactic| walk_at "f") => `(tactic| first | ((with_reducible refine split_f ?_ ?_); (· walk_at "sd")) | ((with_reducible refine split_f' ?_ ?_); (· walk_at "sd")))
/-- all that is seen in a look -/
local macro_rules | `(tactic| walk_at "v") => `(tactic| (rw [sealAll_mk (by (simp only [List.set_cons_zero, List.set_cons_succ, List.map_cons, List.map_nil, sealS_none, sealS_dat, sealS_scr, sealS_own, List.getElem?_cons_zero, List.getElem?_cons_succ, sealC_lst]; rfl)) (by (simp only [List.set_cons_zero, List.set_cons_succ, List.map_cons, List.map_nil]; rfl))]))
theorem x_put {ps : List Int} {t : List Nat} {es : List (Int × Int)} (h : MayBe ps t) (hz : es.length ≤ 100000) : m_put_otherwise [lE es, tD t] = some (lE (put t es)) := by
  rcases h with ⟨i, j, rfl, _⟩ | ⟨i, j, k, l, rfl, _⟩
  · exact x_put2 hz
  · exact x_put4 hz
theorem along_init (ls : List Ln) (es : List (Int × Int)) : (((along ls es).map PyData.int).dropLast) = (plcs ls es).map PyData.int := by
  unfold along plcs
  rw [List.map_append, List.map_singleton, List.dropLast_concat]
theorem x_round_lE {w : D} {p : Int} {ls : List Ln} {es : List (Int × Int)} (hw : Web w p ls) (h : WbOk p ls) (hz : es.length ≤ 4000) : m_round_is [w, lE es] = some (.bool (roundB ls es)) := by
  have := x_round_is hw h (lE es) (by unfold lE; rw [lenD_of (sq_l _)]; simpa using hz)
  rw [this, roundD_of (ride_lE es)]
/-- a round's turnings, in their order -/
def tgs (ls : List Ln) (es : List (Int × Int)) : List (List Nat) := (mb (plcs ls es)).filter fun t => roundB ls (put t es)
theorem mem_tgs {ls : List Ln} {es : List (Int × Int)} {t : List Nat} : t ∈ tgs ls es ↔ MayBe (plcs ls es) t ∧ roundB ls (put t es) = true := by
  unfold tgs
  rw [List.mem_filter, mem_mb]
theorem tgs_len {ls : List Ln} {es : List (Int × Int)} (hz : es.length ≤ 30) : (tgs ls es).length ≤ 1000000 := Nat.le_trans (List.length_filter_le _ _) (mb_len (by rw [plcs_len]; exact hz))
theorem x_turnings_ofE {w : D} {p : Int} {ls : List Ln} {es : List (Int × Int)} (hw : Web w p ls) (h : WbOk p ls) (hz : es.length ≤ 30) (hr : roundB ls es = true) : m_turnings_of [w, lE es] = some (.list ((tgs ls es).map fun t => .tuple [tD t, lE (put t es)])) := by
  obtain ⟨hne, hall, _⟩ := rideB_iff.mp (roundB_iff.mp hr).1
  have hb := mb_len (ps := plcs ls es) (by rw [plcs_len]; exact hz)
  unfold tgs
  unfold m_turnings_of lE; refine mF_of ?_; walk_at "i"; unfold g_turnings_of
  walk_at "e"
  refine Ed.of (x_places_along hw (by omega) hne hall) ?_
  walk_at "e"
  rw [cut_init, along_init]
  refine Ed.of (x_may_beE (by rw [plcs_len]; exact hz)) ?_
  walk_at "e"
  refine eo_loopX (xs := mb (plcs ls es)) (enc := tD) (fun i S => ∃ x3 x4, S = ⟨[some (.dat w), some (.dat (.list (es.map en))), some (.own 0), x3, x4], [some (.lst ((((mb (plcs ls es)).take i).filter fun t => roundB ls (put t es)).map fun t => .tuple [tD t, lE (put t es)]))]⟩) ⟨_, _, rfl⟩ ?_ ?_
  · rintro i t S ht ⟨x3, x4, rfl⟩
    have hi := (List.getElem?_eq_some_iff.mp ht).1
    have hmt := mem_mb.mp (List.mem_of_getElem? ht)
    have hfl : (((mb (plcs ls es)).take i).filter fun t => roundB ls (put t es)).length ≤ 1000000 := by
      refine Nat.le_trans (List.length_filter_le _ _) ?_
      rw [List.length_take]; omega
    walk_at "e"
    refine Ed.of (x_put hmt (by omega)) ?_
    walk_at "e"
    refine Ed.of (x_round_lE hw h (by rw [put_len hmt]; omega)) ?_
    walk_at "e"
    refine ⟨fun hb => ?_, fun hb => ?_⟩
    · walk_at "e"
      refine ev_app ⟨_, _, rfl, rfl, ?_⟩
      walk_at "e"
      refine ⟨by rw [List.length_map]; omega, ?_⟩
      walk_at "e"
      refine ⟨_, _, mk_eq rfl ?_⟩
      rw [List.take_succ, ht, Option.toList_some, List.filter_append, List.map_append, show [t].filter (fun t => roundB ls (put t es)) = [t] by simp [hb]]
      rfl
    · walk_at "e"
      refine ⟨_, _, mk_eq rfl ?_⟩
      rw [List.take_succ, ht, Option.toList_some, List.filter_append, List.map_append, show [t].filter (fun t => roundB ls (put t es)) = [] by simp [hb]]
      simp
  · rintro S ⟨x3, x4, rfl⟩
    rw [List.take_length]
    walk_at "e"
theorem wholes (t : List Nat) : (t.map fun i : Nat => PyData.int (i : Int)).all wholeD = true := by
  rw [List.all_map, List.all_eq_true]
  intro i _
  simp [wholeD]
theorem x_is_turning {d : D} {t : List Nat} (hd : Sq d (t.map fun i : Nat => PyData.int (i : Int))) (h : t.length = 2 ∨ t.length = 4) : m_is_turning [d] = some (.bool true) := by
  have r2 : rowD 2 d = decide (t.length = 2) := by unfold rowD; rw [hd.of]; simp
  have r4 : rowD 4 d = decide (t.length = 4) := by unfold rowD; rw [hd.of]; simp
  unfold m_is_turning; refine mF_of ?_; walk_at "i"; unfold g_is_turning
  walk_at "e"
  refine Ed.of (x_is_row d 2) ?_
  have fin : Ev (gCall dAll (gCons (gLc (gItems (gVar 0)) (sName 1) gYes (gCallF 1 m_is_whole (gCons (gVar 1) gNil)) [1]) gNil) ⟨[some (.dat d), none], []⟩) fun e S2 => ∃ c, e = .bool c ∧ Fu.Gives (.bool true) (.rt (.bool c) S2) := by
    walk_at "e"
    refine ev_mapX (xs := t.map fun i : Nat => PyData.int (i : Int)) (enc := fun z => z) (g := fun z => .bool (wholeD z)) ?_
    walk_at "e"
    refine ed_itQ hd ⟨by simp, fun z hz => ?_, ?_⟩
    · walk_at "e"
      exact Ed.of (x_is_whole z) ⟨rfl, rfl⟩
    · walk_at "e"
      refine all_mapX wholeD _ ?_
      walk_at "e"
      rw [gives_rtI, wholes]
  rw [r2]
  walk_at "e"
  refine ⟨fun h2 => ?_, fun h2 => ?_⟩
  · walk_at "e"
    refine Ed.of (x_is_row d 4) ?_
    rw [r4]
    have h2 : ¬ t.length = 2 := by simpa using h2
    rw [decide_eq_true (h.resolve_left h2)]
    walk_at "e"
    refine ⟨fun _ => fin, fun z => (nomatch z)⟩
  · walk_at "e"
    refine ⟨fun _ => fin, fun z => (nomatch z)⟩
theorem maybe_len {ps : List Int} {t : List Nat} (h : MayBe ps t) : t.length = 2 ∨ t.length = 4 := by
  rcases h with ⟨i, j, rfl, _⟩ | ⟨i, j, k, l, rfl, _⟩
  · exact .inl rfl
  · exact .inr rfl
theorem eqv_tD (t u : List Nat) : (tD t).eqv (tD u) = decide (t = u) := by
  rw [Bool.eq_iff_iff, decide_eq_true_eq, eqv_plain _ _ (good_tD t).plain (good_tD u).plain]
  exact ⟨tD_inj, fun h => h ▸ rfl⟩
theorem ed_notInT {ts : List (List Nat)} {t : List Nat} {Q : D → Prop} (q : Q (.bool (!decide (t ∈ ts)))) : Ed (dNotIn (tD t) (.list (ts.map tD))) Q := by
  refine ⟨_, ?_, q⟩
  have h1 := (fine_tD t).shaped
  have h2 := (fine_list (n := 1) (ds := ts.map tD) fun d hd => by obtain ⟨u, _, rfl⟩ := List.mem_map.mp hd; exact fine_tD u).shaped
  unfold tD at h1 ⊢
  dsimp only [dNotIn]
  rw [if_pos ⟨h1, h2⟩]
  congr 3
  rw [Bool.eq_iff_iff, List.any_map, List.any_eq_true, decide_eq_true_eq]
  constructor
  · rintro ⟨u, hu, e⟩
    have e : (tD u).eqv (tD t) = true := e
    rw [eqv_tD, decide_eq_true_eq] at e
    exact e ▸ hu
  · intro hu
    refine ⟨t, hu, ?_⟩
    show (tD t).eqv (tD t) = true
    rw [eqv_tD, decide_eq_true rfl]
theorem x_turnedQ {w d td : D} {p : Int} {ls : List Ln} {es : List (Int × Int)} {t : List Nat} (hw : Web w p ls) (h : WbOk p ls) (hd : IsRide d es) (htd : Sq td (t.map fun i : Nat => PyData.int (i : Int))) (hz : es.length ≤ 30) (hr : roundB ls es = true) (ht : MayBe (plcs ls es) t) (hr2 : roundB ls (put t es) = true) : m_turned [w, d, td] = some (lE (put t es)) := by
  obtain ⟨hne, hall, _⟩ := rideB_iff.mp (roundB_iff.mp hr).1
  obtain ⟨ts, em, hm, hb⟩ := x_may_be (ps := plcs ls es) (by rw [plcs_len]; exact hz)
  unfold m_turned; refine mF_of ?_; walk_at "i"; unfold g_turned
  walk_at "e"
  refine Ed.of (x_kept hw h) ?_
  walk_at "e"
  refine Ed.of (x_need_round (web_wb p ls) h hd (by omega) hr) ?_
  walk_at "e"
  refine Ed.of (x_is_turning htd (maybe_len ht)) ?_
  walk_at "e"
  refine ⟨fun _ => ?_, fun z => (nomatch z)⟩
  walk_at "e"
  refine ed_tupQ htd ?_
  walk_at "e"
  refine Ed.of (x_places_along (web_wb p ls) (by omega) hne hall) ?_
  walk_at "e"
  rw [cut_init, along_init]
  refine Ed.of em ?_
  refine ed_notInT ?_
  rw [decide_eq_true ((hm t).mpr ht)]
  walk_at "e"
  walk_at "f"
  walk_at "e"
  refine ed_tupQ htd ?_
  walk_at "e"
  refine Ed.of (x_put ht (by omega)) ?_
  walk_at "e"
  refine Ed.of (x_round_lE (web_wb p ls) h (by rw [put_len ht]; omega)) ?_
  rw [hr2]
  walk_at "e"
  walk_at "f"
  walk_at "e"
theorem x_turned {w d : D} {p : Int} {ls : List Ln} {es : List (Int × Int)} {t : List Nat} (hw : Web w p ls) (h : WbOk p ls) (hd : IsRide d es) (hz : es.length ≤ 30) (hr : roundB ls es = true) (ht : MayBe (plcs ls es) t) (hr2 : roundB ls (put t es) = true) : m_turned [w, d, tD t] = some (lE (put t es)) := x_turnedQ hw h hd (sq_t _) hz hr ht hr2
end Lw

set_option maxHeartbeats 4000000
namespace Lw
open PySem Fu
local macro_rules | `(tactic| walk_at "e1") => `(tactic| first
  | with_reducible refine eo_seq ?_ | (with_reducible refine then_nx' ?_; refine ⟨?_, ?_, ?_⟩; rotate_left; · (try dsimp only [List.set, List.length_cons, List.length_nil, List.cons_append, List.nil_append, Nat.zero_add, Nat.reduceAdd]); exact rfl) | with_reducible refine then_rt ?_ | with_reducible refine eo_if ?_ | with_reducible refine eo_ret ?_ | with_reducible refine eo_set ?_ | with_reducible refine eo_asg ?_ | with_reducible refine eo_drop ?_ | with_reducible refine eo_nx ?_ | with_reducible refine eo_par ?_ | with_reducible refine eo_own ?_ | with_reducible refine eo_retN ?_ | with_reducible refine eo_for ?_ | with_reducible refine eo_retO ?_
  | with_reducible refine ev_c ?_ | (with_reducible refine ev_var ?_; refine ⟨_, rfl, ?_⟩) | with_reducible refine ev_bin ?_ | with_reducible refine ev_un ?_ | with_reducible refine ev_nil ?_ | with_reducible refine ev_cons ?_
  | with_reducible refine ev_tup ?_ | with_reducible refine ev_lst ?_ | with_reducible refine ev_call ?_ | with_reducible refine ev_callF ?_ | with_reducible refine ev_isi ?_ | with_reducible refine ev_isi2 ?_ | with_reducible refine ev_andV ?_ | with_reducible refine ev_orV ?_ | with_reducible refine ev_notV ?_
  | with_reducible refine ev_B ?_ | with_reducible refine ev_and ?_ | with_reducible refine ev_or ?_ | with_reducible refine ev_not ?_ | with_reducible refine ev_yes ?_ | with_reducible refine ev_if ?_ | with_reducible refine ev_no ?_ | with_reducible refine ev_so ?_ | with_reducible refine ev_sl ?_ | with_reducible refine ev_items ?_
  | (with_reducible refine ev_ixO ?_; refine ⟨_, _, rfl, rfl, ?_⟩) | (with_reducible refine ev_varO ?_; refine ⟨_, _, rfl, rfl, ?_⟩) | (with_reducible refine ev_lenO ?_; refine ⟨_, _, rfl, rfl, ?_⟩) | (with_reducible refine ev_scrSl ?_; refine ⟨_, rfl, ?_⟩) | (with_reducible refine ev_scrLen ?_; refine ⟨_, rfl, ?_⟩) | (with_reducible refine ev_callScr ?_; refine ⟨_, rfl, ?_⟩) | (with_reducible refine ev_OL ?_; refine ⟨_, _, rfl, rfl, ?_⟩) | with_reducible refine ev_OR ?_ | with_reducible refine ev_rep ?_ | with_reducible refine ev_listRng1 ?_ | with_reducible refine eo_setO ?_
  | with_reducible refine es_name ?_ | with_reducible refine es_tup2 ?_ | with_reducible refine es_tup3 ?_
  | with_reducible refine ed_addI ?_ | with_reducible refine ed_subI ?_ | with_reducible refine ed_cmp ?_ | with_reducible refine ed_eqI ?_ | with_reducible refine ed_neI ?_ | with_reducible refine ed_slT ?_ | with_reducible refine ed_slL ?_ | with_reducible refine ed_lenT ?_ | with_reducible refine ed_lenL ?_ | with_reducible refine ed_lenS ?_ | with_reducible refine ed_inS ?_ | with_reducible refine ed_itT ?_ | with_reducible refine ed_itL ?_ | with_reducible refine ed_tupL ?_ | with_reducible refine ed_tupT ?_ | with_reducible refine ed_listL ?_ | with_reducible refine ed_listT ?_ | with_reducible refine ed_neg ?_ | with_reducible refine ed_max ?_ | with_reducible refine ed_min ?_ | with_reducible refine ed_intB ?_
  | with_reducible refine ev_rng1 ?_ | with_reducible refine ev_rng2 ?_)
local macro_rules | `(tactic| walk_at "sd") => `(tactic| first | rfl | assumption | (simp only [decide_eq_true_eq, decide_eq_false_iff_not, Bool.not_eq_true', Bool.not_eq_false', Bool.and_eq_true, Bool.or_eq_true, List.length_map, List.length_cons, List.length_nil, List.length_append, List.length_range] at *; omega))
local macro_rules | `(tactic| walk_at "e2") => `(tactic| first
  | walk_at "e1" | with_reducible refine ⟨_, rfl, ?_⟩ | with_reducible refine ⟨_, _, rfl, ?_⟩
  | with_reducible refine And.intro (Eq.refl (List.length _)) ?_ | with_reducible refine And.intro (Nat.le_of_ble_eq_true (n := List.length _) rfl) ?_
  | with_reducible refine And.intro (Eq.refl (_ : Sx)) (?_ : Ed _ _)
  | ((with_reducible refine And.intro ?_ (And.intro ?_ (?_ : Ev _ _))); (· rfl); (· rfl))
  | ((with_reducible refine ed_ixT ?_ ?_ ?_); (· decide); (· rfl)) | ((with_reducible refine ed_ixL ?_ ?_ ?_); (· decide); (· rfl)) | ((with_reducible refine ed_at ?_ ?_ ?_); (· decide); (· rfl))
  | ((with_reducible refine ed_modI ?_ ?_); (· first | decide | omega))
  | with_reducible exact gives_nx | ((with_reducible refine gives_rt ?_); (· rfl)) | ((with_reducible refine And.intro ?_ ?_); (· exact rfl); (· with_reducible exact Eq.refl (_ : Sx))))
local macro_rules | `(tactic| walk_at "e") => `(tactic| repeat walk_at "e2")
/-- begin a def's spec -/
local macro_rules | `(tactic| walk_at "i") => `(tactic| simp only [initS, List.map_cons, List.map_nil, List.length_cons, List.length_nil, Nat.reduceAdd, Nat.reduceSub, List.replicate, List.cons_append, List.nil_append])
/-- a known truth decides -/
local macro_rules | `(tactic| walk_at "t") => `(tactic| first | ((with_reducible refine split_t ?_ ?_); (· walk_at "sd")) | ((with_reducible refine split_t' ?_ ?_); (· walk_at "sd")))
local macro_rules | `(tactic| walk_at "f") => `(tactic| first | ((with_reducible refine split_f ?_ ?_); (· walk_at "sd")) | ((with_reducible refine split_f' ?_ ?_); (· walk_at "sd")))
/-- all that is seen in a look -/
local macro_rules | `(tactic| walk_at "v") => `(tactic| (rw [sealAll_mk (by (simp only [List.set_cons_zero, List.set_cons_succ, List.map_cons, List.map_nil, sealS_none, sealS_dat, sealS_scr, sealS_own, List.getElem?_cons_zero, List.getElem?_cons_succ, sealC_lst]; rfl)) (by (simp only [List.set_cons_zero, List.set_cons_succ, List.map_cons, List.map_nil]; rfl))]))
theorem x__law_follows {w a b : D} {p : Int} {ls : List Ln} {e f : Int × Int} (hw : Web w p ls) (h : WbOk p ls) (sa : IsEn a e) (sb : IsEn b f) (he : EndOk ls.length e) (hf : EndOk ls.length f) : m__law_follows [w, a, b] = some (.bool (goesB ls e f)) := by
  obtain ⟨L, sw, hL⟩ := hw
  obtain ⟨l, hl, _⟩ := end_line rfl he
  obtain ⟨xs, x, sx, hxl, hx, hln⟩ := line_at hL hl
  obtain ⟨l2, hl2, _⟩ := end_line rfl hf
  obtain ⟨xs2, x2, sx2, hxl2, hx2, hln2⟩ := line_at hL hl2
  have c1 : cmpy ls e = l.2.2 := by unfold cmpy; rw [hl]
  have c2 : cmpy ls f = l2.2.2 := by unfold cmpy; rw [hl2]
  have p1 : Ed (dIx x (.int (1 - e.2))) fun z => z = .int (plc ls (far e)) := by
    have h2 : e.2 = 0 ∨ e.2 = 1 := by have := he.2.2.1; have := he.2.2.2; omega
    unfold plc far
    simp only
    rw [hl]
    rcases h2 with h2 | h2 <;> rw [h2] <;> exact ed_ixQ hln (by decide) rfl rfl
  have p2 : Ed (dIx x2 (.int f.2)) fun z => z = .int (plc ls f) := by
    have h2 : f.2 = 0 ∨ f.2 = 1 := by have := hf.2.2.1; have := hf.2.2.2; omega
    unfold plc
    rw [hl2]
    rcases h2 with h2 | h2 <;> rw [h2] <;> exact ed_ixQ hln2 (by decide) rfl rfl
  obtain ⟨_, p1, rfl⟩ := p1
  obtain ⟨_, p2, rfl⟩ := p2
  unfold m__law_follows; refine mF_of ?_; walk_at "i"; unfold g__law_follows
  walk_at "e"
  refine ed_ixQ sw (by decide) rfl ?_
  walk_at "e"
  refine ed_ixQ sa (by decide) rfl ?_
  refine ed_ixQ sx he.1 hx ?_
  walk_at "e"
  refine ed_ixQ sw (by decide) rfl ?_
  walk_at "e"
  refine ed_ixQ sb (by decide) rfl ?_
  refine ed_ixQ sx2 hf.1 hx2 ?_
  walk_at "e"
  refine ed_ixQ sa (by decide) rfl ?_
  walk_at "e"
  refine Ed.of p1 ?_
  walk_at "e"
  refine ed_ixQ sb (by decide) rfl ?_
  refine Ed.of p2 ?_
  walk_at "e"
  unfold goesB
  refine ⟨fun ht => ?_, fun ht => ?_⟩
  · walk_at "e"
    refine ed_ixQ hln (by decide) rfl ?_
    walk_at "e"
    refine ed_ixQ hln2 (by decide) rfl ?_
    refine Ed.of (dNe_ch (by rw [← c1]; exact cmpy_ok h he) (by rw [← c2]; exact cmpy_ok h hf)) ?_
    rw [ht, c1, c2]
    walk_at "e"
  · rw [gives_rtI, ht]; rfl
end Lw

set_option maxHeartbeats 4000000
namespace Lw
open PySem Fu
local macro_rules | `(tactic| walk_at "e1") => `(tactic| first
  | with_reducible refine eo_seq ?_ | (with_reducible refine then_nx' ?_; refine ⟨?_, ?_, ?_⟩; rotate_left; · (try dsimp only [List.set, List.length_cons, List.length_nil, List.cons_append, List.nil_append, Nat.zero_add, Nat.reduceAdd]); exact rfl) | with_reducible refine then_rt ?_ | with_reducible refine eo_if ?_ | with_reducible refine eo_ret ?_ | with_reducible refine eo_set ?_ | with_reducible refine eo_asg ?_ | with_reducible refine eo_drop ?_ | with_reducible refine eo_nx ?_ | with_reducible refine eo_par ?_ | with_reducible refine eo_own ?_ | with_reducible refine eo_retN ?_ | with_reducible refine eo_for ?_ | with_reducible refine eo_retO ?_
  | with_reducible refine ev_c ?_ | (with_reducible refine ev_var ?_; refine ⟨_, rfl, ?_⟩) | with_reducible refine ev_bin ?_ | with_reducible refine ev_un ?_ | with_reducible refine ev_nil ?_ | with_reducible refine ev_cons ?_
  | with_reducible refine ev_tup ?_ | with_reducible refine ev_lst ?_ | with_reducible refine ev_call ?_ | with_reducible refine ev_callF ?_ | with_reducible refine ev_isi ?_ | with_reducible refine ev_isi2 ?_ | with_reducible refine ev_andV ?_ | with_reducible refine ev_orV ?_ | with_reducible refine ev_notV ?_
  | with_reducible refine ev_B ?_ | with_reducible refine ev_and ?_ | with_reducible refine ev_or ?_ | with_reducible refine ev_not ?_ | with_reducible refine ev_yes ?_ | with_reducible refine ev_if ?_ | with_reducible refine ev_no ?_ | with_reducible refine ev_so ?_ | with_reducible refine ev_sl ?_ | with_reducible refine ev_items ?_
  | (with_reducible refine ev_ixO ?_; refine ⟨_, _, rfl, rfl, ?_⟩) | (with_reducible refine ev_varO ?_; refine ⟨_, _, rfl, rfl, ?_⟩) | (with_reducible refine ev_lenO ?_; refine ⟨_, _, rfl, rfl, ?_⟩) | (with_reducible refine ev_scrSl ?_; refine ⟨_, rfl, ?_⟩) | (with_reducible refine ev_scrLen ?_; refine ⟨_, rfl, ?_⟩) | (with_reducible refine ev_callScr ?_; refine ⟨_, rfl, ?_⟩) | (with_reducible refine ev_OL ?_; refine ⟨_, _, rfl, rfl, ?_⟩) | with_reducible refine ev_OR ?_ | with_reducible refine ev_rep ?_ | with_reducible refine ev_listRng1 ?_ | with_reducible refine eo_setO ?_
  | with_reducible refine es_name ?_ | with_reducible refine es_tup2 ?_ | with_reducible refine es_tup3 ?_
  | with_reducible refine ed_addI ?_ | with_reducible refine ed_subI ?_ | with_reducible refine ed_cmp ?_ | with_reducible refine ed_eqI ?_ | with_reducible refine ed_neI ?_ | with_reducible refine ed_slT ?_ | with_reducible refine ed_slL ?_ | with_reducible refine ed_lenT ?_ | with_reducible refine ed_lenL ?_ | with_reducible refine ed_lenS ?_ | with_reducible refine ed_inS ?_ | with_reducible refine ed_itT ?_ | with_reducible refine ed_itL ?_ | with_reducible refine ed_tupL ?_ | with_reducible refine ed_tupT ?_ | with_reducible refine ed_listL ?_ | with_reducible refine ed_listT ?_ | with_reducible refine ed_neg ?_ | with_reducible refine ed_max ?_ | with_reducible refine ed_min ?_ | with_reducible refine ed_intB ?_
  | with_reducible refine ev_rng1 ?_ | with_reducible refine ev_rng2 ?_)
local macro_rules | `(tactic| walk_at "sd") => `(tactic| first | rfl | assumption | (simp only [decide_eq_true_eq, decide_eq_false_iff_not, Bool.not_eq_true', Bool.not_eq_false', Bool.and_eq_true, Bool.or_eq_true, List.length_map, List.length_cons, List.length_nil, List.length_append, List.length_range] at *; omega))
local macro_rules | `(tactic| walk_at "e2") => `(tactic| first
  | walk_at "e1" | with_reducible refine ⟨_, rfl, ?_⟩ | with_reducible refine ⟨_, _, rfl, ?_⟩
  | with_reducible refine And.intro (Eq.refl (List.length _)) ?_ | with_reducible refine And.intro (Nat.le_of_ble_eq_true (n := List.length _) rfl) ?_
  | with_reducible refine And.intro (Eq.refl (_ : Sx)) (?_ : Ed _ _)
  | ((with_reducible refine And.intro ?_ (And.intro ?_ (?_ : Ev _ _))); (· rfl); (· rfl))
  | ((with_reducible refine ed_ixT ?_ ?_ ?_); (· decide); (· rfl)) | ((with_reducible refine ed_ixL ?_ ?_ ?_); (· decide); (· rfl)) | ((with_reducible refine ed_at ?_ ?_ ?_); (· decide); (· rfl))
  | ((with_reducible refine ed_modI ?_ ?_); (· first | decide | omega))
  | with_reducible exact gives_nx | ((with_reducible refine gives_rt ?_); (· rfl)) | ((with_reducible refine And.intro ?_ ?_); (· exact rfl); (· with_reducible exact Eq.refl (_ : Sx))))
local macro_rules | `(tactic| walk_at "e") => `(tactic| repeat walk_at "e2")
/-- begin a def's spec -/
local macro_rules | `(tactic| walk_at "i") => `(tactic| simp only [initS, List.map_cons, List.map_nil, List.length_cons, List.length_nil, Nat.reduceAdd, Nat.reduceSub, List.replicate, List.cons_append, List.nil_append])
/-- a known truth decides -/
local macro_rules | `(tactic| walk_at "t") => `(tactic| first | ((with_reducible refine split_t ?_ ?_); (· walk_at "sd")) | ((with_reducible refine split_t' ?_ ?_); (· walk_at "sd")))
local macro_rules | `(tactic| walk_at "f") => `(tactic| first | ((with_reducible refine split_f ?_ ?_); (· walk_at "sd")) | ((with_reducible refine split_f' ?_ ?_); (· walk_at "sd")))
/-- all that is seen in a look -/
local macro_rules | `(tactic| walk_at "v") => `(tactic| (rw [sealAll_mk (by (simp only [List.set_cons_zero, List.set_cons_succ, List.map_cons, List.map_nil, sealS_none, sealS_dat, sealS_scr, sealS_own, List.getElem?_cons_zero, List.getElem?_cons_succ, sealC_lst]; rfl)) (by (simp only [List.set_cons_zero, List.set_cons_succ, List.map_cons, List.map_nil]; rfl))]))
end Lw

set_option maxHeartbeats 4000000
namespace Lw
open PySem Fu
local macro_rules | `(tactic| walk_at "e1") => `(tactic| first
  | with_reducible refine eo_seq ?_ | (with_reducible refine then_nx' ?_; refine ⟨?_, ?_, ?_⟩; rotate_left; · (try dsimp only [List.set, List.length_cons, List.length_nil, List.cons_append, List.nil_append, Nat.zero_add, Nat.reduceAdd]); exact rfl) | with_reducible refine then_rt ?_ | with_reducible refine eo_if ?_ | with_reducible refine eo_ret ?_ | with_reducible refine eo_set ?_ | with_reducible refine eo_asg ?_ | with_reducible refine eo_drop ?_ | with_reducible refine eo_nx ?_ | with_reducible refine eo_par ?_ | with_reducible refine eo_own ?_ | with_reducible refine eo_retN ?_ | with_reducible refine eo_for ?_ | with_reducible refine eo_retO ?_
  | with_reducible refine ev_c ?_ | (with_reducible refine ev_var ?_; refine ⟨_, rfl, ?_⟩) | with_reducible refine ev_bin ?_ | with_reducible refine ev_un ?_ | with_reducible refine ev_nil ?_ | with_reducible refine ev_cons ?_
  | with_reducible refine ev_tup ?_ | with_reducible refine ev_lst ?_ | with_reducible refine ev_call ?_ | with_reducible refine ev_callF ?_ | with_reducible refine ev_isi ?_ | with_reducible refine ev_isi2 ?_ | with_reducible refine ev_andV ?_ | with_reducible refine ev_orV ?_ | with_reducible refine ev_notV ?_
  | with_reducible refine ev_B ?_ | with_reducible refine ev_and ?_ | with_reducible refine ev_or ?_ | with_reducible refine ev_not ?_ | with_reducible refine ev_yes ?_ | with_reducible refine ev_if ?_ | with_reducible refine ev_no ?_ | with_reducible refine ev_so ?_ | with_reducible refine ev_sl ?_ | with_reducible refine ev_items ?_
  | (with_reducible refine ev_ixO ?_; refine ⟨_, _, rfl, rfl, ?_⟩) | (with_reducible refine ev_varO ?_; refine ⟨_, _, rfl, rfl, ?_⟩) | (with_reducible refine ev_lenO ?_; refine ⟨_, _, rfl, rfl, ?_⟩) | (with_reducible refine ev_scrSl ?_; refine ⟨_, rfl, ?_⟩) | (with_reducible refine ev_scrLen ?_; refine ⟨_, rfl, ?_⟩) | (with_reducible refine ev_callScr ?_; refine ⟨_, rfl, ?_⟩) | (with_reducible refine ev_OL ?_; refine ⟨_, _, rfl, rfl, ?_⟩) | with_reducible refine ev_OR ?_ | with_reducible refine ev_rep ?_ | with_reducible refine ev_listRng1 ?_ | with_reducible refine eo_setO ?_
  | with_reducible refine es_name ?_ | with_reducible refine es_tup2 ?_ | with_reducible refine es_tup3 ?_
  | with_reducible refine ed_addI ?_ | with_reducible refine ed_subI ?_ | with_reducible refine ed_cmp ?_ | with_reducible refine ed_eqI ?_ | with_reducible refine ed_neI ?_ | with_reducible refine ed_slT ?_ | with_reducible refine ed_slL ?_ | with_reducible refine ed_lenT ?_ | with_reducible refine ed_lenL ?_ | with_reducible refine ed_lenS ?_ | with_reducible refine ed_inS ?_ | with_reducible refine ed_itT ?_ | with_reducible refine ed_itL ?_ | with_reducible refine ed_tupL ?_ | with_reducible refine ed_tupT ?_ | with_reducible refine ed_listL ?_ | with_reducible refine ed_listT ?_ | with_reducible refine ed_neg ?_ | with_reducible refine ed_max ?_ | with_reducible refine ed_min ?_ | with_reducible refine ed_intB ?_
  | with_reducible refine ev_rng1 ?_ | with_reducible refine ev_rng2 ?_)
local macro_rules | `(tactic| walk_at "sd") => `(tactic| first | rfl | assumption | (simp only [decide_eq_true_eq, decide_eq_false_iff_not, Bool.not_eq_true', Bool.not_eq_false', Bool.and_eq_true, Bool.or_eq_true, List.length_map, List.length_cons, List.length_nil, List.length_append, List.length_range] at *; omega))
local macro_rules | `(tactic| walk_at "e2") => `(tactic| first
  | walk_at "e1" | with_reducible refine ⟨_, rfl, ?_⟩ | with_reducible refine ⟨_, _, rfl, ?_⟩
  | with_reducible refine And.intro (Eq.refl (List.length _)) ?_ | with_reducible refine And.intro (Nat.le_of_ble_eq_true (n := List.length _) rfl) ?_
  | with_reducible refine And.intro (Eq.refl (_ : Sx)) (?_ : Ed _ _)
  | ((with_reducible refine And.intro ?_ (And.intro ?_ (?_ : Ev _ _))); (· rfl); (· rfl))
  | ((with_reducible refine ed_ixT ?_ ?_ ?_); (· decide); (· rfl)) | ((with_reducible refine ed_ixL ?_ ?_ ?_); (· decide); (· rfl)) | ((with_reducible refine ed_at ?_ ?_ ?_); (· decide); (· rfl))
  | ((with_reducible refine ed_modI ?_ ?_); (· first | decide | omega))
  | with_reducible exact gives_nx | ((with_reducible refine gives_rt ?_); (· rfl)) | ((with_reducible refine And.intro ?_ ?_); (· exact rfl); (· with_reducible exact Eq.refl (_ : Sx))))
local macro_rules | `(tactic| walk_at "e") => `(tactic| repeat walk_at "e2")
/-- begin a def's spec -/
local macro_rules | `(tactic| walk_at "i") => `(tactic| simp only [initS, List.map_cons, List.map_nil, List.length_cons, List.length_nil, Nat.reduceAdd, Nat.reduceSub, List.replicate, List.cons_append, List.nil_append])
/-- a known truth decides -/
local macro_rules | `(tactic| walk_at "t") => `(tactic| first | ((with_reducible refine split_t ?_ ?_); (· walk_at "sd")) | ((with_reducible refine split_t' ?_ ?_); (· walk_at "sd")))
local macro_rules | `(tactic| walk_at "f") => `(tactic| first | ((with_reducible refine split_f ?_ ?_); (· walk_at "sd")) | ((with_reducible refine split_f' ?_ ?_); (· walk_at "sd")))
/-- all that is seen in a look -/
local macro_rules | `(tactic| walk_at "v") => `(tactic| (rw [sealAll_mk (by (simp only [List.set_cons_zero, List.set_cons_succ, List.map_cons, List.map_nil, sealS_none, sealS_dat, sealS_scr, sealS_own, List.getElem?_cons_zero, List.getElem?_cons_succ, sealC_lst]; rfl)) (by (simp only [List.set_cons_zero, List.set_cons_succ, List.map_cons, List.map_nil]; rfl))]))
theorem x__law_about {es : List (Int × Int)} : m__law_about [lE es] = some (lE (rv es)) := by
  unfold m__law_about lE; refine mF_of ?_; walk_at "i"; unfold g__law_about
  walk_at "e"
  refine ev_mapX (xs := es.reverse) (enc := fun e => .tuple [.int e.1, .int e.2]) (g := fun e => en (far e)) ?_
  walk_at "e"
  refine ed_rev ?_
  walk_at "e"
  refine ⟨by rw [← List.map_reverse]; rfl, fun e he => ?_, ?_⟩
  · walk_at "e"
  · walk_at "e"
    rw [gives_rtI]
    unfold rv
    rw [List.map_map]; rfl
theorem x__law_turned {ps : List Int} {t : List Nat} {es : List (Int × Int)} (h : MayBe ps t) (hz : es.length ≤ 100000) : m__law_turned [lE es, tD t] = some (lE (put t es)) := by
  rcases h with ⟨i, j, rfl, _⟩ | ⟨i, j, k, l, rfl, _⟩
  · unfold m__law_turned lE tD; refine mF_of ?_; walk_at "i"; unfold g__law_turned
    walk_at "e"
    walk_at "t"
    walk_at "e"
    rw [Bg.cut_mid (by omega) (by omega), ← List.map_take, ← List.map_drop]
    refine Ed.of x__law_about ?_
    unfold lE
    walk_at "e"
    rw [cut_to (by omega), Int.toNat_natCast, Int.toNat_natCast]
    have h1 : (rv ((es.take j).drop i)).length ≤ es.length := by rw [rv_len, List.length_drop, List.length_take]; omega
    refine ed_addL (by simp; omega) ?_
    walk_at "e"
    rw [cut_from (by omega), Int.toNat_natCast]
    refine ed_addL (by simp; omega) ?_
    walk_at "e"
    rw [gives_rtI]
    unfold put
    rw [List.map_append, List.map_append, List.map_take, List.map_drop]
  · unfold m__law_turned lE tD; refine mF_of ?_; walk_at "i"; unfold g__law_turned
    walk_at "e"
    walk_at "f"
    walk_at "e"
    refine es_tup4 ?_
    walk_at "e"
    rw [cut_to (by omega), Bg.cut_mid (by omega) (by omega), Int.toNat_natCast, Int.toNat_natCast, Int.toNat_natCast]
    refine ed_addL (by simp; omega) ?_
    walk_at "e"
    rw [Bg.cut_mid (by omega) (by omega), Int.toNat_natCast, Int.toNat_natCast]
    refine ed_addL (by simp; omega) ?_
    walk_at "e"
    rw [Bg.cut_mid (by omega) (by omega), Int.toNat_natCast, Int.toNat_natCast]
    refine ed_addL (by simp; omega) ?_
    walk_at "e"
    rw [cut_from (by omega), Int.toNat_natCast]
    refine ed_addL (by simp; omega) ?_
    rw [gives_rtI]
    unfold put
    simp only [List.map_append, List.map_take, List.map_drop]
/-! ### the law's own look at rounds -/
def cyc (ls : List Ln) (fs : List (Int × Int)) : Bool := (fs.zip (fs.tail ++ fs.take 1)).all fun z => goesB ls z.1 z.2
theorem cyc_aux (ls : List Ln) (y : Int × Int) : ∀ (r : List (Int × Int)) (x : Int × Int), (((x :: r).zip (r ++ [y])).all fun z => goesB ls z.1 z.2) = (chain ls (x :: r) && goesB ls (lastE (x :: r)) y)
  | [], x => by simp [chain, lastE]
  | b :: r, x => by
    rw [List.cons_append, List.zip_cons_cons, List.all_cons, cyc_aux ls y r b, chain, lastE_cons, Bool.and_assoc]
theorem cyc_round {ls : List Ln} {fs : List (Int × Int)} (hn : fs ≠ []) (hall : ∀ e ∈ fs, EndOk ls.length e) (hnd : (fs.map Prod.fst).Nodup) : cyc ls fs = roundB ls fs := by
  cases fs with
  | nil => exact absurd rfl hn
  | cons x r =>
    have e1 : cyc ls (x :: r) = (chain ls (x :: r) && goesB ls (lastE (x :: r)) x) := cyc_aux ls x r x
    rw [e1, Bool.eq_iff_iff, Bool.and_eq_true, roundB_iff, rideB_iff]
    exact ⟨fun h => ⟨⟨hn, hall, hnd, h.1⟩, h.2⟩, fun h => ⟨h.1.2.2.2, h.2⟩⟩
theorem x__law_goes_round {w : D} {p : Int} {ls : List Ln} {fs : List (Int × Int)} (hw : Web w p ls) (h : WbOk p ls) (hall : ∀ e ∈ fs, EndOk ls.length e) (hz : fs.length ≤ 100000) : m__law_goes_round [w, lE fs] = some (.bool (cyc ls fs)) := by
  unfold m__law_goes_round lE; refine mF_of ?_; walk_at "i"; unfold g__law_goes_round
  walk_at "e"
  refine ev_mapX (xs := fs.zip (fs.tail ++ fs.take 1)) (enc := fun z => .tuple [en z.1, en z.2]) (g := fun z => .bool (goesB ls z.1 z.2)) ?_
  refine ev_zip ?_
  walk_at "e"
  rw [cut_one, cut_to (by decide), show (1 : Int).toNat = 1 from rfl]
  refine ed_addL (by simp; omega) ?_
  walk_at "e"
  refine .inl ⟨_, _, rfl, ?_, fun z hz => ?_, ?_⟩
  · rw [← List.map_tail, ← List.map_take, ← List.map_append, zipD_map]
  · obtain ⟨m1, m2⟩ := List.of_mem_zip hz
    have m3 : z.2 ∈ fs := by
      rcases List.mem_append.mp m2 with m | m
      · exact List.mem_of_mem_tail m
      · exact List.mem_of_mem_take m
    walk_at "e"
    exact Ed.of (x__law_follows hw h (isEn_en _) (isEn_en _) (hall _ m1) (hall _ m3)) ⟨rfl, rfl⟩
  · walk_at "e"
    refine all_mapX (fun z : (Int × Int) × (Int × Int) => goesB ls z.1 z.2) _ ?_
    rw [gives_rtI]; rfl
theorem ed_plcQ {w : D} {p : Int} {ls : List Ln} {e : Int × Int} {Q : D → Prop} (hw : Web w p ls) (h : EndOk ls.length e) (q : Q (.int (plc ls e))) : Ed (dIx w (.int 1)) fun L => Ed (dIx L (.int e.1)) fun x => Ed (dIx x (.int e.2)) Q := by
  obtain ⟨L, sw, hL⟩ := hw
  obtain ⟨l, hl, _⟩ := end_line rfl h
  obtain ⟨xs, x, sx, hxl, hx, hln⟩ := line_at hL hl
  refine ed_ixQ sw (by decide) rfl (ed_ixQ sx h.1 hx ?_)
  have h2 : e.2 = 0 ∨ e.2 = 1 := by have := h.2.2.1; have := h.2.2.2; omega
  unfold plc at q
  rw [hl] at q
  rcases h2 with h2 | h2 <;> rw [h2] at q ⊢ <;> exact ed_ixQ hln (by decide) rfl q
theorem put_ends {ps : List Int} {t : List Nat} {es : List (Int × Int)} {n : Nat} (h : MayBe ps t) (hall : ∀ e ∈ es, EndOk n e) : ∀ e ∈ put t es, EndOk n e := by
  have sub : ∀ {a b : Nat} {e : Int × Int}, e ∈ (es.take a).drop b → EndOk n e := fun he => hall _ (List.mem_of_mem_take (List.mem_of_mem_drop he))
  have srv : ∀ {a b : Nat} {e : Int × Int}, e ∈ rv ((es.take a).drop b) → EndOk n e := fun {a b e} he => by
    unfold rv at he
    obtain ⟨f, hf, rfl⟩ := List.mem_map.mp he
    exact (sub (List.mem_reverse.mp hf)).far
  rcases h with ⟨i, j, rfl, _⟩ | ⟨i, j, k, l, rfl, _⟩
  · intro e he
    unfold put at he
    rcases List.mem_append.mp he with he | he
    · rcases List.mem_append.mp he with he | he
      · exact hall _ (List.mem_of_mem_take he)
      · exact srv he
    · exact hall _ (List.mem_of_mem_drop he)
  · intro e he
    unfold put at he
    rcases List.mem_append.mp he with he | he
    · rcases List.mem_append.mp he with he | he
      · rcases List.mem_append.mp he with he | he
        · rcases List.mem_append.mp he with he | he
          · exact hall _ (List.mem_of_mem_take he)
          · exact sub he
        · exact sub he
      · exact sub he
    · exact hall _ (List.mem_of_mem_drop he)
end Lw

set_option maxHeartbeats 4000000
namespace Lw
open PySem Fu
local macro_rules | `(tactic| walk_at "e1") => `(tactic| first
  | with_reducible refine eo_seq ?_ | (with_reducible refine then_nx' ?_; refine ⟨?_, ?_, ?_⟩; rotate_left; · (try dsimp only [List.set, List.length_cons, List.length_nil, List.cons_append, List.nil_append, Nat.zero_add, Nat.reduceAdd]); exact rfl) | with_reducible refine then_rt ?_ | with_reducible refine eo_if ?_ | with_reducible refine eo_ret ?_ | with_reducible refine eo_set ?_ | with_reducible refine eo_asg ?_ | with_reducible refine eo_drop ?_ | with_reducible refine eo_nx ?_ | with_reducible refine eo_par ?_ | with_reducible refine eo_own ?_ | with_reducible refine eo_retN ?_ | with_reducible refine eo_for ?_ | with_reducible refine eo_retO ?_
  | with_reducible refine ev_c ?_ | (with_reducible refine ev_var ?_; refine ⟨_, rfl, ?_⟩) | with_reducible refine ev_bin ?_ | with_reducible refine ev_un ?_ | with_reducible refine ev_nil ?_ | with_reducible refine ev_cons ?_
  | with_reducible refine ev_tup ?_ | with_reducible refine ev_lst ?_ | with_reducible refine ev_call ?_ | with_reducible refine ev_callF ?_ | with_reducible refine ev_isi ?_ | with_reducible refine ev_isi2 ?_ | with_reducible refine ev_andV ?_ | with_reducible refine ev_orV ?_ | with_reducible refine ev_notV ?_
  | with_reducible refine ev_B ?_ | with_reducible refine ev_and ?_ | with_reducible refine ev_or ?_ | with_reducible refine ev_not ?_ | with_reducible refine ev_yes ?_ | with_reducible refine ev_if ?_ | with_reducible refine ev_no ?_ | with_reducible refine ev_so ?_ | with_reducible refine ev_sl ?_ | with_reducible refine ev_items ?_
  | (with_reducible refine ev_ixO ?_; refine ⟨_, _, rfl, rfl, ?_⟩) | (with_reducible refine ev_varO ?_; refine ⟨_, _, rfl, rfl, ?_⟩) | (with_reducible refine ev_lenO ?_; refine ⟨_, _, rfl, rfl, ?_⟩) | (with_reducible refine ev_scrSl ?_; refine ⟨_, rfl, ?_⟩) | (with_reducible refine ev_scrLen ?_; refine ⟨_, rfl, ?_⟩) | (with_reducible refine ev_callScr ?_; refine ⟨_, rfl, ?_⟩) | (with_reducible refine ev_OL ?_; refine ⟨_, _, rfl, rfl, ?_⟩) | with_reducible refine ev_OR ?_ | with_reducible refine ev_rep ?_ | with_reducible refine ev_listRng1 ?_ | with_reducible refine eo_setO ?_
  | with_reducible refine es_name ?_ | with_reducible refine es_tup2 ?_ | with_reducible refine es_tup3 ?_
  | with_reducible refine ed_addI ?_ | with_reducible refine ed_subI ?_ | with_reducible refine ed_cmp ?_ | with_reducible refine ed_eqI ?_ | with_reducible refine ed_neI ?_ | with_reducible refine ed_slT ?_ | with_reducible refine ed_slL ?_ | with_reducible refine ed_lenT ?_ | with_reducible refine ed_lenL ?_ | with_reducible refine ed_lenS ?_ | with_reducible refine ed_inS ?_ | with_reducible refine ed_itT ?_ | with_reducible refine ed_itL ?_ | with_reducible refine ed_tupL ?_ | with_reducible refine ed_tupT ?_ | with_reducible refine ed_listL ?_ | with_reducible refine ed_listT ?_ | with_reducible refine ed_neg ?_ | with_reducible refine ed_max ?_ | with_reducible refine ed_min ?_ | with_reducible refine ed_intB ?_
  | with_reducible refine ev_rng1 ?_ | with_reducible refine ev_rng2 ?_)
local macro_rules | `(tactic| walk_at "sd") => `(tactic| first | rfl | assumption | (simp only [decide_eq_true_eq, decide_eq_false_iff_not, Bool.not_eq_true', Bool.not_eq_false', Bool.and_eq_true, Bool.or_eq_true, List.length_map, List.length_cons, List.length_nil, List.length_append, List.length_range] at *; omega))
local macro_rules | `(tactic| walk_at "e2") => `(tactic| first
  | walk_at "e1" | with_reducible refine ⟨_, rfl, ?_⟩ | with_reducible refine ⟨_, _, rfl, ?_⟩
  | with_reducible refine And.intro (Eq.refl (List.length _)) ?_ | with_reducible refine And.intro (Nat.le_of_ble_eq_true (n := List.length _) rfl) ?_
  | with_reducible refine And.intro (Eq.refl (_ : Sx)) (?_ : Ed _ _)
  | ((with_reducible refine And.intro ?_ (And.intro ?_ (?_ : Ev _ _))); (· rfl); (· rfl))
  | ((with_reducible refine ed_ixT ?_ ?_ ?_); (· decide); (· rfl)) | ((with_reducible refine ed_ixL ?_ ?_ ?_); (· decide); (· rfl)) | ((with_reducible refine ed_at ?_ ?_ ?_); (· decide); (· rfl))
  | ((with_reducible refine ed_modI ?_ ?_); (· first | decide | omega))
  | with_reducible exact gives_nx | ((with_reducible refine gives_rt ?_); (· rfl)) | ((with_reducible refine And.intro ?_ ?_); (· exact rfl); (· with_reducible exact Eq.refl (_ : Sx))))
local macro_rules | `(tactic| walk_at "e") => `(tactic| repeat walk_at "e2")
/-- begin a def's spec -/
local macro_rules | `(tactic| walk_at "i") => `(tactic| simp only [initS, List.map_cons, List.map_nil, List.length_cons, List.length_nil, Nat.reduceAdd, Nat.reduceSub, List.replicate, List.cons_append, List.nil_append])
/-- a known truth decides -/
local macro_rules | `(tactic| walk_at "t") => `(tactic| first | ((with_reducible refine split_t ?_ ?_); (· walk_at "sd")) | ((with_reducible refine split_t' ?_ ?_); (· walk_at "sd")))
local macro_rules | `(tactic| walk_at "f") => `(tactic| first | ((with_reducible refine split_f ?_ ?_); (· walk_at "sd")) | ((with_reducible refine split_f' ?_ ?_); (· walk_at "sd")))
/-- all that is seen in a look -/
local macro_rules | `(tactic| walk_at "v") => `(tactic| (rw [sealAll_mk (by (simp only [List.set_cons_zero, List.set_cons_succ, List.map_cons, List.map_nil, sealS_none, sealS_dat, sealS_scr, sealS_own, List.getElem?_cons_zero, List.getElem?_cons_succ, sealC_lst]; rfl)) (by (simp only [List.set_cons_zero, List.set_cons_succ, List.map_cons, List.map_nil]; rfl))]))
def mates' (ps : List Int) (i : Nat) : List Nat := ((List.range (ps.length - (i + 1))).map fun k => i + 1 + k).filter fun j => decide (ps.getD i 0 = ps.getD j 0)
theorem mates_eq (ps : List Int) (i : Nat) : mates' ps i = mates ps i := by
  unfold mates mates'
  refine List.filter_congr fun j _ => ?_
  exact decide_eq_decide.mpr eq_comm
theorem x__law_turnings {w : D} {p : Int} {ls : List Ln} {es : List (Int × Int)} (hw : Web w p ls) (h : WbOk p ls) (hz : es.length ≤ 30) (hr : roundB ls es = true) : m__law_turnings [w, lE es] = some (.list ((tgs ls es).map fun t => .tuple [tD t, lE (put t es)])) := by
  obtain ⟨hne, hall, hnd, _⟩ := rideB_iff.mp (roundB_iff.mp hr).1
  have hpl := plcs_len ls es
  have hp := pairs_len (plcs ls es) (plcs ls es).length
  have hp2 : (plcs ls es).length * (plcs ls es).length ≤ 30 * 30 := Nat.mul_le_mul (by omega) (by omega)
  have hb := mb_len (ps := plcs ls es) (by omega)
  unfold m__law_turnings lE; refine mF_of ?_; walk_at "i"; unfold g__law_turnings
  walk_at "e"
  refine ev_mapX (xs := es) (enc := fun e => .tuple [.int e.1, .int e.2]) (g := fun e => .int (plc ls e)) ?_
  walk_at "e"
  refine ⟨rfl, fun e he => ?_, ?_⟩
  · walk_at "e"
    obtain ⟨L, eL, x, ex, y, ey, rfl⟩ := ed_plcQ (Q := fun z => z = .int (plc ls e)) hw (hall e he) rfl
    refine Ed.of eL ?_
    walk_at "e"
    refine Ed.of ex ?_
    walk_at "e"
    exact Ed.of ey ⟨rfl, rfl⟩
  walk_at "e"
  refine ⟨by omega, by simp; omega, ?_⟩
  rw [show es.map (fun e => PyData.int (plc ls e)) = (plcs ls es).map PyData.int by unfold plcs; rw [List.map_map]; rfl]
  generalize hps : plcs ls es = ps at *
  rw [List.length_map, ← hpl, Int.toNat_natCast]
  refine eo_loop (fun i S => ∃ x5, S = ⟨[some (.dat w), some (.dat (.list (es.map en))), some (.dat (.list (ps.map .int))), some (.dat (.int (ps.length : Int))), some (.own 0), x5, none, none, none, none, none, none, none, none, none, none, none, none, none], [some (.lst ((pairs ps i).map tD))]⟩) ⟨_, rfl⟩ ?_ ?_
  · rintro i d S hd ⟨x5, rfl⟩
    obtain ⟨hi, rfl⟩ := rng_at hd
    walk_at "e"
    refine ev_ext ⟨_, _, rfl, rfl, ?_⟩
    refine ev_lcX (xs := (List.range (ps.length - (i + 1))).map fun k => i + 1 + k) (enc := fun j : Nat => .int (j : Int)) (b := fun j => decide (ps.getD i 0 = ps.getD j 0)) (g := fun j => tD [i, j]) ?_
    walk_at "e"
    refine ⟨by omega, by omega, by omega, by omega, by omega, ?_, fun j hj => ?_, ?_⟩
    · rw [rng_map, List.map_map, show ((ps.length : Int) - (0 + (i : Int) + 1)).toNat = ps.length - (i + 1) by omega]
      exact List.map_congr_left fun k _ => by simp [Function.comp]
    · obtain ⟨k, hk, rfl⟩ := List.mem_map.mp hj
      rw [List.mem_range] at hk
      walk_at "e"
      refine ed_ixL (by omega) (d := .int (ps.getD i 0)) ?_ ?_
      · rw [Int.zero_add, Int.toNat_natCast, List.getElem?_map, List.getElem?_eq_getElem hi, List.getD_eq_getElem?_getD, List.getElem?_eq_getElem hi]; rfl
      walk_at "e"
      refine ed_ixL (by omega) (d := .int (ps.getD (i + 1 + k) 0)) ?_ ?_
      · rw [Int.toNat_natCast, List.getElem?_map, List.getElem?_eq_getElem (by omega), List.getD_eq_getElem?_getD, List.getElem?_eq_getElem (by omega)]; rfl
      walk_at "e"
      refine ⟨rfl, rfl, fun _ => ?_⟩
      walk_at "e"
      rw [Int.zero_add]; exact ⟨rfl, rfl⟩
    · have hpl := pairs_len ps i
      have hml : (((List.range (ps.length - (i + 1))).map fun k => i + 1 + k).filter fun j => decide (ps.getD i 0 = ps.getD j 0)).length ≤ 1000 := by
        refine Nat.le_trans (List.length_filter_le _ _) ?_
        rw [List.length_map, List.length_range]; omega
      have hpl2 : i * ps.length ≤ 30 * 30 := Nat.mul_le_mul (by omega) (by omega)
      refine ⟨_, rfl, _, rfl, by simp only [List.length_map]; omega, ?_⟩
      walk_at "e"
      refine ⟨_, mk_eq rfl ?_⟩
      have := mates_eq ps i
      unfold mates' at this
      rw [this]
      unfold pairs
      rw [List.range_succ, List.flatMap_append, List.map_append, List.flatMap_cons, List.flatMap_nil, List.append_nil, List.map_map]
      rfl
  · rintro S ⟨x5, rfl⟩
    rw [rng_len]
    walk_at "e"
    refine eo_loopX (xs := pairs ps ps.length) (enc := tD) (fun i S => ∃ x5 x7 x8, S = ⟨[some (.dat w), some (.dat (.list (es.map en))), some (.dat (.list (ps.map .int))), some (.dat (.int (ps.length : Int))), some (.dat (.list ((pairs ps ps.length).map tD))), x5, some (.own 1), x7, x8, none, none, none, none, none, none, none, none, none, none], [none, some (.lst ((((pairs ps ps.length).take i).flatMap (fours ps)).map tD))]⟩) ⟨_, _, _, rfl⟩ ?_ ?_
    · rintro i t S ht ⟨x5, x7, x8, rfl⟩
      have hi := (List.getElem?_eq_some_iff.mp ht).1
      obtain ⟨a, c, rfl, hac⟩ := mem_pairs.mp (List.mem_of_getElem? ht)
      rw [show tD [a, c] = .tuple [.int (a : Int), .int (c : Int)] from rfl]
      walk_at "e"
      refine ev_lcX (xs := pairs ps ps.length) (enc := tD) (b := fun u => match u with
        | [j, l] => decide (a < j) && decide (j ≤ c) && decide (c < l)
        | _ => false) (g := tD) ?_
      walk_at "e"
      refine ⟨rfl, fun u hu => ?_, ?_⟩
      · obtain ⟨j, l, rfl, hjl⟩ := mem_pairs.mp hu
        walk_at "e"
        refine ev_chain3I (a := (a : Int)) (b := (j : Int)) (c := (c : Int)) (d := (l : Int)) rfl rfl rfl rfl ?_
        walk_at "e"
        refine ⟨rfl, ?_, fun _ => ?_⟩
        · simp only [Int.ofNat_lt, Int.ofNat_le]
        · walk_at "e"
      walk_at "e"
      refine ev_ext ⟨_, _, rfl, rfl, ?_⟩
      refine ev_mapX (xs := (pairs ps ps.length).filter fun u => match u with
        | [j, l] => decide (a < j) && decide (j ≤ c) && decide (c < l)
        | _ => false) (enc := tD) (g := fun u => tD (match u with
        | [j, l] => [a, j, c, l]
        | _ => [])) ?_
      walk_at "e"
      refine ⟨rfl, fun u hu => ?_, ?_⟩
      · obtain ⟨j, l, rfl, hjl⟩ := mem_pairs.mp (List.mem_filter.mp hu).1
        rw [show tD [j, l] = .tuple [.int (j : Int), .int (l : Int)] from rfl]
        walk_at "e"
      · have e1 : (((pairs ps ps.length).filter fun u => match u with
            | [j, l] => decide (a < j) && decide (j ≤ c) && decide (c < l)
            | _ => false).map fun u => tD (match u with
            | [j, l] => [a, j, c, l]
            | _ => [])) = (fours ps [a, c]).map tD := by
          unfold fours
          rw [List.map_map]; rfl
        have h1 := fours_len ps [a, c]
        have h2 := flat_len (f := fours ps) (m := ps.length * ps.length) ((pairs ps ps.length).take i) fun x _ => fours_len ps x
        have h3 : ((pairs ps ps.length).take i).length * (ps.length * ps.length) ≤ 900 * 900 := Nat.mul_le_mul (by rw [List.length_take]; omega) hp2
        rw [e1]
        refine ⟨_, rfl, _, rfl, by rw [List.length_map, List.length_map]; omega, ?_⟩
        walk_at "e"
        refine ⟨_, _, _, mk_eq rfl ?_⟩
        rw [List.take_succ, ht, Option.toList_some, List.flatMap_append, List.map_append, List.flatMap_cons, List.flatMap_nil, List.append_nil]
        rfl
    · rintro S ⟨x5, x7, x8, rfl⟩
      rw [List.take_length]
      have h2 := flat_len (f := fours ps) (m := ps.length * ps.length) (pairs ps ps.length) fun x _ => fours_len ps x
      have h3 : (pairs ps ps.length).length * (ps.length * ps.length) ≤ 900 * 900 := Nat.mul_le_mul (by omega) hp2
      walk_at "e"
      refine ed_addL (by rw [List.length_map, List.length_map]; omega) ?_
      walk_at "e"
      rw [← List.map_append]
      refine ed_sortedT cand_ne ?_
      walk_at "e"
      refine ev_mapX (xs := mb ps) (enc := tD) (g := fun t => .tuple [tD t, lE (put t es)]) ?_
      walk_at "e"
      refine ⟨rfl, fun t ht => ?_, ?_⟩
      · walk_at "e"
        exact Ed.of (x__law_turned (mem_mb.mp ht) (by omega)) (by walk_at "e")
      walk_at "e"
      refine ev_lcX (xs := mb ps) (enc := fun t => .tuple [tD t, lE (put t es)]) (b := fun t => roundB ls (put t es)) (g := fun t => .tuple [tD t, lE (put t es)]) ?_
      walk_at "e"
      refine ⟨rfl, fun t ht => ?_, ?_⟩
      · have hmt := mem_mb.mp ht
        have hlen := put_len (es := es) hmt
        have hpe := put_ends hmt hall
        have hpn : ((put t es).map Prod.fst).Nodup := (put_perm hmt).nodup_iff.mpr hnd
        have hne2 : put t es ≠ [] := by
          intro z
          rw [z] at hlen
          exact hne (List.length_eq_zero_iff.mp hlen.symm)
        walk_at "e"
        refine Ed.of (x__law_goes_round hw h hpe (by omega)) ?_
        walk_at "e"
        refine ⟨rfl, cyc_round hne2 hpe hpn, fun _ => ?_⟩
        walk_at "e"
      · walk_at "e"
        rw [gives_rtI]
        unfold tgs
        rw [hps]
        rfl
end Lw

set_option maxHeartbeats 4000000
namespace Lw
open PySem Fu
local macro_rules | `(tactic| walk_at "e1") => `(tactic| first
  | with_reducible refine eo_seq ?_ | (with_reducible refine then_nx' ?_; refine ⟨?_, ?_, ?_⟩; rotate_left; · (try dsimp only [List.set, List.length_cons, List.length_nil, List.cons_append, List.nil_append, Nat.zero_add, Nat.reduceAdd]); exact rfl) | with_reducible refine then_rt ?_ | with_reducible refine eo_if ?_ | with_reducible refine eo_ret ?_ | with_reducible refine eo_set ?_ | with_reducible refine eo_asg ?_ | with_reducible refine eo_drop ?_ | with_reducible refine eo_nx ?_ | with_reducible refine eo_par ?_ | with_reducible refine eo_own ?_ | with_reducible refine eo_retN ?_ | with_reducible refine eo_for ?_ | with_reducible refine eo_retO ?_
  | with_reducible refine ev_c ?_ | (with_reducible refine ev_var ?_; refine ⟨_, rfl, ?_⟩) | with_reducible refine ev_bin ?_ | with_reducible refine ev_un ?_ | with_reducible refine ev_nil ?_ | with_reducible refine ev_cons ?_
  | with_reducible refine ev_tup ?_ | with_reducible refine ev_lst ?_ | with_reducible refine ev_call ?_ | with_reducible refine ev_callF ?_ | with_reducible refine ev_isi ?_ | with_reducible refine ev_isi2 ?_ | with_reducible refine ev_andV ?_ | with_reducible refine ev_orV ?_ | with_reducible refine ev_notV ?_
  | with_reducible refine ev_B ?_ | with_reducible refine ev_and ?_ | with_reducible refine ev_or ?_ | with_reducible refine ev_not ?_ | with_reducible refine ev_yes ?_ | with_reducible refine ev_if ?_ | with_reducible refine ev_no ?_ | with_reducible refine ev_so ?_ | with_reducible refine ev_sl ?_ | with_reducible refine ev_items ?_
  | (with_reducible refine ev_ixO ?_; refine ⟨_, _, rfl, rfl, ?_⟩) | (with_reducible refine ev_varO ?_; refine ⟨_, _, rfl, rfl, ?_⟩) | (with_reducible refine ev_lenO ?_; refine ⟨_, _, rfl, rfl, ?_⟩) | (with_reducible refine ev_scrSl ?_; refine ⟨_, rfl, ?_⟩) | (with_reducible refine ev_scrLen ?_; refine ⟨_, rfl, ?_⟩) | (with_reducible refine ev_callScr ?_; refine ⟨_, rfl, ?_⟩) | (with_reducible refine ev_OL ?_; refine ⟨_, _, rfl, rfl, ?_⟩) | with_reducible refine ev_OR ?_ | with_reducible refine ev_rep ?_ | with_reducible refine ev_listRng1 ?_ | with_reducible refine eo_setO ?_
  | with_reducible refine es_name ?_ | with_reducible refine es_tup2 ?_ | with_reducible refine es_tup3 ?_
  | with_reducible refine ed_addI ?_ | with_reducible refine ed_subI ?_ | with_reducible refine ed_cmp ?_ | with_reducible refine ed_eqI ?_ | with_reducible refine ed_neI ?_ | with_reducible refine ed_slT ?_ | with_reducible refine ed_slL ?_ | with_reducible refine ed_lenT ?_ | with_reducible refine ed_lenL ?_ | with_reducible refine ed_lenS ?_ | with_reducible refine ed_inS ?_ | with_reducible refine ed_itT ?_ | with_reducible refine ed_itL ?_ | with_reducible refine ed_tupL ?_ | with_reducible refine ed_tupT ?_ | with_reducible refine ed_listL ?_ | with_reducible refine ed_listT ?_ | with_reducible refine ed_neg ?_ | with_reducible refine ed_max ?_ | with_reducible refine ed_min ?_ | with_reducible refine ed_intB ?_
  | with_reducible refine ev_rng1 ?_ | with_reducible refine ev_rng2 ?_)
local macro_rules | `(tactic| walk_at "sd") => `(tactic| first | rfl | assumption | (simp only [decide_eq_true_eq, decide_eq_false_iff_not, Bool.not_eq_true', Bool.not_eq_false', Bool.and_eq_true, Bool.or_eq_true, List.length_map, List.length_cons, List.length_nil, List.length_append, List.length_range] at *; omega))
local macro_rules | `(tactic| walk_at "e2") => `(tactic| first
  | walk_at "e1" | with_reducible refine ⟨_, rfl, ?_⟩ | with_reducible refine ⟨_, _, rfl, ?_⟩
  | with_reducible refine And.intro (Eq.refl (List.length _)) ?_ | with_reducible refine And.intro (Nat.le_of_ble_eq_true (n := List.length _) rfl) ?_
  | with_reducible refine And.intro (Eq.refl (_ : Sx)) (?_ : Ed _ _)
  | ((with_reducible refine And.intro ?_ (And.intro ?_ (?_ : Ev _ _))); (· rfl); (· rfl))
  | ((with_reducible refine ed_ixT ?_ ?_ ?_); (· decide); (· rfl)) | ((with_reducible refine ed_ixL ?_ ?_ ?_); (· decide); (· rfl)) | ((with_reducible refine ed_at ?_ ?_ ?_); (· decide); (· rfl))
  | ((with_reducible refine ed_modI ?_ ?_); (· first | decide | omega))
  | with_reducible exact gives_nx | ((with_reducible refine gives_rt ?_); (· rfl)) | ((with_reducible refine And.intro ?_ ?_); (· exact rfl); (· with_reducible exact Eq.refl (_ : Sx))))
local macro_rules | `(tactic| walk_at "e") => `(tactic| repeat walk_at "e2")
/-- begin a def's spec -/
local macro_rules | `(tactic| walk_at "i") => `(tactic| simp only [initS, List.map_cons, List.map_nil, List.length_cons, List.length_nil, Nat.reduceAdd, Nat.reduceSub, List.replicate, List.cons_append, List.nil_append])
/-- a known truth decides -/
local macro_rules | `(tactic| walk_at "t") => `(tactic| first | ((with_reducible refine split_t ?_ ?_); (· walk_at "sd")) | ((with_reducible refine split_t' ?_ ?_); (· walk_at "sd")))
local macro_rules | `(tactic| walk_at "f") => `(tactic| first | ((with_reducible refine split_f ?_ ?_); (· walk_at "sd")) | ((with_reducible refine split_f' ?_ ?_); (· walk_at "sd")))
/-- all that is seen in a look -/
local macro_rules | `(tactic| walk_at "v") => `(tactic| (rw [sealAll_mk (by (simp only [List.set_cons_zero, List.set_cons_succ, List.map_cons, List.map_nil, sealS_none, sealS_dat, sealS_scr, sealS_own, List.getElem?_cons_zero, List.getElem?_cons_succ, sealC_lst]; rfl)) (by (simp only [List.set_cons_zero, List.set_cons_succ, List.map_cons, List.map_nil]; rfl))]))
theorem cutL_map {α β : Type} (f : α → β) (xs : List α) (lo hi : Option Int) : cutL (xs.map f) lo hi = (cutL xs lo hi).map f := by
  unfold cutL
  rw [List.length_map, List.map_take, List.map_drop]
theorem mem_cutL {α : Type} {xs : List α} {lo hi : Option Int} {x : α} (h : x ∈ cutL xs lo hi) : x ∈ xs := List.mem_of_mem_drop (List.mem_of_mem_take h)
/-! ### the same lines by other numbers -/
def rmap (ren : Int → Int) (es : List (Int × Int)) : List (Int × Int) := es.map fun e => (ren e.1, e.2)
structure Ren (ren : Int → Int) (ls ks : List Ln) : Prop where
  inj : ∀ i j : Int, 0 ≤ i → i < ls.length → 0 ≤ j → j < ls.length → ren i = ren j → i = j
  lo : ∀ i : Int, 0 ≤ i → i < ls.length → 0 ≤ ren i
  hi : ∀ i : Int, 0 ≤ i → i < ls.length → ren i < ks.length
  at' : ∀ i : Int, 0 ≤ i → i < ls.length → ks[(ren i).toNat]? = ls[i.toNat]?
section
variable {ren : Int → Int} {ls ks : List Ln}
theorem Ren.end' (h : Ren ren ls ks) {e : Int × Int} (he : EndOk ls.length e) : EndOk ks.length (ren e.1, e.2) := ⟨h.lo _ he.1 he.2.1, h.hi _ he.1 he.2.1, he.2.2.1, he.2.2.2⟩
theorem Ren.plc (h : Ren ren ls ks) {e : Int × Int} (he : EndOk ls.length e) : Lw.plc ks (ren e.1, e.2) = Lw.plc ls e := by
  unfold Lw.plc
  rw [h.at' _ he.1 he.2.1]
theorem Ren.cmpy (h : Ren ren ls ks) {e : Int × Int} (he : EndOk ls.length e) : Lw.cmpy ks (ren e.1, e.2) = Lw.cmpy ls e := by
  unfold Lw.cmpy
  rw [h.at' _ he.1 he.2.1]
theorem Ren.goes (h : Ren ren ls ks) {e f : Int × Int} (he : EndOk ls.length e) (hf : EndOk ls.length f) : goesB ks (ren e.1, e.2) (ren f.1, f.2) = goesB ls e f := by
  unfold goesB
  have : far (ren e.1, e.2) = (ren (far e).1, (far e).2) := rfl
  rw [this, h.plc he.far, h.plc hf, h.cmpy he, h.cmpy hf]
theorem Ren.chain (h : Ren ren ls ks) : ∀ es : List (Int × Int), (∀ e ∈ es, EndOk ls.length e) → Lw.chain ks (rmap ren es) = Lw.chain ls es
  | [], _ => rfl
  | [_], _ => rfl
  | e :: f :: r, ha => by
    have := Ren.chain h (f :: r) fun x hx => ha x (List.mem_cons_of_mem _ hx)
    unfold rmap at this ⊢
    rw [List.map_cons, List.map_cons, Lw.chain, Lw.chain, h.goes (ha e List.mem_cons_self) (ha f (List.mem_cons_of_mem _ List.mem_cons_self))]
    rw [List.map_cons] at this
    rw [this]
theorem rmap_last {es : List (Int × Int)} (hn : es ≠ []) : lastE (rmap ren es) = (ren (lastE es).1, (lastE es).2) := by
  obtain ⟨h1, _⟩ := last_mem hn
  unfold rmap
  unfold lastE at *
  rw [List.getLast?_map, h1]; rfl
theorem rmap_head {es : List (Int × Int)} (hn : es ≠ []) : headE (rmap ren es) = (ren (headE es).1, (headE es).2) := by
  cases es with
  | nil => exact absurd rfl hn
  | cons => rfl
theorem Ren.round (h : Ren ren ls ks) {es : List (Int × Int)} (ha : ∀ e ∈ es, EndOk ls.length e) : roundB ks (rmap ren es) = roundB ls es := by
  by_cases hn : es = []
  · subst hn; rfl
  obtain ⟨_, lm⟩ := last_mem hn
  obtain ⟨_, hm⟩ := head_mem hn
  have hnd : ((rmap ren es).map Prod.fst).Nodup ↔ (es.map Prod.fst).Nodup := by
    have e1 : (rmap ren es).map Prod.fst = (es.map Prod.fst).map ren := by unfold rmap; rw [List.map_map, List.map_map]; rfl
    rw [e1]
    constructor
    · intro z; exact List.Pairwise.of_map ren (fun a b h e => h (by rw [e])) z
    · intro z
      refine List.pairwise_map.mpr (List.Pairwise.imp_of_mem ?_ z)
      intro a b ha' hb' hab e
      obtain ⟨x, hx, rfl⟩ := List.mem_map.mp ha'
      obtain ⟨y, hy, rfl⟩ := List.mem_map.mp hb'
      exact hab (h.inj _ _ (ha x hx).1 (ha x hx).2.1 (ha y hy).1 (ha y hy).2.1 e)
  have hne : rmap ren es ≠ [] := by unfold rmap; simpa using hn
  rw [Bool.eq_iff_iff, roundB_iff, roundB_iff, rideB_iff, rideB_iff, h.chain es ha, rmap_last hn, rmap_head hn, h.goes (ha _ lm) (ha _ hm), hnd]
  constructor
  · rintro ⟨⟨_, _, h3, h4⟩, h5⟩
    exact ⟨⟨hn, ha, h3, h4⟩, h5⟩
  · rintro ⟨⟨_, _, h3, h4⟩, h5⟩
    refine ⟨⟨hne, fun e he => ?_, h3, h4⟩, h5⟩
    obtain ⟨f, hf, rfl⟩ := List.mem_map.mp he
    exact h.end' (ha f hf)
theorem rmap_rv (es : List (Int × Int)) : rv (rmap ren es) = rmap ren (rv es) := by
  unfold rv rmap
  rw [← List.map_reverse, List.map_map, List.map_map]; rfl
theorem rmap_put {t : List Nat} (es : List (Int × Int)) : put t (rmap ren es) = rmap ren (put t es) := by
  unfold put
  split
  · rw [show ((rmap ren es).take _).drop _ = rmap ren ((es.take _).drop _) by unfold rmap; rw [← List.map_take, ← List.map_drop], rmap_rv]
    unfold rmap
    rw [List.map_append, List.map_append, List.map_take, List.map_drop]
  · unfold rmap
    simp only [List.map_append, List.map_take, List.map_drop]
  · rfl
theorem Ren.plcs (h : Ren ren ls ks) {es : List (Int × Int)} (ha : ∀ e ∈ es, EndOk ls.length e) : Lw.plcs ks (rmap ren es) = Lw.plcs ls es := by
  unfold Lw.plcs rmap
  rw [List.map_map]
  exact List.map_congr_left fun e he => h.plc (ha e he)
theorem Ren.tgs (h : Ren ren ls ks) {es : List (Int × Int)} (ha : ∀ e ∈ es, EndOk ls.length e) : Lw.tgs ks (rmap ren es) = Lw.tgs ls es := by
  unfold Lw.tgs
  rw [h.plcs ha]
  refine List.filter_congr fun t ht => ?_
  rw [rmap_put, h.round (put_ends (mem_mb.mp ht) ha)]
end
end Lw

set_option maxHeartbeats 4000000
namespace Lw
open PySem Fu
local macro_rules | `(tactic| walk_at "e1") => `(tactic| first
  | with_reducible refine eo_seq ?_ | (with_reducible refine then_nx' ?_; refine ⟨?_, ?_, ?_⟩; rotate_left; · (try dsimp only [List.set, List.length_cons, List.length_nil, List.cons_append, List.nil_append, Nat.zero_add, Nat.reduceAdd]); exact rfl) | with_reducible refine then_rt ?_ | with_reducible refine eo_if ?_ | with_reducible refine eo_ret ?_ | with_reducible refine eo_set ?_ | with_reducible refine eo_asg ?_ | with_reducible refine eo_drop ?_ | with_reducible refine eo_nx ?_ | with_reducible refine eo_par ?_ | with_reducible refine eo_own ?_ | with_reducible refine eo_retN ?_ | with_reducible refine eo_for ?_ | with_reducible refine eo_retO ?_
  | with_reducible refine ev_c ?_ | (with_reducible refine ev_var ?_; refine ⟨_, rfl, ?_⟩) | with_reducible refine ev_bin ?_ | with_reducible refine ev_un ?_ | with_reducible refine ev_nil ?_ | with_reducible refine ev_cons ?_
  | with_reducible refine ev_tup ?_ | with_reducible refine ev_lst ?_ | with_reducible refine ev_call ?_ | with_reducible refine ev_callF ?_ | with_reducible refine ev_isi ?_ | with_reducible refine ev_isi2 ?_ | with_reducible refine ev_andV ?_ | with_reducible refine ev_orV ?_ | with_reducible refine ev_notV ?_
  | with_reducible refine ev_B ?_ | with_reducible refine ev_and ?_ | with_reducible refine ev_or ?_ | with_reducible refine ev_not ?_ | with_reducible refine ev_yes ?_ | with_reducible refine ev_if ?_ | with_reducible refine ev_no ?_ | with_reducible refine ev_so ?_ | with_reducible refine ev_sl ?_ | with_reducible refine ev_items ?_
  | (with_reducible refine ev_ixO ?_; refine ⟨_, _, rfl, rfl, ?_⟩) | (with_reducible refine ev_varO ?_; refine ⟨_, _, rfl, rfl, ?_⟩) | (with_reducible refine ev_lenO ?_; refine ⟨_, _, rfl, rfl, ?_⟩) | (with_reducible refine ev_scrSl ?_; refine ⟨_, rfl, ?_⟩) | (with_reducible refine ev_scrLen ?_; refine ⟨_, rfl, ?_⟩) | (with_reducible refine ev_callScr ?_; refine ⟨_, rfl, ?_⟩) | (with_reducible refine ev_OL ?_; refine ⟨_, _, rfl, rfl, ?_⟩) | with_reducible refine ev_OR ?_ | with_reducible refine ev_rep ?_ | with_reducible refine ev_listRng1 ?_ | with_reducible refine eo_setO ?_
  | with_reducible refine es_name ?_ | with_reducible refine es_tup2 ?_ | with_reducible refine es_tup3 ?_
  | with_reducible refine ed_addI ?_ | with_reducible refine ed_subI ?_ | with_reducible refine ed_cmp ?_ | with_reducible refine ed_eqI ?_ | with_reducible refine ed_neI ?_ | with_reducible refine ed_slT ?_ | with_reducible refine ed_slL ?_ | with_reducible refine ed_lenT ?_ | with_reducible refine ed_lenL ?_ | with_reducible refine ed_lenS ?_ | with_reducible refine ed_inS ?_ | with_reducible refine ed_itT ?_ | with_reducible refine ed_itL ?_ | with_reducible refine ed_tupL ?_ | with_reducible refine ed_tupT ?_ | with_reducible refine ed_listL ?_ | with_reducible refine ed_listT ?_ | with_reducible refine ed_neg ?_ | with_reducible refine ed_max ?_ | with_reducible refine ed_min ?_ | with_reducible refine ed_intB ?_
  | with_reducible refine ev_rng1 ?_ | with_reducible refine ev_rng2 ?_)
local macro_rules | `(tactic| walk_at "sd") => `(tactic| first | rfl | assumption | (simp only [decide_eq_true_eq, decide_eq_false_iff_not, Bool.not_eq_true', Bool.not_eq_false', Bool.and_eq_true, Bool.or_eq_true, List.length_map, List.length_cons, List.length_nil, List.length_append, List.length_range] at *; omega))
local macro_rules | `(tactic| walk_at "e2") => `(tactic| first
  | walk_at "e1" | with_reducible refine ⟨_, rfl, ?_⟩ | with_reducible refine ⟨_, _, rfl, ?_⟩
  | with_reducible refine And.intro (Eq.refl (List.length _)) ?_ | with_reducible refine And.intro (Nat.le_of_ble_eq_true (n := List.length _) rfl) ?_
  | with_reducible refine And.intro (Eq.refl (_ : Sx)) (?_ : Ed _ _)
  | ((with_reducible refine And.intro ?_ (And.intro ?_ (?_ : Ev _ _))); (· rfl); (· rfl))
  | ((with_reducible refine ed_ixT ?_ ?_ ?_); (· decide); (· rfl)) | ((with_reducible refine ed_ixL ?_ ?_ ?_); (· decide); (· rfl)) | ((with_reducible refine ed_at ?_ ?_ ?_); (· decide); (· rfl))
  | ((with_reducible refine ed_modI ?_ ?_); (· first | decide | omega))
  | with_reducible exact gives_nx | ((with_reducible refine gives_rt ?_); (· rfl)) | ((with_reducible refine And.intro ?_ ?_); (· exact rfl); (· with_reducible exact Eq.refl (_ : Sx))))
local macro_rules | `(tactic| walk_at "e") => `(tactic| repeat walk_at "e2")
/-- begin a def's spec -/
local macro_rules | `(tactic| walk_at "i") => `(tactic| simp only [initS, List.map_cons, List.map_nil, List.length_cons, List.length_nil, Nat.reduceAdd, Nat.reduceSub, List.replicate, List.cons_append, List.nil_append])
/-- a known truth decides -/
local macro_rules | `(tactic| walk_at "t") => `(tactic| first | ((with_reducible refine split_t ?_ ?_); (· walk_at "sd")) | ((with_reducible refine split_t' ?_ ?_); (· walk_at "sd")))
local macro_rules | `(tactic| walk_at "f") => `(tactic| first | ((with_reducible refine split_f ?_ ?_); (· walk_at "sd")) | ((with_reducible refine split_f' ?_ ?_); (· walk_at "sd")))
/-- all that is seen in a look -/
local macro_rules | `(tactic| walk_at "v") => `(tactic| (rw [sealAll_mk (by (simp only [List.set_cons_zero, List.set_cons_succ, List.map_cons, List.map_nil, sealS_none, sealS_dat, sealS_scr, sealS_own, List.getElem?_cons_zero, List.getElem?_cons_succ, sealC_lst]; rfl)) (by (simp only [List.set_cons_zero, List.set_cons_succ, List.map_cons, List.map_nil]; rfl))]))
theorem at_idx : ∀ {od : List Nat} {a : Nat}, a ∈ od → od[od.idxOf a]? = some a
  | b :: od, a, h => by
    rw [List.idxOf_cons]
    by_cases e : b = a
    · subst e; simp
    · have e2 : (b == a) = false := by simpa using e
      rw [e2]
      have := at_idx ((List.mem_cons.mp h).resolve_left fun z => e z.symm)
      simpa using this
theorem findIdx_ints {od : List Nat} {a : Nat} (ha : a ∈ od) : ((od.map fun i : Nat => PyData.int (i : Int)).findIdx? fun z => PyData.eqv z (.int (a : Int))) = some (od.idxOf a) := by
  induction od with
  | nil => cases ha
  | cons b od ih =>
    rw [List.map_cons, List.findIdx?_cons, List.idxOf_cons]
    by_cases h : b = a
    · subst h; simp [PyData.eqv]
    · have h2 : ((PyData.int (b : Int)).eqv (.int (a : Int))) = false := by simp [PyData.eqv]; omega
      have h3 : (b == a) = false := by simpa using h
      rw [h2, ih ((List.mem_cons.mp ha).resolve_left fun z => h z.symm)]
      simp [h3]
theorem ed_indexN {od : List Nat} {a : Nat} {Q : D → Prop} (ha : a ∈ od) (q : Q (.int (od.idxOf a : Nat))) : Ed (dIndex (.list (od.map fun i : Nat => PyData.int (i : Int))) (.int (a : Int))) Q := by
  refine ⟨_, ?_, q⟩
  simp only [dIndex]
  rw [if_pos ⟨(fine_int _).shaped, (fine_list (n := 0) fun d hd => by obtain ⟨n, _, rfl⟩ := List.mem_map.mp hd; exact fine_int _).shaped⟩, findIdx_ints ha]
  rfl
namespace Bg
open Sp
theorem x__law_wider {c : Nat} {cs : List D} {p : Int} {ls : List Ln} {es : List (Int × Int)} (hk : WbOk p ls) (p0 : 0 < p) (p1 : p ≤ 1000) (hl : ls.length ≤ 100) (hall : ∀ e ∈ es, EndOk ls.length e) (hB : Bag c cs) (hc : ls.length + 20 ≤ c) :
    ∃ d cs', m__law_wider cs [wb p ls, lE es] = some (d, cs') ∧ ∃ (ks : List Ln) (ren : Int → Int), d = .tuple [wb (p + 1) ks, lE (rmap ren es)] ∧ WbOk (p + 1) ks ∧ ks.length ≤ ls.length + 3 ∧ Ren ren ls ks ∧ Bag (c - (ls.length + 20)) cs' := by
  unfold m__law_wider lE wb; refine mIO_of ?_; walk_at "i"; unfold g__law_wider
  walk_at "e"
  refine ed_ixQ (sq_t _) (by decide) rfl ?_
  walk_at "e"
  refine ev_drawB ⟨_, rfl, ?_⟩
  walk_at "e"
  refine ⟨_, _, _, rfl, rfl, hB, by omega, by decide, by decide, fun v1 cs a1 b1 hB => ?_⟩
  walk_at "e"
  refine ⟨by omega, by omega, ?_⟩
  obtain ⟨q, rfl⟩ : ∃ q : Nat, v1 = (q : Int) := ⟨v1.toNat, by omega⟩
  rw [show (1 + (q : Int)).toNat = 1 + q by omega]
  refine eo_loop (fun i S => ∃ x4 cs more, S = ⟨[some (.own 0), some (.dat (.tuple [.int p, .tuple (ls.map ln)])), some (.dat (.list (es.map en))), some (.own 1), x4, none, none, none, none], [some (.lst cs), some (.lst ((ls ++ more).map ln))]⟩ ∧ (∀ l ∈ more, LnOk (p + 1) l) ∧ more.length = i ∧ Bag (c - 1 - 3 * i) cs) ⟨_, _, [], mk_eq rfl (by rw [List.append_nil]; rfl), (fun _ h => nomatch h), rfl, hB⟩ ?_ ?_
  · rintro i d S hd ⟨x4, cs, more, rfl, hm, hml, hB⟩
    obtain ⟨hi, rfl⟩ := rng_at hd
    walk_at "e"
    refine ev_app ⟨_, _, rfl, rfl, ?_⟩
    walk_at "e"
    refine ev_drawB ⟨_, rfl, ?_⟩
    walk_at "e"
    refine ed_ixQ (sq_t _) (by decide) rfl ?_
    walk_at "e"
    refine ⟨_, _, _, rfl, rfl, hB, by omega, by omega, by omega, fun w1 cs c1 d1 hB => ?_⟩
    walk_at "e"
    refine ev_drawB ⟨_, rfl, ?_⟩
    walk_at "e"
    refine ed_ixQ (sq_t _) (by decide) rfl ?_
    walk_at "e"
    refine ⟨_, _, _, rfl, rfl, hB, by omega, by omega, by omega, fun w2 cs c2 d2 hB => ?_⟩
    walk_at "e"
    refine ev_drawB ⟨_, rfl, ?_⟩
    walk_at "e"
    refine ⟨_, _, _, rfl, rfl, hB, by omega, by decide, by decide, fun w3 cs c3 d3 hB => ?_⟩
    refine ed_pickS (P := Let) c3 d3 (by intro c hc; have hc : c ∈ [97, 98, 99, 100] := hc; simp at hc; rcases hc with rfl | rfl | rfl | rfl <;> exact ⟨by decide, by decide⟩) fun c' kc => ?_
    walk_at "e"
    refine ⟨by simp; omega, ?_⟩
    walk_at "e"
    refine ⟨_, cs, more ++ [(w1, w2, c')], mk_eq rfl ?_, fun l hl => ?_, by simp [hml], hB.mono (by omega)⟩
    · rw [show (ls ++ (more ++ [(w1, w2, c')])).map ln = (ls ++ more).map ln ++ [ln (w1, w2, c')] by simp]; rfl
    · rcases List.mem_append.mp hl with h | h
      · exact hm l h
      · rw [List.mem_singleton.mp h]; exact ⟨c1, by simpa using d1, c2, by simpa using d2, kc⟩
  · rintro S ⟨x4, cs, more, rfl, hm, hml, hB⟩
    rw [rng_len] at hml hB
    have hN : (ls ++ more).length = ls.length + (1 + q) := by rw [List.length_append, hml]
    have hok : ∀ l ∈ ls ++ more, LnOk (p + 1) l := fun l hl => by
      rcases List.mem_append.mp hl with h | h
      · have := hk.all l h
        exact ⟨this.a0, by have := this.a1; omega, this.b0, by have := this.b1; omega, this.c⟩
      · exact hm l h
    generalize hL : ls ++ more = L at *
    walk_at "e"
    refine ev_IO ⟨_, rfl, ?_⟩
    walk_at "e"
    refine ⟨by omega, by simp; omega, ?_⟩
    rw [List.length_map, Int.toNat_natCast]
    walk_at "e"
    obtain ⟨d, cs, e, ys, rfl, hys, hB⟩ := x__law_mixed (xs := rng 0 L.length) hB (by rw [rng_len]; omega) (by rw [rng_len]; omega)
    obtain ⟨od, rfl, hod⟩ : ∃ od : List Nat, ys = od.map (fun i : Nat => PyData.int (i : Int)) ∧ od.Perm (List.range L.length) := by
      rw [rng0] at hys
      exact perm_map hys
    rw [rng_len] at hB
    refine ⟨_, _, e, ?_⟩
    walk_at "e"
    have hodl : od.length = L.length := by simpa using hod.length_eq
    have hodn : od.Nodup := hod.nodup_iff.mpr List.nodup_range
    have hmem : ∀ a, a ∈ od ↔ a < L.length := fun a => by rw [hod.mem_iff, List.mem_range]
    refine ed_ixQ (sq_t _) (by decide) rfl ?_
    walk_at "e"
    refine ev_mapX (xs := od) (enc := fun i : Nat => .int (i : Int)) (g := fun i : Nat => ln (L.getD i (0, 0, 97))) ?_
    walk_at "e"
    refine ⟨rfl, fun a ha => ?_, ?_⟩
    · have hlt := (hmem a).mp ha
      walk_at "e"
      refine ed_at (by omega) (d := ln (L.getD a (0, 0, 97))) ?_ ⟨rfl, rfl⟩
      rw [Int.toNat_natCast, List.getElem?_map, List.getElem?_eq_getElem hlt, List.getD_eq_getElem?_getD, List.getElem?_eq_getElem hlt]; rfl
    walk_at "e"
    refine ev_mapX (xs := es) (enc := fun e => .tuple [.int e.1, .int e.2]) (g := fun e => en (((od.idxOf e.1.toNat : Nat) : Int), e.2)) ?_
    walk_at "e"
    refine ⟨rfl, fun e he => ?_, ?_⟩
    · obtain ⟨e0, e1, _⟩ := hall e he
      have hcast : e.1 = ((e.1.toNat : Nat) : Int) := by omega
      walk_at "e"
      rw [hcast]
      refine ed_indexN ((hmem _).mpr (by omega)) ?_
      rw [← hcast]
      walk_at "e"
    walk_at "e"
    have hkl : (od.map fun i : Nat => L.getD i (0, 0, 97)).length = L.length := by rw [List.length_map, hodl]
    refine ⟨cs, rfl, od.map fun i : Nat => L.getD i (0, 0, 97), fun i => ((od.idxOf i.toNat : Nat) : Int), ?_, ⟨by omega, fun l hl => ?_, by omega⟩, by omega, ⟨fun i j i0 i1 j0 j1 hij => ?_, fun i i0 i1 => by omega, fun i i0 i1 => ?_, fun i i0 i1 => ?_⟩, hB.mono (by omega)⟩
    · unfold rmap
      rw [List.map_map, List.map_map]; rfl
    · obtain ⟨a, ha, rfl⟩ := List.mem_map.mp hl
      have hlt := (hmem a).mp ha
      rw [List.getD_eq_getElem?_getD, List.getElem?_eq_getElem hlt]
      exact hok _ (List.getElem_mem hlt)
    · have a1 := (hmem i.toNat).mpr (by omega)
      have a2 := (hmem j.toNat).mpr (by omega)
      have b1 := at_idx a1
      have b2 := at_idx a2
      have e : od.idxOf i.toNat = od.idxOf j.toNat := by
        have hij : ((od.idxOf i.toNat : Nat) : Int) = ((od.idxOf j.toNat : Nat) : Int) := hij
        omega
      rw [e, b2] at b1
      have : j.toNat = i.toNat := by simpa using b1
      omega
    · have a1 := (hmem i.toNat).mpr (by omega)
      have := List.idxOf_lt_length_iff.mpr a1
      rw [hkl]
      show ((od.idxOf i.toNat : Nat) : Int) < _
      omega
    · have a1 := (hmem i.toNat).mpr (by omega)
      have b1 := at_idx a1
      show (od.map fun i : Nat => L.getD i (0, 0, 97))[((od.idxOf i.toNat : Nat) : Int).toNat]? = _
      have hx : L[i.toNat]? = ls[i.toNat]? := by rw [← hL, List.getElem?_append_left (by omega)]
      rw [Int.toNat_natCast, List.getElem?_map, b1, Option.map_some, ← hx, List.getD_eq_getElem?_getD, List.getElem?_eq_getElem (show i.toNat < L.length by omega)]
      rfl
end Bg
end Lw

set_option maxHeartbeats 4000000
namespace Lw
open PySem Fu
local macro_rules | `(tactic| walk_at "e1") => `(tactic| first
  | with_reducible refine eo_seq ?_ | (with_reducible refine then_nx' ?_; refine ⟨?_, ?_, ?_⟩; rotate_left; · (try dsimp only [List.set, List.length_cons, List.length_nil, List.cons_append, List.nil_append, Nat.zero_add, Nat.reduceAdd]); exact rfl) | with_reducible refine then_rt ?_ | with_reducible refine eo_if ?_ | with_reducible refine eo_ret ?_ | with_reducible refine eo_set ?_ | with_reducible refine eo_asg ?_ | with_reducible refine eo_drop ?_ | with_reducible refine eo_nx ?_ | with_reducible refine eo_par ?_ | with_reducible refine eo_own ?_ | with_reducible refine eo_retN ?_ | with_reducible refine eo_for ?_ | with_reducible refine eo_retO ?_
  | with_reducible refine ev_c ?_ | (with_reducible refine ev_var ?_; refine ⟨_, rfl, ?_⟩) | with_reducible refine ev_bin ?_ | with_reducible refine ev_un ?_ | with_reducible refine ev_nil ?_ | with_reducible refine ev_cons ?_
  | with_reducible refine ev_tup ?_ | with_reducible refine ev_lst ?_ | with_reducible refine ev_call ?_ | with_reducible refine ev_callF ?_ | with_reducible refine ev_isi ?_ | with_reducible refine ev_isi2 ?_ | with_reducible refine ev_andV ?_ | with_reducible refine ev_orV ?_ | with_reducible refine ev_notV ?_
  | with_reducible refine ev_B ?_ | with_reducible refine ev_and ?_ | with_reducible refine ev_or ?_ | with_reducible refine ev_not ?_ | with_reducible refine ev_yes ?_ | with_reducible refine ev_if ?_ | with_reducible refine ev_no ?_ | with_reducible refine ev_so ?_ | with_reducible refine ev_sl ?_ | with_reducible refine ev_items ?_
  | (with_reducible refine ev_ixO ?_; refine ⟨_, _, rfl, rfl, ?_⟩) | (with_reducible refine ev_varO ?_; refine ⟨_, _, rfl, rfl, ?_⟩) | (with_reducible refine ev_lenO ?_; refine ⟨_, _, rfl, rfl, ?_⟩) | (with_reducible refine ev_scrSl ?_; refine ⟨_, rfl, ?_⟩) | (with_reducible refine ev_scrLen ?_; refine ⟨_, rfl, ?_⟩) | (with_reducible refine ev_callScr ?_; refine ⟨_, rfl, ?_⟩) | (with_reducible refine ev_OL ?_; refine ⟨_, _, rfl, rfl, ?_⟩) | with_reducible refine ev_OR ?_ | with_reducible refine ev_rep ?_ | with_reducible refine ev_listRng1 ?_ | with_reducible refine eo_setO ?_
  | with_reducible refine es_name ?_ | with_reducible refine es_tup2 ?_ | with_reducible refine es_tup3 ?_
  | with_reducible refine ed_addI ?_ | with_reducible refine ed_subI ?_ | with_reducible refine ed_cmp ?_ | with_reducible refine ed_eqI ?_ | with_reducible refine ed_neI ?_ | with_reducible refine ed_slT ?_ | with_reducible refine ed_slL ?_ | with_reducible refine ed_lenT ?_ | with_reducible refine ed_lenL ?_ | with_reducible refine ed_lenS ?_ | with_reducible refine ed_inS ?_ | with_reducible refine ed_itT ?_ | with_reducible refine ed_itL ?_ | with_reducible refine ed_tupL ?_ | with_reducible refine ed_tupT ?_ | with_reducible refine ed_listL ?_ | with_reducible refine ed_listT ?_ | with_reducible refine ed_neg ?_ | with_reducible refine ed_max ?_ | with_reducible refine ed_min ?_ | with_reducible refine ed_intB ?_
  | with_reducible refine ev_rng1 ?_ | with_reducible refine ev_rng2 ?_)
local macro_rules | `(tactic| walk_at "sd") => `(tactic| first | rfl | assumption | (simp only [decide_eq_true_eq, decide_eq_false_iff_not, Bool.not_eq_true', Bool.not_eq_false', Bool.and_eq_true, Bool.or_eq_true, List.length_map, List.length_cons, List.length_nil, List.length_append, List.length_range] at *; omega))
local macro_rules | `(tactic| walk_at "e2") => `(tactic| first
  | walk_at "e1" | with_reducible refine ⟨_, rfl, ?_⟩ | with_reducible refine ⟨_, _, rfl, ?_⟩
  | with_reducible refine And.intro (Eq.refl (List.length _)) ?_ | with_reducible refine And.intro (Nat.le_of_ble_eq_true (n := List.length _) rfl) ?_
  | with_reducible refine And.intro (Eq.refl (_ : Sx)) (?_ : Ed _ _)
  | ((with_reducible refine And.intro ?_ (And.intro ?_ (?_ : Ev _ _))); (· rfl); (· rfl))
  | ((with_reducible refine ed_ixT ?_ ?_ ?_); (· decide); (· rfl)) | ((with_reducible refine ed_ixL ?_ ?_ ?_); (· decide); (· rfl)) | ((with_reducible refine ed_at ?_ ?_ ?_); (· decide); (· rfl))
  | ((with_reducible refine ed_modI ?_ ?_); (· first | decide | omega))
  | with_reducible exact gives_nx | ((with_reducible refine gives_rt ?_); (· rfl)) | ((with_reducible refine And.intro ?_ ?_); (· exact rfl); (· with_reducible exact Eq.refl (_ : Sx))))
local macro_rules | `(tactic| walk_at "e") => `(tactic| repeat walk_at "e2")
/-- begin a def's spec -/
local macro_rules | `(tactic| walk_at "i") => `(tactic| simp only [initS, List.map_cons, List.map_nil, List.length_cons, List.length_nil, Nat.reduceAdd, Nat.reduceSub, List.replicate, List.cons_append, List.nil_append])
/-- a known truth decides -/
local macro_rules | `(tactic| walk_at "t") => `(tactic| first | ((with_reducible refine split_t ?_ ?_); (· walk_at "sd")) | ((with_reducible refine split_t' ?_ ?_); (· walk_at "sd")))
local macro_rules | `(tactic| walk_at "f") => `(tactic| first | ((with_reducible refine split_f ?_ ?_); (· walk_at "sd")) | ((with_reducible refine split_f' ?_ ?_); (· walk_at "sd")))
/-- all that is seen in a look -/
local macro_rules | `(tactic| walk_at "v") => `(tactic| (rw [sealAll_mk (by (simp only [List.set_cons_zero, List.set_cons_succ, List.map_cons, List.map_nil, sealS_none, sealS_dat, sealS_scr, sealS_own, List.getElem?_cons_zero, List.getElem?_cons_succ, sealC_lst]; rfl)) (by (simp only [List.set_cons_zero, List.set_cons_succ, List.map_cons, List.map_nil]; rfl))]))
theorem mN_of {n : Nat} {g : Sx → Option Out} {ds cs : List D} (h : Eo (g ⟨initS n ds, []⟩) fun o => ∃ j S, o = .ro j S ∧ cellOf S j = some cs) : mN n g ds = some cs := by
  obtain ⟨o, e, j, S, rfl, q⟩ := h
  unfold mN
  rw [e]
  exact q
theorem ev_callN {S : Sx} {n : Nat} {f : List D → Option (List D)} {g : M (List D)} {Q : D → Sx → Prop} (h : Ev (g S) fun ds S1 => ds.length = n ∧ Ed (f ds) fun z => Q (.list z) S1) : Ev (gCallN n f g S) Q := by
  obtain ⟨ds, S1, e1, l, z, e2, q⟩ := h
  exact ⟨_, S1, by simp only [gCallN, e1, Option.bind_some, if_pos l, e2], q⟩
theorem x_turnings_N {w d : D} {p : Int} {ls : List Ln} {es : List (Int × Int)} (hw : Web w p ls) (h : WbOk p ls) (hd : IsRide d es) (hz : es.length ≤ 30) (hr : roundB ls es = true) : m_turnings_N [w, d] = some ((tgs ls es).map tD) := by
  unfold m_turnings_N; refine mN_of ?_; walk_at "i"; unfold g_turnings_N
  walk_at "e"
  refine Ed.of (x_kept hw h) ?_
  walk_at "e"
  refine ev_mapX (xs := tgs ls es) (enc := fun t => .tuple [tD t, lE (put t es)]) (g := tD) ?_
  walk_at "e"
  refine Ed.of (x_need_round (web_wb p ls) h hd (by omega) hr) ?_
  walk_at "e"
  refine Ed.of (x_turnings_ofE (web_wb p ls) h hz hr) ?_
  walk_at "e"
  refine ⟨rfl, fun t ht => ?_, ?_⟩
  · walk_at "e"
  · walk_at "e"
    rfl
theorem shw_intS {i : Int} (h : i.natAbs < 16) : Shw 0 8 (.int i) := by
  have hb : i.natAbs.log2 ≤ 3 := by
    by_cases z : i.natAbs = 0
    · rw [z]; decide
    · exact Nat.le_of_lt_succ ((Nat.log2_lt z).mpr h)
  have k := shw_int (i := i) (by omega)
  refine ⟨k.lay, k.dep, ?_, k.short, k.sh⟩
  simp only [PyData.weight]
  split <;> omega
theorem shw_tD {t : List Nat} (h : ∀ i ∈ t, i < 16) (hl : t.length ≤ 4) : Shw 1 36 (tD t) := by
  have := shw_tup (n := 0) (m := 8) (ds := t.map fun i : Nat => PyData.int (i : Int)) fun d hd => by
    obtain ⟨i, hi, rfl⟩ := List.mem_map.mp hd
    exact shw_intS (by have := h i hi; omega)
  exact this.mono (Nat.le_refl _) (by simp; omega)
theorem maybe_small {ps : List Int} {t : List Nat} (h : MayBe ps t) (hz : ps.length ≤ 16) : (∀ i ∈ t, i < 16) ∧ t.length ≤ 4 := by
  rcases h with ⟨i, j, rfl, a, b, _⟩ | ⟨i, j, k, l, rfl, ⟨a, b, _⟩, ⟨c, d, _⟩, e, f, g⟩
  · refine ⟨fun x hx => ?_, by simp⟩
    simp only [List.mem_cons, List.not_mem_nil, or_false] at hx
    omega
  · refine ⟨fun x hx => ?_, by simp⟩
    simp only [List.mem_cons, List.not_mem_nil, or_false] at hx
    omega
theorem mb_len9 {ps : List Int} (hz : ps.length ≤ 9) : (mb ps).length ≤ 6642 := by
  have hp := pairs_len ps ps.length
  have hp2 : ps.length * ps.length ≤ 9 * 9 := Nat.mul_le_mul hz hz
  have h2 := flat_len (f := fours ps) (m := ps.length * ps.length) (pairs ps ps.length) fun x _ => fours_len ps x
  have h3 : (pairs ps ps.length).length * (ps.length * ps.length) ≤ 81 * 81 := Nat.mul_le_mul (by omega) hp2
  have := (List.mergeSort_perm (pairs ps ps.length ++ (pairs ps ps.length).flatMap (fours ps)) leT).length_eq
  unfold mb
  rw [List.length_append] at this
  omega
theorem shw_tgs {ls : List Ln} {es : List (Int × Int)} (hz : es.length ≤ 9) : Shw 2 300000 (.list ((tgs ls es).map tD)) := by
  have hl : (tgs ls es).length ≤ 6642 := Nat.le_trans (List.length_filter_le _ _) (mb_len9 (by rw [plcs_len]; exact hz))
  have := shw_list (n := 1) (m := 36) (ds := (tgs ls es).map tD) fun d hd => by
    obtain ⟨t, ht, rfl⟩ := List.mem_map.mp hd
    obtain ⟨h1, h2⟩ := maybe_small (mem_tgs.mp ht).1 (by rw [plcs_len]; omega)
    exact shw_tD h1 h2
  exact this.mono (Nat.le_refl _) (by rw [List.length_map]; omega)
theorem ed_eq_any {a b : D} {m n : Nat} {Q : D → Prop} (ha : Fine m a) (hb : Fine n b) (q : ∀ c, Q (.bool c)) (l1 : m ≤ 64 := by decide) (l2 : n ≤ 64 := by decide) : Ed (dEq a b) Q := by
  refine ⟨_, ?_, q (a.eqv b)⟩
  have h1 := ha.shaped l1
  have h2 := hb.shaped l2
  unfold dEq
  rw [if_pos ⟨h1, h2⟩]
theorem good_lE (es : List (Int × Int)) : Good 2 (lE es) := good_list (n := 1) fun d hd => by
  obtain ⟨f, _, rfl⟩ := List.mem_map.mp hd
  exact good_tup (n := 0) fun x hx => by
    simp only [List.mem_cons, List.not_mem_nil, or_false] at hx
    rcases hx with rfl | rfl <;> exact good_int _
theorem look_end {a c : Option Cell} {rest : List (Option Cell)} : (a :: (rest ++ [c]))[rest.length + 1]? = some c := by simp
end Lw

set_option maxHeartbeats 16000000
namespace Lw.k46
open PySem PySem.Spec PyProof.Rows L2 RZ Fu Lw
def topS (i : Nat) : Stmt := PySem.Challenge.pw_changeride_k46_turnings_told.main.body.getD i (.Pass ⟨0, 0, 0, 0⟩)
abbrev s__law_bag : Stmt := topS 34
theorem sc__law_bag : FnScope ["script", "total", "cell"] ["script"] (defScope s__law_bag) := ⟨rfl, rfl, rfl, by decide +kernel, rfl, by decide +kernel, by decide +kernel⟩
abbrev s__law_stir : Stmt := topS 35
theorem sc__law_stir : FnScope ["number", "place", "one", "two"] ["number", "place"] (defScope s__law_stir) := ⟨rfl, rfl, rfl, by decide +kernel, rfl, by decide +kernel, by decide +kernel⟩
abbrev s__law_draw : Stmt := topS 36
theorem sc__law_draw : FnScope ["bag", "many", "cell", "found"] ["bag", "many"] (defScope s__law_draw) := ⟨rfl, rfl, rfl, by decide +kernel, rfl, by decide +kernel, by decide +kernel⟩
abbrev s__law_mixed : Stmt := topS 37
theorem sc__law_mixed : FnScope ["bag", "row", "left", "k"] ["bag", "row"] (defScope s__law_mixed) := ⟨rfl, rfl, rfl, by decide +kernel, rfl, by decide +kernel, by decide +kernel⟩
abbrev s__law_walk : Stmt := topS 38
theorem sc__law_walk : FnScope ["bag", "many", "closed", "letters", "places", "spots", "order", "lines", "colours", "ride", "k", "bars", "menu", "side", "line", "letter"] ["bag", "many", "closed", "letters"] (defScope s__law_walk) := ⟨rfl, rfl, rfl, by decide +kernel, rfl, by decide +kernel, by decide +kernel⟩
abbrev s__law_about : Stmt := topS 42
theorem sc__law_about : FnScope ["ends", "line", "side"] ["ends"] (defScope s__law_about) := ⟨rfl, rfl, rfl, by decide +kernel, rfl, by decide +kernel, by decide +kernel⟩
abbrev s__law_turned : Stmt := topS 44
theorem sc__law_turned : FnScope ["ends", "turning", "i", "j", "k", "l", "there"] ["ends", "turning"] (defScope s__law_turned) := ⟨rfl, rfl, rfl, by decide +kernel, rfl, by decide +kernel, by decide +kernel⟩
abbrev s__law_follows : Stmt := topS 39
theorem sc__law_follows : FnScope ["web", "end", "later", "one", "other"] ["web", "end", "later"] (defScope s__law_follows) := ⟨rfl, rfl, rfl, by decide +kernel, rfl, by decide +kernel, by decide +kernel⟩
abbrev s__law_goes_round : Stmt := topS 45
theorem sc__law_goes_round : FnScope ["web", "ends", "end", "later"] ["web", "ends"] (defScope s__law_goes_round) := ⟨rfl, rfl, rfl, by decide +kernel, rfl, by decide +kernel, by decide +kernel⟩
abbrev s__law_turnings : Stmt := topS 46
theorem sc__law_turnings : FnScope ["web", "ends", "spots", "many", "some", "i", "fours", "k", "near", "tried", "found", "line", "side", "j", "pair", "l", "one", "turning", "other"] ["web", "ends"] (defScope s__law_turnings) := ⟨rfl, rfl, rfl, by decide +kernel, rfl, by decide +kernel, by decide +kernel⟩
abbrev s__law_wider : Stmt := topS 47
theorem sc__law_wider : FnScope ["bag", "web", "ride", "lines", "k", "order", "at", "line", "side"] ["bag", "web", "ride"] (defScope s__law_wider) := ⟨rfl, rfl, rfl, by decide +kernel, rfl, by decide +kernel, by decide +kernel⟩
abbrev s_is_whole : Stmt := topS 8
theorem sc_is_whole : FnScope ["thing"] ["thing"] (defScope s_is_whole) := ⟨rfl, rfl, rfl, by decide +kernel, rfl, by decide +kernel, by decide +kernel⟩
abbrev s_is_row : Stmt := topS 9
theorem sc_is_row : FnScope ["thing", "size"] ["thing", "size"] (defScope s_is_row) := ⟨rfl, rfl, rfl, by decide +kernel, rfl, by decide +kernel, by decide +kernel⟩
abbrev s_is_company : Stmt := topS 10
theorem sc_is_company : FnScope ["thing"] ["thing"] (defScope s_is_company) := ⟨rfl, rfl, rfl, by decide +kernel, rfl, by decide +kernel, by decide +kernel⟩
abbrev s_is_line_of : Stmt := topS 11
theorem sc_is_line_of : FnScope ["places", "thing", "place"] ["places", "thing"] (defScope s_is_line_of) := ⟨rfl, rfl, rfl, by decide +kernel, rfl, by decide +kernel, by decide +kernel⟩
abbrev s_web_of : Stmt := topS 12
theorem sc_web_of : FnScope ["places", "lines", "line"] ["places", "lines"] (defScope s_web_of) := ⟨rfl, rfl, rfl, by decide +kernel, rfl, by decide +kernel, by decide +kernel⟩
abbrev s_kept : Stmt := topS 13
theorem sc_kept : FnScope ["web"] ["web"] (defScope s_kept) := ⟨rfl, rfl, rfl, by decide +kernel, rfl, by decide +kernel, by decide +kernel⟩
abbrev s_pairs_alike : Stmt := topS 27
theorem sc_pairs_alike : FnScope ["places", "found", "one", "place", "other"] ["places"] (defScope s_pairs_alike) := ⟨rfl, rfl, rfl, by decide +kernel, rfl, by decide +kernel, by decide +kernel⟩
abbrev s_may_be : Stmt := topS 28
theorem sc_may_be : FnScope ["places", "pairs", "fours", "one", "three", "two", "four"] ["places"] (defScope s_may_be) := ⟨rfl, rfl, rfl, by decide +kernel, rfl, by decide +kernel, by decide +kernel⟩
abbrev s_far_end : Stmt := topS 18
theorem sc_far_end : FnScope ["end"] ["end"] (defScope s_far_end) := ⟨rfl, rfl, rfl, by decide +kernel, rfl, by decide +kernel, by decide +kernel⟩
abbrev s_faced_about : Stmt := topS 24
theorem sc_faced_about : FnScope ["ends", "end"] ["ends"] (defScope s_faced_about) := ⟨rfl, rfl, rfl, by decide +kernel, rfl, by decide +kernel, by decide +kernel⟩
abbrev s_put_otherwise : Stmt := topS 26
theorem sc_put_otherwise : FnScope ["ends", "turning", "begin", "behind", "one", "two", "three", "four"] ["ends", "turning"] (defScope s_put_otherwise) := ⟨rfl, rfl, rfl, by decide +kernel, rfl, by decide +kernel, by decide +kernel⟩
abbrev s_place_of : Stmt := topS 15
theorem sc_place_of : FnScope ["web", "end"] ["web", "end"] (defScope s_place_of) := ⟨rfl, rfl, rfl, by decide +kernel, rfl, by decide +kernel, by decide +kernel⟩
abbrev s_company_of : Stmt := topS 16
theorem sc_company_of : FnScope ["web", "end"] ["web", "end"] (defScope s_company_of) := ⟨rfl, rfl, rfl, by decide +kernel, rfl, by decide +kernel, by decide +kernel⟩
abbrev s_can_go_on : Stmt := topS 19
theorem sc_can_go_on : FnScope ["web", "end", "later"] ["web", "end", "later"] (defScope s_can_go_on) := ⟨rfl, rfl, rfl, by decide +kernel, rfl, by decide +kernel, by decide +kernel⟩
abbrev s_is_end : Stmt := topS 14
theorem sc_is_end : FnScope ["web", "thing"] ["web", "thing"] (defScope s_is_end) := ⟨rfl, rfl, rfl, by decide +kernel, rfl, by decide +kernel, by decide +kernel⟩
abbrev s_ride_is : Stmt := topS 20
theorem sc_ride_is : FnScope ["web", "ride", "end", "later"] ["web", "ride"] (defScope s_ride_is) := ⟨rfl, rfl, rfl, by decide +kernel, rfl, by decide +kernel, by decide +kernel⟩
abbrev s_round_is : Stmt := topS 21
theorem sc_round_is : FnScope ["web", "ride"] ["web", "ride"] (defScope s_round_is) := ⟨rfl, rfl, rfl, by decide +kernel, rfl, by decide +kernel, by decide +kernel⟩
abbrev s_places_along : Stmt := topS 23
theorem sc_places_along : FnScope ["web", "ends", "end"] ["web", "ends"] (defScope s_places_along) := ⟨rfl, rfl, rfl, by decide +kernel, rfl, by decide +kernel, by decide +kernel⟩
abbrev s_turnings_of : Stmt := topS 29
theorem sc_turnings_of : FnScope ["web", "ends", "found", "turning", "other"] ["web", "ends"] (defScope s_turnings_of) := ⟨rfl, rfl, rfl, by decide +kernel, rfl, by decide +kernel, by decide +kernel⟩
abbrev s_need_round : Stmt := topS 22
theorem sc_need_round : FnScope ["web", "ride", "end"] ["web", "ride"] (defScope s_need_round) := ⟨rfl, rfl, rfl, by decide +kernel, rfl, by decide +kernel, by decide +kernel⟩
abbrev s_turnings : Stmt := topS 30
theorem sc_turnings : FnScope ["web", "ride", "turning", "other"] ["web", "ride"] (defScope s_turnings) := ⟨rfl, rfl, rfl, by decide +kernel, rfl, by decide +kernel, by decide +kernel⟩
abbrev s_is_turning : Stmt := topS 31
theorem sc_is_turning : FnScope ["thing", "number"] ["thing"] (defScope s_is_turning) := ⟨rfl, rfl, rfl, by decide +kernel, rfl, by decide +kernel, by decide +kernel⟩
abbrev s_turned : Stmt := topS 32
theorem sc_turned : FnScope ["web", "ride", "turning", "ends", "found"] ["web", "ride", "turning"] (defScope s_turned) := ⟨rfl, rfl, rfl, by decide +kernel, rfl, by decide +kernel, by decide +kernel⟩
abbrev s_law : Stmt := topS 48
theorem sc_law : FnScope ["script", "bag", "turn", "kinds", "many", "web", "walk", "at", "ride", "before", "due", "listed", "one", "told", "turning", "other", "wide", "there", "line", "end"] ["script"] (defScope s_law) := ⟨rfl, rfl, rfl, by decide +kernel, rfl, by decide +kernel, by decide +kernel⟩
def g_law : Sx → Option Out :=
  (qSeq (qOwn 1 (gCallScr 0 m__law_bag)) (qSeq (qFor (gRng1 (gCons (gBin dAdd (gC (.int 3)) (gCall dMin2 (gCons (gC (.int 6)) (gCons (gScrLen 0) gNil)))) gNil)) (sName 2) (qSeq (qSet 3 (gBin dAdd (gC (.int 2)) (gIO 1 1 m__law_draw_k32 (gCons (gC (.int 3)) gNil)))) (qSeq (qSet 4 (gBin dAdd (gC (.int 2)) (gIO 1 1 m__law_draw_k32 (gCons (gC (.int 8)) gNil)))) (qSeq (qIf (gB (gBin dEq (gVar 3) (gC (.int 2)))) (qSet 4 (gBin dSub (gBin dAdd (gVar 4) (gBin dMod (gVar 4) (gC (.int 2)))) (gBin dMul (gC (.int 2)) (gCall dInt (gCons (gBin dEq (gVar 4) (gC (.int 9))) gNil))))) qNx) (qSeq (qAsg (sTup 2 (sCons (sName 5) (sCons (sName 6) sNil))) (gIO 1 3 m__law_walk (gCons (gVar 4) (gCons (gC (.bool true)) (gCons (gSl (gC (.str "abcd")) gNo (gSo (gVar 3))) gNil))))) (qSeq (qSet 7 (gIO 1 1 m__law_draw_k32 (gCons (gVar 4) gNil))) (qSeq (qSet 8 (gBin dIx (gLst (gCons (gVar 6) (gCons (gCallF 1 m__law_about (gCons (gVar 6) gNil)) gNil))) (gIO 1 1 m__law_draw_k32 (gCons (gC (.int 2)) gNil)))) (qSeq (qSet 8 (gBin dAdd (gSl (gVar 8) (gSo (gVar 7)) gNo) (gSl (gVar 8) gNo (gSo (gVar 7))))) (qSeq (qSet 9 (gCall dRepr (gCons (gLst (gCons (gVar 5) (gCons (gVar 8) gNil))) gNil))) (qSeq (qSet 10 (gCallF 2 m__law_turnings (gCons (gVar 5) (gCons (gVar 8) gNil)))) (qSeq (qSet 11 (gLst (gCons (gBin dIx (gVar 5) (gC (.int 0))) (gCons (gLc (gItems (gBin dIx (gVar 5) (gC (.int 1)))) (sName 18) gYes (gCall dList (gCons (gVar 18) gNil)) [18]) gNil)))) (qSeq (qFor (gItems (gLst (gCons (gVar 5) (gCons (gVar 11) gNil)))) (sName 12) (qSeq (qOwn 13 (gCallN 2 m_turnings_N (gCons (gVar 12) (gCons (gIf (gB (gBin dEq (gVar 12) (gVar 11))) (gLc (gItems (gVar 8)) (sName 19) gYes (gCall dList (gCons (gVar 19) gNil)) [19]) (gVar 8)) gNil)))) (qSeq (qIf (gB (gBin dNe (gView (gCall dRepr (gCons (gVar 13) gNil))) (gCall dRepr (gCons (gLc (gItems (gVar 10)) (sTup 2 (sCons (sName 14) (sCons (sName 15) sNil))) gYes (gVar 14) [14, 15]) gNil)))) (qRet (gC (.bool false))) qNx) (qDrop (gApp 13 (gC .none)))))) (qSeq (qFor (gItems (gSl (gVar 10) gNo (gSo (gC (.int 12))))) (sTup 2 (sCons (sName 14) (sCons (sName 15) sNil))) (qSeq (qIf (gB (gBin dNe (gCall dRepr (gCons (gCallF 3 m_turned (gCons (gVar 5) (gCons (gVar 8) (gCons (gVar 14) gNil)))) gNil)) (gCall dRepr (gCons (gVar 15) gNil)))) (qRet (gC (.bool false))) qNx) (qIf (gB (gBin dNe (gCallF 3 m_turned (gCons (gVar 11) (gCons (gLc (gItems (gVar 8)) (sName 19) gYes (gCall dList (gCons (gVar 19) gNil)) [19]) (gCons (gCall dList (gCons (gVar 14) gNil)) gNil)))) (gVar 15))) (qRet (gC (.bool false))) qNx))) (qSeq (qIf (gB (gBin dNe (gCall dRepr (gCons (gLst (gCons (gVar 5) (gCons (gVar 8) gNil))) gNil)) (gVar 9))) (qRet (gC (.bool false))) qNx) (qSeq (qAsg (sTup 2 (sCons (sName 16) (sCons (sName 17) sNil))) (gIO 1 2 m__law_wider (gCons (gVar 5) (gCons (gVar 8) gNil)))) (qSeq (qIf (gB (gBin dNe (gCallN 2 m_turnings_N (gCons (gVar 16) (gCons (gVar 17) gNil))) (gLc (gItems (gVar 10)) (sTup 2 (sCons (sName 14) (sCons (sName 15) sNil))) gYes (gVar 14) [14, 15]))) (qRet (gC (.bool false))) qNx) (qFor (gItems (gSl (gCallF 2 m__law_turnings (gCons (gVar 16) (gCons (gVar 17) gNil))) (gSo (gUn dNeg (gC (.int 6)))) gNo)) (sTup 2 (sCons (sName 14) (sCons (sName 15) sNil))) (qIf (gB (gBin dNe (gCallF 3 m_turned (gCons (gVar 16) (gCons (gVar 17) (gCons (gVar 14) gNil)))) (gVar 15))) (qRet (gC (.bool false))) qNx)))))))))))))))))) (qRet (gC (.bool true)))))
structure Tx (K : PySem.W.Frag) (mg : Str → Option Value) : Prop where
  z_all : mg "all" = none
  z_bool : mg "bool" = none
  z_enumerate : mg "enumerate" = none
  z_int : mg "int" = none
  z_isinstance : mg "isinstance" = none
  z_len : mg "len" = none
  z_list : mg "list" = none
  z_min : mg "min" = none
  z_range : mg "range" = none
  z_repr : mg "repr" = none
  z_set : mg "set" = none
  z_sorted : mg "sorted" = none
  z_str : mg "str" = none
  z_tuple : mg "tuple" = none
  z_zip : mg "zip" = none
  c_LETTERS : ∃ t, mg "LETTERS" = some (.str "abcdefghijklmnopqrstuvwxyz" t)
  c_SIDES : ∃ t, mg "SIDES" = some (.int 2 t)
  d__law_bag : DefAt K mg "_law_bag" s__law_bag ["script"]
  d__law_stir : DefAt K mg "_law_stir" s__law_stir ["number", "place"]
  d__law_draw : DefAt K mg "_law_draw" s__law_draw ["bag", "many"]
  d__law_mixed : DefAt K mg "_law_mixed" s__law_mixed ["bag", "row"]
  d__law_walk : DefAt K mg "_law_walk" s__law_walk ["bag", "many", "closed", "letters"]
  d__law_about : DefAt K mg "_law_about" s__law_about ["ends"]
  d__law_turned : DefAt K mg "_law_turned" s__law_turned ["ends", "turning"]
  d__law_follows : DefAt K mg "_law_follows" s__law_follows ["web", "end", "later"]
  d__law_goes_round : DefAt K mg "_law_goes_round" s__law_goes_round ["web", "ends"]
  d__law_turnings : DefAt K mg "_law_turnings" s__law_turnings ["web", "ends"]
  d__law_wider : DefAt K mg "_law_wider" s__law_wider ["bag", "web", "ride"]
  d_is_whole : DefAt K mg "is_whole" s_is_whole ["thing"]
  d_is_row : DefAt K mg "is_row" s_is_row ["thing", "size"]
  d_is_company : DefAt K mg "is_company" s_is_company ["thing"]
  d_is_line_of : DefAt K mg "is_line_of" s_is_line_of ["places", "thing"]
  d_web_of : DefAt K mg "web_of" s_web_of ["places", "lines"]
  d_kept : DefAt K mg "kept" s_kept ["web"]
  d_pairs_alike : DefAt K mg "pairs_alike" s_pairs_alike ["places"]
  d_may_be : DefAt K mg "may_be" s_may_be ["places"]
  d_far_end : DefAt K mg "far_end" s_far_end ["end"]
  d_faced_about : DefAt K mg "faced_about" s_faced_about ["ends"]
  d_put_otherwise : DefAt K mg "put_otherwise" s_put_otherwise ["ends", "turning"]
  d_place_of : DefAt K mg "place_of" s_place_of ["web", "end"]
  d_company_of : DefAt K mg "company_of" s_company_of ["web", "end"]
  d_can_go_on : DefAt K mg "can_go_on" s_can_go_on ["web", "end", "later"]
  d_is_end : DefAt K mg "is_end" s_is_end ["web", "thing"]
  d_ride_is : DefAt K mg "ride_is" s_ride_is ["web", "ride"]
  d_round_is : DefAt K mg "round_is" s_round_is ["web", "ride"]
  d_places_along : DefAt K mg "places_along" s_places_along ["web", "ends"]
  d_turnings_of : DefAt K mg "turnings_of" s_turnings_of ["web", "ends"]
  d_need_round : DefAt K mg "need_round" s_need_round ["web", "ride"]
  d_turnings : DefAt K mg "turnings" s_turnings ["web", "ride"]
  d_is_turning : DefAt K mg "is_turning" s_is_turning ["thing"]
  d_turned : DefAt K mg "turned" s_turned ["web", "ride", "turning"]
  d_law : DefAt K mg "law" s_law ["script"]
section
variable {P : Program} {w : World} {K : PySem.W.Frag} {mg : Str → Option Value} {base : Heap}
theorem has__law_bag (T : Tx K mg) : Has P w K mg base "_law_bag" 1 ["script"] (spScrN K m__law_bag) := has_scrN T.d__law_bag sc__law_bag (by rfl) (by decide) fun f cdv A outer s H E hr =>
  (ss_cons (s_set 1 sc__law_bag.nd e_int) (ss_cons (s_for PassesOwn.never (i_scr 0) (g_name 2 sc__law_bag.nd) (ss_one (s_set 1 sc__law_bag.nd (e_mod (e_add (e_add (e_mul (e_var 1) e_int) (e_mod (e_var 2) e_int)) e_int) e_int))) (fun _ => trivial)) (ss_one (s_retNew (n_lst (a_cons (n_scrList 0 T.z_list).e (a_cons e_int (a_cons e_int (a_cons e_int (a_cons (e_var 1) a_nil))))))))))
theorem has__law_stir (T : Tx K mg) : Has P w K mg base "_law_stir" 1 ["number", "place"] (spF K 2 m__law_stir) := has_pure T.d__law_stir sc__law_stir (by rfl) (by decide) fun f cdv A outer s H E hr =>
  (ss_cons (s_set 2 sc__law_stir.nd (e_mod (e_add (e_add (e_mul (e_var 0) e_int) (e_mul (e_var 1) e_int)) e_int) e_int)) (ss_cons (s_set 3 sc__law_stir.nd (e_mod (e_mul (e_var 2) (e_var 2)) e_int)) (ss_one (s_ret (e_div (e_mod (e_add (e_add (e_mul (e_var 3) e_int) (e_mul (e_mul (e_var 1) (e_var 1)) e_int)) (e_div (e_var 2) e_int)) e_int) e_int)))))
theorem has__law_draw (T : Tx K mg) : Has P w K mg base "_law_draw" 2 ["bag", "many"] (spIO K 1 m__law_draw_k32) := has_io T.d__law_draw sc__law_draw (by rfl) (by decide) fun f cdv A outer s H E hr =>
  (ss_cons (s_if (t_eq hr.units (e_var 1) e_int) (ss_one (s_ret e_int)) ss_nil) (ss_cons (s_setO 0 e_int (e_add (e_ixO 0 e_int) e_int)) (ss_cons (s_if (t_w (w_and (t_lt (e_ixO 0 e_int) e_int) (w_and1 (t_eq hr.units (e_ixO 0 e_int) (e_len T.z_len (a_cons (e_ixO 0 e_int) a_nil)))))) (ss_one (s_ret (e_mod (e_callH (has__law_stir T) (hr.mono (by decide)) (a_cons (e_ixO 0 e_int) (a_cons (e_ixO 0 e_int) a_nil))) (e_var 1)))) ss_nil) (ss_cons (s_if (t_lt (e_ixO 0 e_int) e_int) (ss_cons (s_set 2 sc__law_draw.nd (e_ix (e_ixO 0 e_int) (e_ixO 0 e_int))) (ss_cons (s_setO 0 e_int (e_add (e_ixO 0 e_int) e_int)) (ss_cons (s_if (t_lt (e_var 2) (e_pow e_int e_int)) (ss_one (s_ret (e_mod (e_callH (has__law_stir T) (hr.mono (by decide)) (a_cons (e_mod (e_var 2) e_int) (a_cons (e_ixO 0 e_int) a_nil))) (e_var 1)))) ss_nil) (ss_one (s_setO 0 e_int (e_sub (e_var 2) (e_pow e_int e_int))))))) ss_nil) (ss_cons (s_set 3 sc__law_draw.nd (e_mod (e_ixO 0 e_int) (e_var 1))) (ss_cons (s_setO 0 e_int (e_div (e_ixO 0 e_int) (e_var 1))) (ss_one (s_ret (e_var 3)))))))))
theorem has__law_mixed (T : Tx K mg) : Has P w K mg base "_law_mixed" 3 ["bag", "row"] (spIO K 1 m__law_mixed) := has_io T.d__law_mixed sc__law_mixed (by rfl) (by decide) fun f cdv A outer s H E hr =>
  (ss_cons (s_own 2 sc__law_mixed.nd (n_list T.z_list (a_cons (e_var 1) a_nil))) (ss_one (s_ret (n_lc [("k", 3)] sc__law_mixed.nd (i_range1 T.z_range (a_cons (e_len T.z_len (a_cons (e_var 1) a_nil)) a_nil)) (blkOk_by (N := ["bag", "row", "left", "k"]) (sc := defScope s__law_mixed) (by decide +kernel)) (fun _ _ _ _ _ => (g_name 3 sc__law_mixed.nd)) (fun _ _ _ _ _ => ts_nil) (fun _ _ _ _ _ => (e_popAt 2 (e_callHIO 0 (has__law_draw T) (hr.mono (by decide)) (a_cons (e_lenO 2 T.z_len) a_nil))))).e)))
theorem has__law_walk (T : Tx K mg) : Has P w K mg base "_law_walk" 4 ["bag", "many", "closed", "letters"] (spIO K 3 m__law_walk) := has_io T.d__law_walk sc__law_walk (by rfl) (by decide) fun f cdv A outer s H E hr =>
  (ss_cons (s_set 4 sc__law_walk.nd (e_add e_int (e_callHIO 0 (has__law_draw T) (hr.mono (by decide)) (a_cons e_int a_nil)))) (ss_cons (s_ownLc (lc1 5 [("k", 10)] sc__law_walk.nd (i_range1 T.z_range (a_cons (e_add (e_var 1) e_int) a_nil)) (blkOk_by (N := ["bag", "many", "closed", "letters", "places", "spots", "order", "lines", "colours", "ride", "k", "bars", "menu", "side", "line", "letter"]) (sc := defScope s__law_walk) (by decide +kernel)) (fun _ _ _ _ _ => (g_name 10 sc__law_walk.nd)) (fun _ _ _ _ _ => ts_nil) (fun _ _ _ _ _ => (e_callHIO 0 (has__law_draw T) (hr.mono (by decide)) (a_cons (e_var 4) a_nil))))) (ss_cons (s_if (t_val (e_var 2)) (ss_one (s_setO 5 (e_var 1) (e_ixO 5 e_int))) ss_nil) (ss_cons (s_set 6 sc__law_walk.nd (e_callHIO 0 (has__law_mixed T) (hr.mono (by decide)) (a_cons (n_listRng1 T.z_list T.z_range (e_var 1)).e a_nil))) (ss_cons (s_own 7 sc__law_walk.nd (n_rep (e_lst (a_cons e_non a_nil)) (e_var 1))) (ss_cons (s_own 8 sc__law_walk.nd (n_lst a_nil)) (ss_cons (s_own 9 sc__law_walk.nd (n_lst a_nil)) (ss_cons (s_for0 PassesOwn.never (i0_range1 T.z_range (a_cons (e_var 1) a_nil)) (g_name 10 sc__law_walk.nd) (ss_cons (s_set 11 sc__law_walk.nd (e_add (n_slO 8 (o_some (e_neg e_int)) o_none).e (n_slO 8 o_none (o_some (e_intOf T.z_int (a_cons (e_and (e_var 2) (e_one (e_eq hr.units (e_var 10) (e_sub (e_var 1) e_int)))) a_nil)))).e)) (ss_cons (s_setLc (lc1 12 [("letter", 15)] sc__law_walk.nd (i_any (e_var 3)) (blkOk_by (N := ["bag", "many", "closed", "letters", "places", "spots", "order", "lines", "colours", "ride", "k", "bars", "menu", "side", "line", "letter"]) (sc := defScope s__law_walk) (by decide +kernel)) (fun _ _ _ _ _ => (g_name 15 sc__law_walk.nd)) (fun _ _ _ _ _ => (ts_one (t_notIn (hu65 hr) (e_var 15) (e_var 11)))) (fun _ _ _ _ _ => (e_var 15)))) (ss_cons (s_expr (e_append 8 (e_ix (e_var 12) (e_callHIO 0 (has__law_draw T) (hr.mono (by decide)) (a_cons (e_len T.z_len (a_cons (e_var 12) a_nil)) a_nil))))) (ss_cons (s_set 13 sc__law_walk.nd (e_callHIO 0 (has__law_draw T) (hr.mono (by decide)) (a_cons e_int a_nil))) (ss_cons (s_set 14 sc__law_walk.nd (n_stepL (n_slO 5 (o_some (e_var 10)) (o_some (e_add (e_var 10) e_int))).e (e_ix (e_lst (a_cons e_int (a_cons (e_neg e_int) a_nil))) (e_var 13))).e) (ss_cons (s_setO 7 (e_ix (e_var 6) (e_var 10)) (e_tup (a_cons (e_ix (e_var 14) e_int) (a_cons (e_ix (e_var 14) e_int) (a_cons (e_ixO 8 (e_var 10)) a_nil))))) (ss_one (s_expr (e_append 9 (e_tup (a_cons (e_ix (e_var 6) (e_var 10)) (a_cons (e_var 13) a_nil))))))))))))) (ss_one (s_ret (e_tup (a_cons (e_tup (a_cons (e_var 4) (a_cons (e_tuple T.z_tuple (a_cons (e_var 7) a_nil)) a_nil))) (a_cons (e_var 9) a_nil)))))))))))))
theorem has__law_about (T : Tx K mg) : Has P w K mg base "_law_about" 1 ["ends"] (spF K 1 m__law_about) := has_pure T.d__law_about sc__law_about (by rfl) (by decide) fun f cdv A outer s H E hr =>
  (ss_one (s_ret (n_lc [("line", 1), ("side", 2)] sc__law_about.nd (i_any (n_revL (e_var 0)).e) (blkOk_by (N := ["ends", "line", "side"]) (sc := defScope s__law_about) (by decide +kernel)) (fun _ _ _ _ _ => (g_tup (gs_cons (g_name 1 sc__law_about.nd) (gs_cons (g_name 2 sc__law_about.nd) gs_nil)))) (fun _ _ _ _ _ => ts_nil) (fun _ _ _ _ _ => (e_tup (a_cons (e_var 1) (a_cons (e_sub e_int (e_var 2)) a_nil))))).e))
theorem has__law_turned (T : Tx K mg) : Has P w K mg base "_law_turned" 2 ["ends", "turning"] (spF K 2 m__law_turned) := has_pure T.d__law_turned sc__law_turned (by rfl) (by decide) fun f cdv A outer s H E hr =>
  (ss_cons (s_if (t_eq hr.units (e_len T.z_len (a_cons (e_var 1) a_nil)) e_int) (ss_cons (s_asg (g_tup (gs_cons (g_name 2 sc__law_turned.nd) (gs_cons (g_name 3 sc__law_turned.nd) gs_nil))) (e_var 1)) (ss_one (s_ret (e_add (e_add (e_sl (e_var 0) o_none (o_some (e_var 2))) (e_callH (has__law_about T) (hr.mono (by decide)) (a_cons (e_sl (e_var 0) (o_some (e_var 2)) (o_some (e_var 3))) a_nil))) (e_sl (e_var 0) (o_some (e_var 3)) o_none))))) ss_nil) (ss_cons (s_asg (g_tup (gs_cons (g_name 2 sc__law_turned.nd) (gs_cons (g_name 3 sc__law_turned.nd) (gs_cons (g_name 4 sc__law_turned.nd) (gs_cons (g_name 5 sc__law_turned.nd) gs_nil))))) (e_var 1)) (ss_cons (s_set 6 sc__law_turned.nd (e_add (e_sl (e_var 0) o_none (o_some (e_var 2))) (e_sl (e_var 0) (o_some (e_var 4)) (o_some (e_var 5))))) (ss_one (s_ret (e_add (e_add (e_add (e_var 6) (e_sl (e_var 0) (o_some (e_var 3)) (o_some (e_var 4)))) (e_sl (e_var 0) (o_some (e_var 2)) (o_some (e_var 3)))) (e_sl (e_var 0) (o_some (e_var 5)) o_none)))))))
theorem has__law_follows (T : Tx K mg) : Has P w K mg base "_law_follows" 1 ["web", "end", "later"] (spF K 3 m__law_follows) := has_pure T.d__law_follows sc__law_follows (by rfl) (by decide) fun f cdv A outer s H E hr =>
  (ss_cons (s_set 3 sc__law_follows.nd (e_ix (e_ix (e_var 0) e_int) (e_ix (e_var 1) e_int))) (ss_cons (s_set 4 sc__law_follows.nd (e_ix (e_ix (e_var 0) e_int) (e_ix (e_var 2) e_int))) (ss_one (s_ret (e_and (e_eq hr.units (e_ix (e_var 3) (e_sub e_int (e_ix (e_var 1) e_int))) (e_ix (e_var 4) (e_ix (e_var 2) e_int))) (e_one (e_ne hr.units (e_ix (e_var 3) e_int) (e_ix (e_var 4) e_int))))))))
theorem has__law_goes_round (T : Tx K mg) : Has P w K mg base "_law_goes_round" 2 ["web", "ends"] (spF K 2 m__law_goes_round) := has_pure T.d__law_goes_round sc__law_goes_round (by rfl) (by decide) fun f cdv A outer s H E hr =>
  (ss_one (s_ret (e_all T.z_all (a_cons (n_lc [("end", 2), ("later", 3)] sc__law_goes_round.nd (i_zip T.z_zip (a_cons (e_var 1) (a_cons (e_add (e_sl (e_var 1) (o_some e_int) o_none) (e_sl (e_var 1) o_none (o_some e_int))) a_nil))) (blkOk_by (N := ["web", "ends", "end", "later"]) (sc := defScope s__law_goes_round) (by decide +kernel)) (fun _ _ _ _ _ => (g_tup (gs_cons (g_name 2 sc__law_goes_round.nd) (gs_cons (g_name 3 sc__law_goes_round.nd) gs_nil)))) (fun _ _ _ _ _ => ts_nil) (fun _ _ _ _ _ => (e_callH (has__law_follows T) (hr.mono (by decide)) (a_cons (e_var 0) (a_cons (e_var 2) (a_cons (e_var 3) a_nil)))))).e a_nil))))
theorem has__law_turnings (T : Tx K mg) : Has P w K mg base "_law_turnings" 3 ["web", "ends"] (spF K 2 m__law_turnings) := has_pure T.d__law_turnings sc__law_turnings (by rfl) (by decide) fun f cdv A outer s H E hr =>
  (ss_cons (s_set 2 sc__law_turnings.nd (n_lc [("line", 11), ("side", 12)] sc__law_turnings.nd (i_any (e_var 1)) (blkOk_by (N := ["web", "ends", "spots", "many", "some", "i", "fours", "k", "near", "tried", "found", "line", "side", "j", "pair", "l", "one", "turning", "other"]) (sc := defScope s__law_turnings) (by decide +kernel)) (fun _ _ _ _ _ => (g_tup (gs_cons (g_name 11 sc__law_turnings.nd) (gs_cons (g_name 12 sc__law_turnings.nd) gs_nil)))) (fun _ _ _ _ _ => ts_nil) (fun _ _ _ _ _ => (e_ix (e_ix (e_ix (e_var 0) e_int) (e_var 11)) (e_var 12)))).e) (ss_cons (s_set 3 sc__law_turnings.nd (e_len T.z_len (a_cons (e_var 1) a_nil))) (ss_cons (s_own 4 sc__law_turnings.nd (n_lst a_nil)) (ss_cons (s_for0 PassesOwn.never (i0_range1 T.z_range (a_cons (e_var 3) a_nil)) (g_name 5 sc__law_turnings.nd) (ss_one (s_expr (e_extend 4 (n_lc [("j", 13)] sc__law_turnings.nd (i_range2 T.z_range (a_cons (e_add (e_var 5) e_int) (a_cons (e_var 3) a_nil))) (blkOk_by (N := ["web", "ends", "spots", "many", "some", "i", "fours", "k", "near", "tried", "found", "line", "side", "j", "pair", "l", "one", "turning", "other"]) (sc := defScope s__law_turnings) (by decide +kernel)) (fun _ _ _ _ _ => (g_name 13 sc__law_turnings.nd)) (fun _ _ _ _ _ => (ts_one (t_eq hr.units (e_ix (e_var 2) (e_var 5)) (e_ix (e_var 2) (e_var 13))))) (fun _ _ _ _ _ => (e_tup (a_cons (e_var 5) (a_cons (e_var 13) a_nil))))).e)))) (ss_cons (s_own 6 sc__law_turnings.nd (n_lst a_nil)) (ss_cons (s_for PassesOwn.never (i_any (e_var 4)) (g_tup (gs_cons (g_name 5 sc__law_turnings.nd) (gs_cons (g_name 7 sc__law_turnings.nd) gs_nil))) (ss_cons (s_setLc (lc1 8 [("pair", 14)] sc__law_turnings.nd (i_any (e_var 4)) (blkOk_by (N := ["web", "ends", "spots", "many", "some", "i", "fours", "k", "near", "tried", "found", "line", "side", "j", "pair", "l", "one", "turning", "other"]) (sc := defScope s__law_turnings) (by decide +kernel)) (fun _ _ _ _ _ => (g_name 14 sc__law_turnings.nd)) (fun _ _ _ _ _ => (ts_one (t_chain3 op_lt op_le op_lt (rd_cmp _) (rd_cmp _) (rd_cmp _) (e_var 5) (e_ix (e_var 14) e_int) (e_var 7) (e_ix (e_var 14) e_int)))) (fun _ _ _ _ _ => (e_var 14)))) (ss_one (s_expr (e_extend 6 (n_lc [("j", 13), ("l", 15)] sc__law_turnings.nd (i_any (e_var 8)) (blkOk_by (N := ["web", "ends", "spots", "many", "some", "i", "fours", "k", "near", "tried", "found", "line", "side", "j", "pair", "l", "one", "turning", "other"]) (sc := defScope s__law_turnings) (by decide +kernel)) (fun _ _ _ _ _ => (g_tup (gs_cons (g_name 13 sc__law_turnings.nd) (gs_cons (g_name 15 sc__law_turnings.nd) gs_nil)))) (fun _ _ _ _ _ => ts_nil) (fun _ _ _ _ _ => (e_tup (a_cons (e_var 5) (a_cons (e_var 13) (a_cons (e_var 7) (a_cons (e_var 15) a_nil))))))).e)))) (fun _ => trivial)) (ss_cons (s_set 9 sc__law_turnings.nd (e_sorted hr T.z_sorted (a_cons (e_add (e_var 4) (e_var 6)) a_nil))) (ss_cons (s_setLc (lc1 10 [("one", 16)] sc__law_turnings.nd (i_any (e_var 9)) (blkOk_by (N := ["web", "ends", "spots", "many", "some", "i", "fours", "k", "near", "tried", "found", "line", "side", "j", "pair", "l", "one", "turning", "other"]) (sc := defScope s__law_turnings) (by decide +kernel)) (fun _ _ _ _ _ => (g_name 16 sc__law_turnings.nd)) (fun _ _ _ _ _ => ts_nil) (fun _ _ _ _ _ => (e_tup (a_cons (e_var 16) (a_cons (e_callH (has__law_turned T) (hr.mono (by decide)) (a_cons (e_var 1) (a_cons (e_var 16) a_nil))) a_nil)))))) (ss_one (s_ret (n_lc [("turning", 17), ("other", 18)] sc__law_turnings.nd (i_any (e_var 10)) (blkOk_by (N := ["web", "ends", "spots", "many", "some", "i", "fours", "k", "near", "tried", "found", "line", "side", "j", "pair", "l", "one", "turning", "other"]) (sc := defScope s__law_turnings) (by decide +kernel)) (fun _ _ _ _ _ => (g_tup (gs_cons (g_name 17 sc__law_turnings.nd) (gs_cons (g_name 18 sc__law_turnings.nd) gs_nil)))) (fun _ _ _ _ _ => (ts_one (t_val (e_callH (has__law_goes_round T) (hr.mono (by decide)) (a_cons (e_var 0) (a_cons (e_var 18) a_nil)))))) (fun _ _ _ _ _ => (e_tup (a_cons (e_var 17) (a_cons (e_var 18) a_nil))))).e))))))))))
theorem has__law_wider (T : Tx K mg) : Has P w K mg base "_law_wider" 4 ["bag", "web", "ride"] (spIO K 2 m__law_wider) := has_io T.d__law_wider sc__law_wider (by rfl) (by decide) fun f cdv A outer s H E hr =>
  (ss_cons (s_own 3 sc__law_wider.nd (n_list T.z_list (a_cons (e_ix (e_var 1) e_int) a_nil))) (ss_cons (s_for0 PassesOwn.never (i0_range1 T.z_range (a_cons (e_add e_int (e_callHIO 0 (has__law_draw T) (hr.mono (by decide)) (a_cons e_int a_nil))) a_nil)) (g_name 4 sc__law_wider.nd) (ss_one (s_expr (e_append 3 (e_tup (a_cons (e_callHIO 0 (has__law_draw T) (hr.mono (by decide)) (a_cons (e_add (e_ix (e_var 1) e_int) e_int) a_nil)) (a_cons (e_callHIO 0 (has__law_draw T) (hr.mono (by decide)) (a_cons (e_add (e_ix (e_var 1) e_int) e_int) a_nil)) (a_cons (e_ix e_str (e_callHIO 0 (has__law_draw T) (hr.mono (by decide)) (a_cons e_int a_nil))) a_nil)))))))) (ss_cons (s_set 5 sc__law_wider.nd (e_callHIO 0 (has__law_mixed T) (hr.mono (by decide)) (a_cons (n_listRng1 T.z_list T.z_range (e_lenO 3 T.z_len)).e a_nil))) (ss_one (s_ret (e_tup (a_cons (e_tup (a_cons (e_add (e_ix (e_var 1) e_int) e_int) (a_cons (e_tuple T.z_tuple (a_cons (n_lc [("at", 6)] sc__law_wider.nd (i_any (e_var 5)) (blkOk_by (N := ["bag", "web", "ride", "lines", "k", "order", "at", "line", "side"]) (sc := defScope s__law_wider) (by decide +kernel)) (fun _ _ _ _ _ => (g_name 6 sc__law_wider.nd)) (fun _ _ _ _ _ => ts_nil) (fun _ _ _ _ _ => (e_ixO 3 (e_var 6)))).e a_nil)) a_nil))) (a_cons (n_lc [("line", 7), ("side", 8)] sc__law_wider.nd (i_any (e_var 2)) (blkOk_by (N := ["bag", "web", "ride", "lines", "k", "order", "at", "line", "side"]) (sc := defScope s__law_wider) (by decide +kernel)) (fun _ _ _ _ _ => (g_tup (gs_cons (g_name 7 sc__law_wider.nd) (gs_cons (g_name 8 sc__law_wider.nd) gs_nil)))) (fun _ _ _ _ _ => ts_nil) (fun _ _ _ _ _ => (e_tup (a_cons (e_index hr (e_var 5) (e_var 7)) (a_cons (e_var 8) a_nil))))).e a_nil))))))))
theorem has_is_whole (T : Tx K mg) : Has P w K mg base "is_whole" 1 ["thing"] (spF K 1 m_is_whole) := has_pure T.d_is_whole sc_is_whole (by rfl) (by decide) fun f cdv A outer s H E hr =>
  (ss_one (s_ret (e_and (e_isi T.z_isinstance T.z_int (by decide +kernel) kit_int (e_var 0)) (e_and (e_not (e_isi T.z_isinstance T.z_bool (by decide +kernel) kit_bool (e_var 0))) (e_one (e_ge (e_var 0) e_int))))))
theorem has_is_row (T : Tx K mg) : Has P w K mg base "is_row" 1 ["thing", "size"] (spF K 2 m_is_row) := has_pure T.d_is_row sc_is_row (by rfl) (by decide) fun f cdv A outer s H E hr =>
  (ss_one (s_ret (e_and (e_isi2 T.z_isinstance T.z_list (by decide +kernel) kit_list T.z_tuple (by decide +kernel) kit_tuple (e_var 0)) (e_one (e_eq hr.units (e_len T.z_len (a_cons (e_var 0) a_nil)) (e_var 1))))))
theorem has_is_company (T : Tx K mg) : Has P w K mg base "is_company" 1 ["thing"] (spF K 1 m_is_company) := has_pure T.d_is_company sc_is_company (by rfl) (by decide) fun f cdv A outer s H E hr =>
  (ss_one (s_ret (e_and (e_isi T.z_isinstance T.z_str (by decide +kernel) kit_str (e_var 0)) (e_and (e_eq hr.units (e_len T.z_len (a_cons (e_var 0) a_nil)) e_int) (e_one (e_in (hu65 hr) (e_var 0) (e_gstrE T.c_LETTERS)))))))
theorem has_is_line_of (T : Tx K mg) : Has P w K mg base "is_line_of" 2 ["places", "thing"] (spF K 2 m_is_line_of) := has_pure T.d_is_line_of sc_is_line_of (by rfl) (by decide) fun f cdv A outer s H E hr =>
  (ss_cons (s_if (t_w (w_or (t_not (t_val (e_callH (has_is_row T) (hr.mono (by decide)) (a_cons (e_var 1) (a_cons e_int a_nil))))) (w_or1 (t_not (t_val (e_callH (has_is_company T) (hr.mono (by decide)) (a_cons (e_ix (e_var 1) e_int) a_nil))))))) (ss_one (s_ret e_bl)) ss_nil) (ss_one (s_ret (e_all T.z_all (a_cons (n_lc [("place", 2)] sc_is_line_of.nd (i_any (e_sl (e_var 1) o_none (o_some e_int))) (blkOk_by (N := ["places", "thing", "place"]) (sc := defScope s_is_line_of) (by decide +kernel)) (fun _ _ _ _ _ => (g_name 2 sc_is_line_of.nd)) (fun _ _ _ _ _ => ts_nil) (fun _ _ _ _ _ => (e_and (e_callH (has_is_whole T) (hr.mono (by decide)) (a_cons (e_var 2) a_nil)) (e_one (e_lt (e_var 2) (e_var 0)))))).e a_nil)))))
theorem has_web_of (T : Tx K mg) : Has P w K mg base "web_of" 3 ["places", "lines"] (spF K 2 m_web_of) := has_pure T.d_web_of sc_web_of (by rfl) (by decide) fun f cdv A outer s H E hr =>
  (ss_cons (s_if (t_w (w_or (t_not (t_val (e_callH (has_is_whole T) (hr.mono (by decide)) (a_cons (e_var 0) a_nil)))) (w_or1 (t_not (t_val (e_isi2 T.z_isinstance T.z_list (by decide +kernel) kit_list T.z_tuple (by decide +kernel) kit_tuple (e_var 1))))))) (ss_one s_never) ss_nil) (ss_cons (s_if (t_not (t_val (e_all T.z_all (a_cons (n_lc [("line", 2)] sc_web_of.nd (i_any (e_var 1)) (blkOk_by (N := ["places", "lines", "line"]) (sc := defScope s_web_of) (by decide +kernel)) (fun _ _ _ _ _ => (g_name 2 sc_web_of.nd)) (fun _ _ _ _ _ => ts_nil) (fun _ _ _ _ _ => (e_callH (has_is_line_of T) (hr.mono (by decide)) (a_cons (e_var 0) (a_cons (e_var 2) a_nil))))).e a_nil)))) (ss_one s_never) ss_nil) (ss_one (s_ret (e_tup (a_cons (e_var 0) (a_cons (e_tuple T.z_tuple (a_cons (n_lc [("line", 2)] sc_web_of.nd (i_any (e_var 1)) (blkOk_by (N := ["places", "lines", "line"]) (sc := defScope s_web_of) (by decide +kernel)) (fun _ _ _ _ _ => (g_name 2 sc_web_of.nd)) (fun _ _ _ _ _ => ts_nil) (fun _ _ _ _ _ => (e_tuple T.z_tuple (a_cons (e_var 2) a_nil)))).e a_nil)) a_nil)))))))
theorem has_kept (T : Tx K mg) : Has P w K mg base "kept" 4 ["web"] (spF K 1 m_kept) := has_pure T.d_kept sc_kept (by rfl) (by decide) fun f cdv A outer s H E hr =>
  (ss_one (s_ret (e_callH (has_web_of T) (hr.mono (by decide)) (a_cons (e_ix (e_var 0) e_int) (a_cons (e_ix (e_var 0) e_int) a_nil)))))
theorem has_pairs_alike (T : Tx K mg) : Has P w K mg base "pairs_alike" 1 ["places"] (spF K 1 m_pairs_alike) := has_pure T.d_pairs_alike sc_pairs_alike (by rfl) (by decide) fun f cdv A outer s H E hr =>
  (ss_cons (s_own 1 sc_pairs_alike.nd (n_lst a_nil)) (ss_cons (s_for PassesOwn.never (i_enum T.z_enumerate (a_cons (e_var 0) a_nil)) (g_tup (gs_cons (g_name 2 sc_pairs_alike.nd) (gs_cons (g_name 3 sc_pairs_alike.nd) gs_nil))) (ss_one (s_augL 1 sc_pairs_alike.nd (n_lc [("other", 4)] sc_pairs_alike.nd (i_range2 T.z_range (a_cons (e_add (e_var 2) e_int) (a_cons (e_len T.z_len (a_cons (e_var 0) a_nil)) a_nil))) (blkOk_by (N := ["places", "found", "one", "place", "other"]) (sc := defScope s_pairs_alike) (by decide +kernel)) (fun _ _ _ _ _ => (g_name 4 sc_pairs_alike.nd)) (fun _ _ _ _ _ => (ts_one (t_eq hr.units (e_ix (e_var 0) (e_var 4)) (e_var 3)))) (fun _ _ _ _ _ => (e_tup (a_cons (e_var 2) (a_cons (e_var 4) a_nil))))).e)) (fun _ => trivial)) (ss_one (s_ret (e_var 1)))))
theorem has_may_be (T : Tx K mg) : Has P w K mg base "may_be" 2 ["places"] (spF K 1 m_may_be) := has_pure T.d_may_be sc_may_be (by rfl) (by decide) fun f cdv A outer s H E hr =>
  (ss_cons (s_set 1 sc_may_be.nd (e_callH (has_pairs_alike T) (hr.mono (by decide)) (a_cons (e_var 0) a_nil))) (ss_cons (s_own 2 sc_may_be.nd (n_lst a_nil)) (ss_cons (s_for PassesOwn.never (i_any (e_var 1)) (g_tup (gs_cons (g_name 3 sc_may_be.nd) (gs_cons (g_name 4 sc_may_be.nd) gs_nil))) (ss_one (s_augL 2 sc_may_be.nd (n_lc [("two", 5), ("four", 6)] sc_may_be.nd (i_any (e_var 1)) (blkOk_by (N := ["places", "pairs", "fours", "one", "three", "two", "four"]) (sc := defScope s_may_be) (by decide +kernel)) (fun _ _ _ _ _ => (g_tup (gs_cons (g_name 5 sc_may_be.nd) (gs_cons (g_name 6 sc_may_be.nd) gs_nil)))) (fun _ _ _ _ _ => (ts_one (t_chain3 op_lt op_le op_lt (rd_cmp _) (rd_cmp _) (rd_cmp _) (e_var 3) (e_var 5) (e_var 4) (e_var 6)))) (fun _ _ _ _ _ => (e_tup (a_cons (e_var 3) (a_cons (e_var 5) (a_cons (e_var 4) (a_cons (e_var 6) a_nil))))))).e)) (fun _ => trivial)) (ss_one (s_ret (e_sorted hr T.z_sorted (a_cons (e_add (e_var 1) (e_var 2)) a_nil)))))))
theorem has_far_end (T : Tx K mg) : Has P w K mg base "far_end" 1 ["end"] (spF K 1 m_far_end) := has_pure T.d_far_end sc_far_end (by rfl) (by decide) fun f cdv A outer s H E hr =>
  (ss_one (s_ret (e_tup (a_cons (e_ix (e_var 0) e_int) (a_cons (e_sub e_int (e_ix (e_var 0) e_int)) a_nil)))))
theorem has_faced_about (T : Tx K mg) : Has P w K mg base "faced_about" 2 ["ends"] (spF K 1 m_faced_about) := has_pure T.d_faced_about sc_faced_about (by rfl) (by decide) fun f cdv A outer s H E hr =>
  (ss_one (s_ret (n_lc [("end", 1)] sc_faced_about.nd (i_any (n_revL (e_var 0)).e) (blkOk_by (N := ["ends", "end"]) (sc := defScope s_faced_about) (by decide +kernel)) (fun _ _ _ _ _ => (g_name 1 sc_faced_about.nd)) (fun _ _ _ _ _ => ts_nil) (fun _ _ _ _ _ => (e_callH (has_far_end T) (hr.mono (by decide)) (a_cons (e_var 1) a_nil)))).e))
theorem has_put_otherwise (T : Tx K mg) : Has P w K mg base "put_otherwise" 3 ["ends", "turning"] (spF K 2 m_put_otherwise) := has_pure T.d_put_otherwise sc_put_otherwise (by rfl) (by decide) fun f cdv A outer s H E hr =>
  (ss_cons (s_if (t_eq hr.units (e_len T.z_len (a_cons (e_var 1) a_nil)) e_int) (ss_cons (s_asg (g_tup (gs_cons (g_name 2 sc_put_otherwise.nd) (gs_cons (g_name 3 sc_put_otherwise.nd) gs_nil))) (e_var 1)) (ss_one (s_ret (e_add (e_add (e_sl (e_var 0) o_none (o_some (e_var 2))) (e_callH (has_faced_about T) (hr.mono (by decide)) (a_cons (e_sl (e_var 0) (o_some (e_var 2)) (o_some (e_var 3))) a_nil))) (e_sl (e_var 0) (o_some (e_var 3)) o_none))))) ss_nil) (ss_cons (s_asg (g_tup (gs_cons (g_name 4 sc_put_otherwise.nd) (gs_cons (g_name 5 sc_put_otherwise.nd) (gs_cons (g_name 6 sc_put_otherwise.nd) (gs_cons (g_name 7 sc_put_otherwise.nd) gs_nil))))) (e_var 1)) (ss_one (s_ret (e_add (e_add (e_add (e_add (e_sl (e_var 0) o_none (o_some (e_var 4))) (e_sl (e_var 0) (o_some (e_var 6)) (o_some (e_var 7)))) (e_sl (e_var 0) (o_some (e_var 5)) (o_some (e_var 6)))) (e_sl (e_var 0) (o_some (e_var 4)) (o_some (e_var 5)))) (e_sl (e_var 0) (o_some (e_var 7)) o_none))))))
theorem has_place_of (T : Tx K mg) : Has P w K mg base "place_of" 1 ["web", "end"] (spF K 2 m_place_of) := has_pure T.d_place_of sc_place_of (by rfl) (by decide) fun f cdv A outer s H E hr =>
  (ss_one (s_ret (e_ix (e_ix (e_ix (e_var 0) e_int) (e_ix (e_var 1) e_int)) (e_ix (e_var 1) e_int))))
theorem has_company_of (T : Tx K mg) : Has P w K mg base "company_of" 1 ["web", "end"] (spF K 2 m_company_of) := has_pure T.d_company_of sc_company_of (by rfl) (by decide) fun f cdv A outer s H E hr =>
  (ss_one (s_ret (e_ix (e_ix (e_ix (e_var 0) e_int) (e_ix (e_var 1) e_int)) e_int)))
theorem has_can_go_on (T : Tx K mg) : Has P w K mg base "can_go_on" 2 ["web", "end", "later"] (spF K 3 m_can_go_on) := has_pure T.d_can_go_on sc_can_go_on (by rfl) (by decide) fun f cdv A outer s H E hr =>
  (ss_cons (s_if (t_ne hr.units (e_callH (has_place_of T) (hr.mono (by decide)) (a_cons (e_var 0) (a_cons (e_callH (has_far_end T) (hr.mono (by decide)) (a_cons (e_var 1) a_nil)) a_nil))) (e_callH (has_place_of T) (hr.mono (by decide)) (a_cons (e_var 0) (a_cons (e_var 2) a_nil)))) (ss_one (s_ret e_bl)) ss_nil) (ss_one (s_ret (e_ne hr.units (e_callH (has_company_of T) (hr.mono (by decide)) (a_cons (e_var 0) (a_cons (e_var 1) a_nil))) (e_callH (has_company_of T) (hr.mono (by decide)) (a_cons (e_var 0) (a_cons (e_var 2) a_nil)))))))
theorem has_is_end (T : Tx K mg) : Has P w K mg base "is_end" 2 ["web", "thing"] (spF K 2 m_is_end) := has_pure T.d_is_end sc_is_end (by rfl) (by decide) fun f cdv A outer s H E hr =>
  (ss_cons (s_if (t_w (w_or (t_not (t_val (e_callH (has_is_row T) (hr.mono (by decide)) (a_cons (e_var 1) (a_cons e_int a_nil))))) (w_or (t_not (t_val (e_callH (has_is_whole T) (hr.mono (by decide)) (a_cons (e_ix (e_var 1) e_int) a_nil)))) (w_or1 (t_not (t_val (e_callH (has_is_whole T) (hr.mono (by decide)) (a_cons (e_ix (e_var 1) e_int) a_nil)))))))) (ss_one (s_ret e_bl)) ss_nil) (ss_one (s_ret (e_and (e_lt (e_ix (e_var 1) e_int) (e_len T.z_len (a_cons (e_ix (e_var 0) e_int) a_nil))) (e_one (e_lt (e_ix (e_var 1) e_int) (e_gintE T.c_SIDES)))))))
theorem has_ride_is (T : Tx K mg) : Has P w K mg base "ride_is" 3 ["web", "ride"] (spF K 2 m_ride_is) := has_pure T.d_ride_is sc_ride_is (by rfl) (by decide) fun f cdv A outer s H E hr =>
  (ss_cons (s_if (t_w (w_or (t_not (t_val (e_isi2 T.z_isinstance T.z_list (by decide +kernel) kit_list T.z_tuple (by decide +kernel) kit_tuple (e_var 1)))) (w_or (t_eq hr.units (e_len T.z_len (a_cons (e_var 1) a_nil)) e_int) (w_or1 (t_not (t_val (e_all T.z_all (a_cons (n_lc [("end", 2)] sc_ride_is.nd (i_any (e_var 1)) (blkOk_by (N := ["web", "ride", "end", "later"]) (sc := defScope s_ride_is) (by decide +kernel)) (fun _ _ _ _ _ => (g_name 2 sc_ride_is.nd)) (fun _ _ _ _ _ => ts_nil) (fun _ _ _ _ _ => (e_callH (has_is_end T) (hr.mono (by decide)) (a_cons (e_var 0) (a_cons (e_var 2) a_nil))))).e a_nil)))))))) (ss_one (s_ret e_bl)) ss_nil) (ss_cons (s_if (t_ne hr.units (e_lenSet T.z_len T.z_set (n_lc [("end", 2)] sc_ride_is.nd (i_any (e_var 1)) (blkOk_by (N := ["web", "ride", "end", "later"]) (sc := defScope s_ride_is) (by decide +kernel)) (fun _ _ _ _ _ => (g_name 2 sc_ride_is.nd)) (fun _ _ _ _ _ => ts_nil) (fun _ _ _ _ _ => (e_ix (e_var 2) e_int))).e) (e_len T.z_len (a_cons (e_var 1) a_nil))) (ss_one (s_ret e_bl)) ss_nil) (ss_one (s_ret (e_all T.z_all (a_cons (n_lc [("end", 2), ("later", 3)] sc_ride_is.nd (i_zip T.z_zip (a_cons (e_var 1) (a_cons (e_sl (e_var 1) (o_some e_int) o_none) a_nil))) (blkOk_by (N := ["web", "ride", "end", "later"]) (sc := defScope s_ride_is) (by decide +kernel)) (fun _ _ _ _ _ => (g_tup (gs_cons (g_name 2 sc_ride_is.nd) (gs_cons (g_name 3 sc_ride_is.nd) gs_nil)))) (fun _ _ _ _ _ => ts_nil) (fun _ _ _ _ _ => (e_callH (has_can_go_on T) (hr.mono (by decide)) (a_cons (e_var 0) (a_cons (e_var 2) (a_cons (e_var 3) a_nil)))))).e a_nil))))))
theorem has_round_is (T : Tx K mg) : Has P w K mg base "round_is" 4 ["web", "ride"] (spF K 2 m_round_is) := has_pure T.d_round_is sc_round_is (by rfl) (by decide) fun f cdv A outer s H E hr =>
  (ss_one (s_ret (e_and (e_callH (has_ride_is T) (hr.mono (by decide)) (a_cons (e_var 0) (a_cons (e_var 1) a_nil))) (e_one (e_callH (has_can_go_on T) (hr.mono (by decide)) (a_cons (e_var 0) (a_cons (e_ix (e_var 1) (e_neg e_int)) (a_cons (e_ix (e_var 1) e_int) a_nil))))))))
theorem has_places_along (T : Tx K mg) : Has P w K mg base "places_along" 2 ["web", "ends"] (spF K 2 m_places_along) := has_pure T.d_places_along sc_places_along (by rfl) (by decide) fun f cdv A outer s H E hr =>
  (ss_one (s_ret (e_add (n_lc [("end", 2)] sc_places_along.nd (i_any (e_var 1)) (blkOk_by (N := ["web", "ends", "end"]) (sc := defScope s_places_along) (by decide +kernel)) (fun _ _ _ _ _ => (g_name 2 sc_places_along.nd)) (fun _ _ _ _ _ => ts_nil) (fun _ _ _ _ _ => (e_callH (has_place_of T) (hr.mono (by decide)) (a_cons (e_var 0) (a_cons (e_var 2) a_nil))))).e (e_lst (a_cons (e_callH (has_place_of T) (hr.mono (by decide)) (a_cons (e_var 0) (a_cons (e_callH (has_far_end T) (hr.mono (by decide)) (a_cons (e_ix (e_var 1) (e_neg e_int)) a_nil)) a_nil))) a_nil)))))
theorem has_turnings_of (T : Tx K mg) : Has P w K mg base "turnings_of" 5 ["web", "ends"] (spF K 2 m_turnings_of) := has_pure T.d_turnings_of sc_turnings_of (by rfl) (by decide) fun f cdv A outer s H E hr =>
  (ss_cons (s_own 2 sc_turnings_of.nd (n_lst a_nil)) (ss_cons (s_for PassesOwn.never (i_any (e_callH (has_may_be T) (hr.mono (by decide)) (a_cons (e_sl (e_callH (has_places_along T) (hr.mono (by decide)) (a_cons (e_var 0) (a_cons (e_var 1) a_nil))) o_none (o_some (e_neg e_int))) a_nil))) (g_name 3 sc_turnings_of.nd) (ss_cons (s_set 4 sc_turnings_of.nd (e_callH (has_put_otherwise T) (hr.mono (by decide)) (a_cons (e_var 1) (a_cons (e_var 3) a_nil)))) (ss_one (s_if (t_val (e_callH (has_round_is T) (hr.mono (by decide)) (a_cons (e_var 0) (a_cons (e_var 4) a_nil)))) (ss_one (s_expr (e_append 2 (e_tup (a_cons (e_var 3) (a_cons (e_var 4) a_nil)))))) ss_nil))) (fun _ => trivial)) (ss_one (s_ret (e_var 2)))))
theorem has_need_round (T : Tx K mg) : Has P w K mg base "need_round" 5 ["web", "ride"] (spF K 2 m_need_round) := has_pure T.d_need_round sc_need_round (by rfl) (by decide) fun f cdv A outer s H E hr =>
  (ss_cons (s_if (t_not (t_val (e_callH (has_round_is T) (hr.mono (by decide)) (a_cons (e_var 0) (a_cons (e_var 1) a_nil))))) (ss_one s_never) ss_nil) (ss_one (s_ret (n_lc [("end", 2)] sc_need_round.nd (i_any (e_var 1)) (blkOk_by (N := ["web", "ride", "end"]) (sc := defScope s_need_round) (by decide +kernel)) (fun _ _ _ _ _ => (g_name 2 sc_need_round.nd)) (fun _ _ _ _ _ => ts_nil) (fun _ _ _ _ _ => (e_tuple T.z_tuple (a_cons (e_var 2) a_nil)))).e)))
theorem has_turnings (T : Tx K mg) : Has P w K mg base "turnings" 6 ["web", "ride"] (spN K 2 m_turnings_N) := has_new T.d_turnings sc_turnings (by rfl) (by decide) fun f cdv A outer s H E hr =>
  (ss_cons (s_set 0 sc_turnings.nd (e_callH (has_kept T) (hr.mono (by decide)) (a_cons (e_var 0) a_nil))) (ss_one (s_retNew (n_lc [("turning", 2), ("other", 3)] sc_turnings.nd (i_any (e_callH (has_turnings_of T) (hr.mono (by decide)) (a_cons (e_var 0) (a_cons (e_callH (has_need_round T) (hr.mono (by decide)) (a_cons (e_var 0) (a_cons (e_var 1) a_nil))) a_nil)))) (blkOk_by (N := ["web", "ride", "turning", "other"]) (sc := defScope s_turnings) (by decide +kernel)) (fun _ _ _ _ _ => (g_tup (gs_cons (g_name 2 sc_turnings.nd) (gs_cons (g_name 3 sc_turnings.nd) gs_nil)))) (fun _ _ _ _ _ => ts_nil) (fun _ _ _ _ _ => (e_var 2))))))
theorem has_is_turning (T : Tx K mg) : Has P w K mg base "is_turning" 2 ["thing"] (spF K 1 m_is_turning) := has_pure T.d_is_turning sc_is_turning (by rfl) (by decide) fun f cdv A outer s H E hr =>
  (ss_one (s_ret (e_and (e_or (e_callH (has_is_row T) (hr.mono (by decide)) (a_cons (e_var 0) (a_cons e_int a_nil))) (e_one (e_callH (has_is_row T) (hr.mono (by decide)) (a_cons (e_var 0) (a_cons e_int a_nil))))) (e_one (e_all T.z_all (a_cons (n_lc [("number", 1)] sc_is_turning.nd (i_any (e_var 0)) (blkOk_by (N := ["thing", "number"]) (sc := defScope s_is_turning) (by decide +kernel)) (fun _ _ _ _ _ => (g_name 1 sc_is_turning.nd)) (fun _ _ _ _ _ => ts_nil) (fun _ _ _ _ _ => (e_callH (has_is_whole T) (hr.mono (by decide)) (a_cons (e_var 1) a_nil)))).e a_nil))))))
theorem has_turned (T : Tx K mg) : Has P w K mg base "turned" 6 ["web", "ride", "turning"] (spF K 3 m_turned) := has_pure T.d_turned sc_turned (by rfl) (by decide) fun f cdv A outer s H E hr =>
  (ss_cons (s_set 0 sc_turned.nd (e_callH (has_kept T) (hr.mono (by decide)) (a_cons (e_var 0) a_nil))) (ss_cons (s_set 3 sc_turned.nd (e_callH (has_need_round T) (hr.mono (by decide)) (a_cons (e_var 0) (a_cons (e_var 1) a_nil)))) (ss_cons (s_if (t_w (w_or (t_not (t_val (e_callH (has_is_turning T) (hr.mono (by decide)) (a_cons (e_var 2) a_nil)))) (w_or1 (t_notIn (hu65 hr) (e_tuple T.z_tuple (a_cons (e_var 2) a_nil)) (e_callH (has_may_be T) (hr.mono (by decide)) (a_cons (e_sl (e_callH (has_places_along T) (hr.mono (by decide)) (a_cons (e_var 0) (a_cons (e_var 3) a_nil))) o_none (o_some (e_neg e_int))) a_nil)))))) (ss_one s_never) ss_nil) (ss_cons (s_set 4 sc_turned.nd (e_callH (has_put_otherwise T) (hr.mono (by decide)) (a_cons (e_var 3) (a_cons (e_tuple T.z_tuple (a_cons (e_var 2) a_nil)) a_nil)))) (ss_cons (s_if (t_not (t_val (e_callH (has_round_is T) (hr.mono (by decide)) (a_cons (e_var 0) (a_cons (e_var 4) a_nil))))) (ss_one s_never) ss_nil) (ss_one (s_ret (e_var 4))))))))
theorem law_body (T : Tx K mg) : BodyG P w K mg base ["script", "bag", "turn", "kinds", "many", "web", "walk", "at", "ride", "before", "due", "listed", "one", "told", "turning", "other", "wide", "there", "line", "end"] "law" s_law 6 AnyB g_law := fun f cdv A outer s H E hr hgd =>
  (ss_cons (s_own 1 sc_law.nd (n_callScr 0 (has__law_bag T) (hr.mono (by decide)))) (ss_cons (s_for0 PassesOwn.never (i0_range1 T.z_range (a_cons (e_add e_int (e_min2 T.z_min (a_cons e_int (a_cons (e_scrLen 0 T.z_len) a_nil)))) a_nil)) (g_name 2 sc_law.nd) (ss_cons (s_set 3 sc_law.nd (e_add e_int (e_callHIO 1 (has__law_draw T) (hr.mono (by decide)) (a_cons e_int a_nil)))) (ss_cons (s_set 4 sc_law.nd (e_add e_int (e_callHIO 1 (has__law_draw T) (hr.mono (by decide)) (a_cons e_int a_nil)))) (ss_cons (s_if (t_eq hr.units (e_var 3) e_int) (ss_one (s_set 4 sc_law.nd (e_sub (e_add (e_var 4) (e_mod (e_var 4) e_int)) (e_mul e_int (e_intOf T.z_int (a_cons (e_eq hr.units (e_var 4) e_int) a_nil)))))) ss_nil) (ss_cons (s_asg (g_tup (gs_cons (g_name 5 sc_law.nd) (gs_cons (g_name 6 sc_law.nd) gs_nil))) (e_callHIO 1 (has__law_walk T) (hr.mono (by decide)) (a_cons (e_var 4) (a_cons e_bl (a_cons (e_sl e_str o_none (o_some (e_var 3))) a_nil))))) (ss_cons (s_set 7 sc_law.nd (e_callHIO 1 (has__law_draw T) (hr.mono (by decide)) (a_cons (e_var 4) a_nil))) (ss_cons (s_set 8 sc_law.nd (e_ix (e_lst (a_cons (e_var 6) (a_cons (e_callH (has__law_about T) (hr.mono (by decide)) (a_cons (e_var 6) a_nil)) a_nil))) (e_callHIO 1 (has__law_draw T) (hr.mono (by decide)) (a_cons e_int a_nil)))) (ss_cons (s_set 8 sc_law.nd (e_add (e_sl (e_var 8) (o_some (e_var 7)) o_none) (e_sl (e_var 8) o_none (o_some (e_var 7))))) (ss_cons (s_set 9 sc_law.nd (e_repr hr hgd T.z_repr (a_cons (e_lst (a_cons (e_var 5) (a_cons (e_var 8) a_nil))) a_nil))) (ss_cons (s_set 10 sc_law.nd (e_callH (has__law_turnings T) (hr.mono (by decide)) (a_cons (e_var 5) (a_cons (e_var 8) a_nil)))) (ss_cons (s_set 11 sc_law.nd (e_lst (a_cons (e_ix (e_var 5) e_int) (a_cons (n_lc [("line", 18)] sc_law.nd (i_any (e_ix (e_var 5) e_int)) (blkOk_by (N := ["script", "bag", "turn", "kinds", "many", "web", "walk", "at", "ride", "before", "due", "listed", "one", "told", "turning", "other", "wide", "there", "line", "end"]) (sc := defScope s_law) (by decide +kernel)) (fun _ _ _ _ _ => (g_name 18 sc_law.nd)) (fun _ _ _ _ _ => ts_nil) (fun _ _ _ _ _ => (e_list T.z_list (a_cons (e_var 18) a_nil)))).e a_nil)))) (ss_cons (s_for PassesOwn.never (i_any (e_lst (a_cons (e_var 5) (a_cons (e_var 11) a_nil)))) (g_name 12 sc_law.nd) (ss_cons (s_own 13 sc_law.nd (n_callH (has_turnings T) (hr.mono (by decide)) (a_cons (e_var 12) (a_cons (e_if (t_eq hr.units (e_var 12) (e_var 11)) (n_lc [("end", 19)] sc_law.nd (i_any (e_var 8)) (blkOk_by (N := ["script", "bag", "turn", "kinds", "many", "web", "walk", "at", "ride", "before", "due", "listed", "one", "told", "turning", "other", "wide", "there", "line", "end"]) (sc := defScope s_law) (by decide +kernel)) (fun _ _ _ _ _ => (g_name 19 sc_law.nd)) (fun _ _ _ _ _ => ts_nil) (fun _ _ _ _ _ => (e_list T.z_list (a_cons (e_var 19) a_nil)))).e (e_var 8)) a_nil)))) (ss_cons (s_if (t_ne hr.units (e_view (e_repr hr hgd T.z_repr (a_cons (e_var 13) a_nil))) (e_repr hr hgd T.z_repr (a_cons (n_lc [("turning", 14), ("other", 15)] sc_law.nd (i_any (e_var 10)) (blkOk_by (N := ["script", "bag", "turn", "kinds", "many", "web", "walk", "at", "ride", "before", "due", "listed", "one", "told", "turning", "other", "wide", "there", "line", "end"]) (sc := defScope s_law) (by decide +kernel)) (fun _ _ _ _ _ => (g_tup (gs_cons (g_name 14 sc_law.nd) (gs_cons (g_name 15 sc_law.nd) gs_nil)))) (fun _ _ _ _ _ => ts_nil) (fun _ _ _ _ _ => (e_var 14))).e a_nil))) (ss_one (s_ret e_bl)) ss_nil) (ss_one (s_expr (e_append 13 e_non))))) (fun _ => trivial)) (ss_cons (s_for PassesOwn.never (i_any (e_sl (e_var 10) o_none (o_some e_int))) (g_tup (gs_cons (g_name 14 sc_law.nd) (gs_cons (g_name 15 sc_law.nd) gs_nil))) (ss_cons (s_if (t_ne hr.units (e_repr hr hgd T.z_repr (a_cons (e_callH (has_turned T) (hr.mono (by decide)) (a_cons (e_var 5) (a_cons (e_var 8) (a_cons (e_var 14) a_nil)))) a_nil)) (e_repr hr hgd T.z_repr (a_cons (e_var 15) a_nil))) (ss_one (s_ret e_bl)) ss_nil) (ss_one (s_if (t_ne hr.units (e_callH (has_turned T) (hr.mono (by decide)) (a_cons (e_var 11) (a_cons (n_lc [("end", 19)] sc_law.nd (i_any (e_var 8)) (blkOk_by (N := ["script", "bag", "turn", "kinds", "many", "web", "walk", "at", "ride", "before", "due", "listed", "one", "told", "turning", "other", "wide", "there", "line", "end"]) (sc := defScope s_law) (by decide +kernel)) (fun _ _ _ _ _ => (g_name 19 sc_law.nd)) (fun _ _ _ _ _ => ts_nil) (fun _ _ _ _ _ => (e_list T.z_list (a_cons (e_var 19) a_nil)))).e (a_cons (e_list T.z_list (a_cons (e_var 14) a_nil)) a_nil)))) (e_var 15)) (ss_one (s_ret e_bl)) ss_nil))) (fun _ => trivial)) (ss_cons (s_if (t_ne hr.units (e_repr hr hgd T.z_repr (a_cons (e_lst (a_cons (e_var 5) (a_cons (e_var 8) a_nil))) a_nil)) (e_var 9)) (ss_one (s_ret e_bl)) ss_nil) (ss_cons (s_asg (g_tup (gs_cons (g_name 16 sc_law.nd) (gs_cons (g_name 17 sc_law.nd) gs_nil))) (e_callHIO 1 (has__law_wider T) (hr.mono (by decide)) (a_cons (e_var 5) (a_cons (e_var 8) a_nil)))) (ss_cons (s_if (t_ne hr.units (n_callH (has_turnings T) (hr.mono (by decide)) (a_cons (e_var 16) (a_cons (e_var 17) a_nil))).e (n_lc [("turning", 14), ("other", 15)] sc_law.nd (i_any (e_var 10)) (blkOk_by (N := ["script", "bag", "turn", "kinds", "many", "web", "walk", "at", "ride", "before", "due", "listed", "one", "told", "turning", "other", "wide", "there", "line", "end"]) (sc := defScope s_law) (by decide +kernel)) (fun _ _ _ _ _ => (g_tup (gs_cons (g_name 14 sc_law.nd) (gs_cons (g_name 15 sc_law.nd) gs_nil)))) (fun _ _ _ _ _ => ts_nil) (fun _ _ _ _ _ => (e_var 14))).e) (ss_one (s_ret e_bl)) ss_nil) (ss_one (s_for PassesOwn.never (i_any (e_sl (e_callH (has__law_turnings T) (hr.mono (by decide)) (a_cons (e_var 16) (a_cons (e_var 17) a_nil))) (o_some (e_neg e_int)) o_none)) (g_tup (gs_cons (g_name 14 sc_law.nd) (gs_cons (g_name 15 sc_law.nd) gs_nil))) (ss_one (s_if (t_ne hr.units (e_callH (has_turned T) (hr.mono (by decide)) (a_cons (e_var 16) (a_cons (e_var 17) (a_cons (e_var 14) a_nil)))) (e_var 15)) (ss_one (s_ret e_bl)) ss_nil)) (fun _ => trivial))))))))))))))))))) (ss_one (s_ret e_bl))))
end
end Lw.k46

set_option maxHeartbeats 4000000
namespace Lw.k46
open PySem Fu Lw
local macro_rules | `(tactic| walk_at "e1") => `(tactic| first
  | with_reducible refine eo_seq ?_ | (with_reducible refine then_nx' ?_; refine ⟨?_, ?_, ?_⟩; rotate_left; · (try dsimp only [List.set, List.length_cons, List.length_nil, List.cons_append, List.nil_append, Nat.zero_add, Nat.reduceAdd]); exact rfl) | with_reducible refine then_rt ?_ | with_reducible refine eo_if ?_ | with_reducible refine eo_ret ?_ | with_reducible refine eo_set ?_ | with_reducible refine eo_asg ?_ | with_reducible refine eo_drop ?_ | with_reducible refine eo_nx ?_ | with_reducible refine eo_par ?_ | with_reducible refine eo_own ?_ | with_reducible refine eo_retN ?_ | with_reducible refine eo_for ?_ | with_reducible refine eo_retO ?_
  | with_reducible refine ev_c ?_ | (with_reducible refine ev_var ?_; refine ⟨_, rfl, ?_⟩) | with_reducible refine ev_bin ?_ | with_reducible refine ev_un ?_ | with_reducible refine ev_nil ?_ | with_reducible refine ev_cons ?_
  | with_reducible refine ev_tup ?_ | with_reducible refine ev_lst ?_ | with_reducible refine ev_call ?_ | with_reducible refine ev_callF ?_ | with_reducible refine ev_isi ?_ | with_reducible refine ev_isi2 ?_ | with_reducible refine ev_andV ?_ | with_reducible refine ev_orV ?_ | with_reducible refine ev_notV ?_
  | with_reducible refine ev_B ?_ | with_reducible refine ev_and ?_ | with_reducible refine ev_or ?_ | with_reducible refine ev_not ?_ | with_reducible refine ev_yes ?_ | with_reducible refine ev_if ?_ | with_reducible refine ev_no ?_ | with_reducible refine ev_so ?_ | with_reducible refine ev_sl ?_ | with_reducible refine ev_items ?_
  | (with_reducible refine ev_ixO ?_; refine ⟨_, _, rfl, rfl, ?_⟩) | (with_reducible refine ev_varO ?_; refine ⟨_, _, rfl, rfl, ?_⟩) | (with_reducible refine ev_lenO ?_; refine ⟨_, _, rfl, rfl, ?_⟩) | (with_reducible refine ev_scrSl ?_; refine ⟨_, rfl, ?_⟩) | (with_reducible refine ev_scrLen ?_; refine ⟨_, rfl, ?_⟩) | (with_reducible refine ev_callScr ?_; refine ⟨_, rfl, ?_⟩) | (with_reducible refine ev_OL ?_; refine ⟨_, _, rfl, rfl, ?_⟩) | with_reducible refine ev_OR ?_ | with_reducible refine ev_rep ?_ | with_reducible refine ev_listRng1 ?_ | with_reducible refine eo_setO ?_
  | with_reducible refine es_name ?_ | with_reducible refine es_tup2 ?_ | with_reducible refine es_tup3 ?_
  | with_reducible refine ed_addI ?_ | with_reducible refine ed_subI ?_ | with_reducible refine ed_cmp ?_ | with_reducible refine ed_eqI ?_ | with_reducible refine ed_neI ?_ | with_reducible refine ed_slT ?_ | with_reducible refine ed_slL ?_ | with_reducible refine ed_lenT ?_ | with_reducible refine ed_lenL ?_ | with_reducible refine ed_lenS ?_ | with_reducible refine ed_inS ?_ | with_reducible refine ed_itT ?_ | with_reducible refine ed_itL ?_ | with_reducible refine ed_tupL ?_ | with_reducible refine ed_tupT ?_ | with_reducible refine ed_listL ?_ | with_reducible refine ed_listT ?_ | with_reducible refine ed_neg ?_ | with_reducible refine ed_max ?_ | with_reducible refine ed_min ?_ | with_reducible refine ed_intB ?_
  | with_reducible refine ev_rng1 ?_ | with_reducible refine ev_rng2 ?_)
local macro_rules | `(tactic| walk_at "sd") => `(tactic| first | rfl | assumption | (simp only [decide_eq_true_eq, decide_eq_false_iff_not, Bool.not_eq_true', Bool.not_eq_false', Bool.and_eq_true, Bool.or_eq_true, List.length_map, List.length_cons, List.length_nil, List.length_append, List.length_range] at *; omega))
local macro_rules | `(tactic| walk_at "e2") => `(tactic| first
  | walk_at "e1" | with_reducible refine ⟨_, rfl, ?_⟩ | with_reducible refine ⟨_, _, rfl, ?_⟩
  | with_reducible refine And.intro (Eq.refl (List.length _)) ?_ | with_reducible refine And.intro (Nat.le_of_ble_eq_true (n := List.length _) rfl) ?_
  | with_reducible refine And.intro (Eq.refl (_ : Sx)) (?_ : Ed _ _)
  | ((with_reducible refine And.intro ?_ (And.intro ?_ (?_ : Ev _ _))); (· rfl); (· rfl))
  | ((with_reducible refine ed_ixT ?_ ?_ ?_); (· decide); (· rfl)) | ((with_reducible refine ed_ixL ?_ ?_ ?_); (· decide); (· rfl)) | ((with_reducible refine ed_at ?_ ?_ ?_); (· decide); (· rfl))
  | ((with_reducible refine ed_modI ?_ ?_); (· first | decide | omega))
  | with_reducible exact gives_nx | ((with_reducible refine gives_rt ?_); (· rfl)) | ((with_reducible refine And.intro ?_ ?_); (· exact rfl); (· with_reducible exact Eq.refl (_ : Sx))))
local macro_rules | `(tactic| walk_at "e") => `(tactic| repeat walk_at "e2")
/-- begin a def's spec -/
local macro_rules | `(tactic| walk_at "i") => `(tactic| simp only [initS, List.map_cons, List.map_nil, List.length_cons, List.length_nil, Nat.reduceAdd, Nat.reduceSub, List.replicate, List.cons_append, List.nil_append])
/-- a known truth decides -/
local macro_rules | `(tactic| walk_at "t") => `(tactic| first | ((with_reducible refine split_t ?_ ?_); (· walk_at "sd")) | ((with_reducible refine split_t' ?_ ?_); (· walk_at "sd")))
local macro_rules | `(tactic| walk_at "f") => `(tactic| first | ((with_reducible refine split_f ?_ ?_); (· walk_at "sd")) | ((with_reducible refine split_f' ?_ ?_); (· walk_at "sd")))
/-- all that is seen in a look -/
local macro_rules | `(tactic| walk_at "v") => `(tactic| (rw [sealAll_mk (by (simp only [List.set_cons_zero, List.set_cons_succ, List.map_cons, List.map_nil, sealS_none, sealS_dat, sealS_scr, sealS_own, List.getElem?_cons_zero, List.getElem?_cons_succ, sealC_lst]; rfl)) (by (simp only [List.set_cons_zero, List.set_cons_succ, List.map_cons, List.map_nil]; rfl))]))
open Lw.Bg
theorem abcd_cut (k : Int) (h : k = 2 ∨ k = 3 ∨ k = 4) : ∃ x : Str, dSl (.str "abcd") none (some k) = some (.str x) ∧ x.cps.toList = lets k.toNat := by
  rcases h with rfl | rfl | rfl
  · exact ⟨"ab", by rfl, by decide⟩
  · exact ⟨"abc", by rfl, by decide⟩
  · exact ⟨"abcd", by rfl, by decide⟩
/-- a line as a list -/
def lnL (l : Ln) : D := .list [.int l.1, .int l.2.1, ch l.2.2]
def wbL (p : Int) (ls : List Ln) : D := .list [.int p, .list (ls.map lnL)]
theorem web_wbL (p : Int) (ls : List Ln) : Web (wbL p ls) p ls := ⟨_, sq_l _, ls.map fun l => (lnL l, l), by rw [List.map_map]; exact sq_l _, by rw [List.map_map]; exact (List.map_id _).symm, fun q hq => by
  obtain ⟨l, _, rfl⟩ := List.mem_map.mp hq
  exact sq_l _⟩
def enL (e : Int × Int) : D := .list [.int e.1, .int e.2]
theorem ride_L (es : List (Int × Int)) : IsRide (.list (es.map enL)) es := ⟨es.map fun l => (enL l, l), by rw [List.map_map]; exact sq_l _, by rw [List.map_map]; exact (List.map_id _).symm, fun q hq => by
  obtain ⟨l, _, rfl⟩ := List.mem_map.mp hq
  exact sq_l _⟩
theorem if_midE {P : D → Prop} {c : Bool} {ga gb : M D} {S : Sx} {Q : D → Sx → Prop} (h1 : c = true → Ev (ga S) fun d T => P d ∧ T = S) (h2 : c = false → Ev (gb S) fun d T => P d ∧ T = S) (q : ∀ d, P d → Q d S) : (c = true → Ev (ga S) Q) ∧ (c = false → Ev (gb S) Q) :=
  ⟨fun h => (h1 h).mono fun d T x => x.2 ▸ q d x.1, fun h => (h2 h).mono fun d T x => x.2 ▸ q d x.1⟩
theorem law_true : ∀ ns : List Int, ns.length ≤ 63 → mScr 20 g_law ns = some (.bool true) := by
  intro ns hns
  refine mScr_of ?_; walk_at "i"; unfold g_law
  walk_at "e"
  obtain ⟨cs, e, hB⟩ := x__law_bag hns
  refine Ed.of e ?_
  walk_at "e"
  refine ⟨by omega, by omega, ?_⟩
  refine eo_loop (fun i S => ∃ x2 x3 x4 x5 x6 x7 x8 x9 x10 x11 x12 x13 x14 x15 x16 x17 cs rest, S = ⟨[some (.scr ns), some (.own 0), x2, x3, x4, x5, x6, x7, x8, x9, x10, x11, x12, x13, x14, x15, x16, x17, none, none], some (.lst cs) :: rest⟩ ∧ Bag (4294967296 - 1000 * i) cs) ⟨_, _, _, _, _, _, _, _, _, _, _, _, _, _, _, _, _, [], rfl, hB⟩ ?_ ?_
  · rintro i z S hz ⟨x2, x3, x4, x5, x6, x7, x8, x9, x10, x11, x12, x13, x14, x15, x16, x17, cs, rest, rfl, hB⟩
    obtain ⟨hi, rfl⟩ := rng_at hz
    have hi : i < 9 := by omega
    walk_at "e"
    refine ev_drawB ⟨_, rfl, ?_⟩
    walk_at "e"
    refine ⟨_, _, _, rfl, rfl, hB, by omega, by decide, by decide, fun v1 cs a1 b1 hB => ?_⟩
    walk_at "e"
    refine ev_drawB ⟨_, rfl, ?_⟩
    walk_at "e"
    refine ⟨_, _, _, rfl, rfl, hB, by omega, by decide, by decide, fun v2 cs a2 b2 hB => ?_⟩
    walk_at "e"
    refine if_mid (P := fun S => ∃ n : Nat, S = ⟨[some (.scr ns), some (.own 0), some (.dat (.int (0 + (i : Int)))), some (.dat (.int (2 + v1))), some (.dat (.int (n : Int))), x5, x6, x7, x8, x9, x10, x11, x12, x13, x14, x15, x16, x17, none, none], some (.lst cs) :: rest⟩ ∧ 2 ≤ n ∧ n ≤ 9 ∧ (2 + v1 = 2 → n % 2 = 0)) (fun h => ?_) (fun h => ?_) ?_
    · walk_at "e"
      refine ed_mulI (Sp.mulW ⟨by decide, by decide⟩ ⟨by split <;> decide, by split <;> decide⟩) ?_
      walk_at "e"
      obtain ⟨n, hn, n0, n1, n2⟩ : ∃ n : Nat, 2 + v2 + (2 + v2) % 2 - 2 * (if decide (2 + v2 = 9) = true then (1 : Int) else 0) = (n : Int) ∧ 2 ≤ n ∧ n ≤ 9 ∧ n % 2 = 0 := by
        by_cases hc : 2 + v2 = 9
        · exact ⟨8, by rw [hc]; decide, by decide, by decide, by decide⟩
        · rw [if_neg (by simpa using hc)]
          exact ⟨(2 + v2 + (2 + v2) % 2).toNat, by omega, by omega, by omega, by omega⟩
      rw [hn]
      exact ⟨n, mk_eq rfl rfl, n0, n1, fun _ => n2⟩
    · walk_at "e"
      have h : ¬ (2 + v1 = 2) := by simpa using h
      exact ⟨(2 + v2).toNat, mk_eq (by rw [show (((2 + v2).toNat : Nat) : Int) = 2 + v2 by omega]) rfl, by omega, by omega, fun z => absurd z h⟩
    rintro S ⟨n, rfl, n0, n1, hpar⟩
    walk_at "e"
    refine ev_IO ⟨_, rfl, ?_⟩
    walk_at "e"
    obtain ⟨x, ex, hx⟩ := abcd_cut (2 + v1) (by omega)
    refine Ed.of ex ?_
    walk_at "e"
    obtain ⟨d, cs, e, p, ls, es, sp, od, sg, rfl, hw, p0, p1, hwk, hr0, hr, hB⟩ := x__law_walk (cl := true) (n := n) hx (by omega) (by omega) n0 (by omega) (fun _ z => hpar (by omega)) hB (by omega)
    have hr := hr rfl
    have hln : es.length = ls.length := by rw [hwk.elen, hwk.llen]
    have hlz : es.length = n := hwk.elen
    refine ⟨_, _, e, ?_⟩
    walk_at "e"
    refine ev_drawB ⟨_, rfl, ?_⟩
    walk_at "e"
    refine ⟨_, _, _, rfl, rfl, hB, by omega, by omega, by omega, fun v3 cs a3 b3 hB => ?_⟩
    walk_at "e"
    refine Ed.of x__law_about ?_
    walk_at "e"
    refine ev_drawB ⟨_, rfl, ?_⟩
    walk_at "e"
    refine ⟨_, _, _, rfl, rfl, hB, by omega, by decide, by decide, fun v4 cs a4 b4 hB => ?_⟩
    refine ed_picked (P := fun d => ∃ fs, d = lE fs ∧ roundB ls fs = true ∧ fs.length = n) a4 b4 (fun y hy => ?_) ?_
    · simp only [List.mem_cons, List.not_mem_nil, or_false] at hy
      rcases hy with rfl | rfl
      · exact ⟨es, rfl, hr, hlz⟩
      · exact ⟨rv es, rfl, round_rv hr, by rw [rv_len]; exact hlz⟩
    rintro _ _ ⟨fs, rfl, hrf, hlf⟩
    obtain ⟨a, rfl⟩ : ∃ a : Nat, v3 = (a : Int) := ⟨v3.toNat, by omega⟩
    unfold lE
    walk_at "e"
    rw [cut_from (by omega), cut_to (by omega), Int.toNat_natCast]
    refine ed_addL (by simp; omega) ?_
    rw [← List.map_drop, ← List.map_take, ← List.map_append]
    have hra := round_rot a hrf
    have hrl : (rot a fs).length = n := by rw [rot_len]; exact hlf

    rw [show fs.drop a ++ fs.take a = rot a fs from rfl]
    generalize rot a fs = rs at hra hrl
    clear hrf hlf hr hlz
    have hall := (rideB_iff.mp (roundB_iff.mp hra).1).2.1
    have hwb := web_wb p ls
    have hll : ls.length = n := hwk.llen
    have sw := (shw_web hwb hw (by omega)).mono (Nat.le_refl 3) (show 2 * (ls.length * 124 + 41) ≤ 300000 by omega)
    have sr := (shw_ride (ride_lE rs) (ends_small hw hall)).mono (show 2 ≤ 3 by decide) (show rs.length * 83 ≤ 300000 by omega)
    have sh := shw_two sw sr
    walk_at "e"
    refine ed_repr (sq_l _) sh ?_
    walk_at "e"
    refine Ed.of (x__law_turnings hwb hw (by omega) hra) ?_
    walk_at "e"
    refine ed_ixQ (sq_t _) (by decide) rfl ?_
    walk_at "e"
    refine ev_mapX (xs := ls) (enc := ln) (g := lnL) ?_
    walk_at "e"
    refine ed_ixQ (sq_t _) (by decide) rfl ?_
    walk_at "e"
    refine ⟨rfl, fun l hl => ?_, ?_⟩
    · walk_at "e"
      exact ed_listQ (sq_t _) ⟨rfl, rfl⟩
    walk_at "e"
    have hrl9 : rs.length ≤ 9 := by omega
    have hrz : rs.length ≤ 30 := by omega
    have sg := shw_tgs (ls := ls) hrl9
    refine eo_loopX (xs := [wb p ls, wbL p ls]) (enc := fun z => z) (fun j S => ∃ x12 x13 x14 x15 rest, S = ⟨[some (.scr ns), some (.own 0), some (.dat (.int (0 + (i : Int)))), some (.dat (.int (2 + v1))), some (.dat (.int (n : Int))), some (.dat (wb p ls)), some (.dat (.list (es.map en))), some (.dat (.int (a : Int))), some (.dat (.list (rs.map en))), some (.dat (.str (PyData.list [wb p ls, .list (rs.map en)]).shown)), some (.dat (.list ((tgs ls rs).map fun t => .tuple [tD t, lE (put t rs)]))), some (.dat (wbL p ls)), x12, x13, x14, x15, x16, x17, none, none], some (.lst cs) :: rest⟩) ⟨_, _, _, _, rest, rfl⟩ ?_ ?_
    · rintro j one S hj ⟨x12, x13, x14, x15, rest, rfl⟩
      have hone : Web one p ls := by
        have := List.mem_of_getElem? hj
        simp only [List.mem_cons, List.not_mem_nil, or_false] at this
        rcases this with rfl | rfl
        · exact hwb
        · exact web_wbL p ls
      walk_at "e"
      refine ev_callN ?_
      walk_at "e"
      refine ed_eq_any (shw_web hone hw (by omega)).fine (shw_web (web_wbL p ls) hw (by omega)).fine fun c => ?_
      walk_at "e"
      refine if_midE (P := fun d => IsRide d rs) (fun _ => ?_) (fun _ => ?_) fun d hd => ?_
      · refine ev_mapX (xs := rs) (enc := en) (g := enL) ?_
        walk_at "e"
        refine ⟨rfl, fun e he => ?_, ?_⟩
        · walk_at "e"
          exact ed_listQ (sq_t _) ⟨rfl, rfl⟩
        · exact ⟨ride_L rs, rfl⟩
      · walk_at "e"
        exact ⟨ride_lE rs, rfl⟩
      walk_at "e"
      refine Ed.of (x_turnings_N hone hw hd hrz hra) ?_
      walk_at "e"
      refine ev_view ?_
      rw [sealAll_mk (by (simp only [List.set_cons_zero, List.set_cons_succ, List.map_cons, List.map_nil, sealS_none, sealS_dat, sealS_scr, sealS_own, List.getElem?_cons_zero, List.cons_append, List.length_cons, look_end, sealC_lst]; rfl)) rfl]
      walk_at "e"
      refine ed_repr (sq_l _) sg ?_
      refine ⟨rfl, ?_⟩
      walk_at "e"
      refine ev_mapX (xs := tgs ls rs) (enc := fun t => .tuple [tD t, lE (put t rs)]) (g := tD) ?_
      walk_at "e"
      refine ⟨rfl, fun t ht => ?_, ?_⟩
      · walk_at "e"
      walk_at "e"
      refine ed_repr (sq_l _) sg ?_
      walk_at "e"
      refine Ed.of (dNe_str_self _) ?_
      walk_at "e"
      walk_at "f"
      walk_at "e"
      refine ev_app ⟨_, _, rfl, look_end, ?_⟩
      walk_at "e"
      have htl := tgs_len (ls := ls) hrz
      refine ⟨_, look_end, by rw [List.length_map]; omega, ?_⟩
      walk_at "e"
      exact ⟨_, _, _, _, (some (Cell.lst cs) :: (rest ++ [some (Cell.lst ((tgs ls rs).map tD))])).set (rest.length + 1) (some (.lst ((tgs ls rs).map tD ++ [.none]))) |>.tail, mk_eq rfl (by simp)⟩
    rintro S ⟨x12, x13, x14, x15, rest, rfl⟩
    walk_at "e"
    rw [cutL_map]
    refine eo_loopX (xs := cutL (tgs ls rs) none (some 12)) (enc := fun t => .tuple [tD t, lE (put t rs)]) (fun j S => ∃ x14 x15, S = ⟨[some (.scr ns), some (.own 0), some (.dat (.int (0 + (i : Int)))), some (.dat (.int (2 + v1))), some (.dat (.int (n : Int))), some (.dat (wb p ls)), some (.dat (.list (es.map en))), some (.dat (.int (a : Int))), some (.dat (.list (rs.map en))), some (.dat (.str (PyData.list [wb p ls, .list (rs.map en)]).shown)), some (.dat (.list ((tgs ls rs).map fun t => .tuple [tD t, lE (put t rs)]))), some (.dat (wbL p ls)), x12, x13, x14, x15, x16, x17, none, none], some (.lst cs) :: rest⟩) ⟨_, _, rfl⟩ ?_ ?_
    · rintro j t S ht ⟨x14, x15, rfl⟩
      obtain ⟨ht1, ht2⟩ := mem_tgs.mp (mem_cutL (List.mem_of_getElem? ht))
      have hpl := put_len (es := rs) ht1
      have hpe := put_ends ht1 hall
      have sp := (shw_ride (ride_lE (put t rs)) (ends_small hw hpe)).mono (show 2 ≤ 3 by decide) (show (put t rs).length * 83 ≤ 300000 by omega)
      walk_at "e"
      refine Ed.of (x_turned hwb hw (ride_lE rs) hrz hra ht1 ht2) ?_
      walk_at "e"
      refine ed_repr (sq_l _) sp ?_
      walk_at "e"
      refine ed_repr (sq_l _) sp ?_
      walk_at "e"
      refine Ed.of (dNe_str_self _) ?_
      walk_at "e"
      walk_at "f"
      walk_at "e"
      refine ev_mapX (xs := rs) (enc := en) (g := enL) ?_
      walk_at "e"
      refine ⟨rfl, fun e he => ?_, ?_⟩
      · walk_at "e"
        exact ed_listQ (sq_t _) ⟨rfl, rfl⟩
      walk_at "e"
      refine ed_listQ (sq_t _) ?_
      walk_at "e"
      refine Ed.of (x_turnedQ (web_wbL p ls) hw (ride_L rs) (sq_l _) hrz hra ht1 ht2) ?_
      walk_at "e"
      refine ed_ne_self rfl (good_lE _) ?_
      walk_at "e"
      walk_at "f"
      walk_at "e"
      exact ⟨_, _, rfl⟩
    rintro S ⟨x14, x15, rfl⟩
    walk_at "e"
    refine ed_repr (sq_l _) sh ?_
    walk_at "e"
    refine Ed.of (dNe_str_self _) ?_
    walk_at "e"
    walk_at "f"
    walk_at "e"
    refine ev_IO ⟨_, rfl, ?_⟩
    walk_at "e"
    obtain ⟨d, cs, e, ks, ren, rfl, hwk2, hkl, hren, hB⟩ := x__law_wider (es := rs) hw p0 (by omega) (by omega) hall hB (by omega)
    have hrk : roundB ks (rmap ren rs) = true := by rw [hren.round hall]; exact hra
    have hrml : (rmap ren rs).length ≤ 30 := by unfold rmap; rw [List.length_map]; exact hrz
    have htg := hren.tgs hall
    refine ⟨_, _, e, ?_⟩
    walk_at "e"
    refine ev_callN ?_
    walk_at "e"
    refine Ed.of (x_turnings_N (web_wb (p + 1) ks) hwk2 (ride_lE _) hrml hrk) ?_
    rw [htg]
    walk_at "e"
    refine ev_mapX (xs := tgs ls rs) (enc := fun t => .tuple [tD t, lE (put t rs)]) (g := tD) ?_
    walk_at "e"
    refine ⟨rfl, fun t ht => ?_, ?_⟩
    · walk_at "e"
    walk_at "e"
    refine ed_ne_self rfl (good_list (n := 1) fun d hd => by obtain ⟨t, _, rfl⟩ := List.mem_map.mp hd; exact good_tD t) ?_
    walk_at "e"
    walk_at "f"
    walk_at "e"
    refine Ed.of (x__law_turnings (web_wb (p + 1) ks) hwk2 hrml hrk) ?_
    walk_at "e"
    rw [cutL_map]
    refine eo_loopX (xs := cutL (tgs ks (rmap ren rs)) (some (-6)) none) (enc := fun t => .tuple [tD t, lE (put t (rmap ren rs))]) (fun j S => ∃ x14 x15, S = ⟨[some (.scr ns), some (.own 0), some (.dat (.int (0 + (i : Int)))), some (.dat (.int (2 + v1))), some (.dat (.int (n : Int))), some (.dat (wb p ls)), some (.dat (.list (es.map en))), some (.dat (.int (a : Int))), some (.dat (.list (rs.map en))), some (.dat (.str (PyData.list [wb p ls, .list (rs.map en)]).shown)), some (.dat (.list ((tgs ls rs).map fun t => .tuple [tD t, lE (put t rs)]))), some (.dat (wbL p ls)), x12, x13, x14, x15, some (.dat (wb (p + 1) ks)), some (.dat (lE (rmap ren rs))), none, none], some (.lst cs) :: rest⟩) ⟨_, _, rfl⟩ ?_ ?_
    · rintro j t S ht ⟨x14, x15, rfl⟩
      obtain ⟨ht1, ht2⟩ := mem_tgs.mp (mem_cutL (List.mem_of_getElem? ht))
      walk_at "e"
      refine Ed.of (x_turned (web_wb (p + 1) ks) hwk2 (ride_lE _) hrml hrk ht1 ht2) ?_
      walk_at "e"
      refine ed_ne_self rfl (good_lE _) ?_
      walk_at "e"
      walk_at "f"
      walk_at "e"
      exact ⟨_, _, rfl⟩
    rintro S ⟨x14, x15, rfl⟩
    exact ⟨_, rfl, _, _, _, _, _, _, _, _, _, _, _, _, _, _, _, _, cs, rest, rfl, hB.mono (by omega)⟩
  · rintro S ⟨x2, x3, x4, x5, x6, x7, x8, x9, x10, x11, x12, x13, x14, x15, x16, x17, cs, rest, rfl, hB⟩
    walk_at "e"
    exact ⟨_, rfl⟩
end Lw.k46

set_option maxHeartbeats 16000000
namespace Lw.k46
open PySem PySem.Spec PyProof.Rows L2 RZ Fu Lw
theorem all_mk {l : PySem.W.OpenLaw} {w : World} {K : PySem.W.Frag} {h : Heap} {mg : Str → Option Value} {fa : Addr} (X : K.In h) (G : h.Ns mainGlobals mg) (hfa : mg "law" = some (.ref fa))
    {f__law_bag : Addr} {od__law_bag an__law_bag : Option Addr} {sl__law_bag : Array (Option Value)} {oc__law_bag kV__law_bag dc__law_bag pm__law_bag cd__law_bag ct__law_bag : Value}
    (a__law_bag : PySem.W.nsIn K mainGlobals "_law_bag" = some (some (.ref f__law_bag)))
    (l__law_bag : K.lookup f__law_bag = some ⟨oc__law_bag, od__law_bag, .func (PySem.W.fnOf "_law_bag" "_law_bag" (defArgs s__law_bag) (defBody s__law_bag) (defScope s__law_bag) .none kV__law_bag dc__law_bag pm__law_bag an__law_bag cd__law_bag ct__law_bag), sl__law_bag⟩)
    (c__law_bag : PySem.W.codeIn K cd__law_bag "_law_bag" = true)
    (k__law_bag : PySem.W.keepIn K (.ref f__law_bag) = true)
    {f__law_stir : Addr} {od__law_stir an__law_stir : Option Addr} {sl__law_stir : Array (Option Value)} {oc__law_stir kV__law_stir dc__law_stir pm__law_stir cd__law_stir ct__law_stir : Value}
    (a__law_stir : PySem.W.nsIn K mainGlobals "_law_stir" = some (some (.ref f__law_stir)))
    (l__law_stir : K.lookup f__law_stir = some ⟨oc__law_stir, od__law_stir, .func (PySem.W.fnOf "_law_stir" "_law_stir" (defArgs s__law_stir) (defBody s__law_stir) (defScope s__law_stir) .none kV__law_stir dc__law_stir pm__law_stir an__law_stir cd__law_stir ct__law_stir), sl__law_stir⟩)
    (c__law_stir : PySem.W.codeIn K cd__law_stir "_law_stir" = true)
    (k__law_stir : PySem.W.keepIn K (.ref f__law_stir) = true)
    {f__law_draw : Addr} {od__law_draw an__law_draw : Option Addr} {sl__law_draw : Array (Option Value)} {oc__law_draw kV__law_draw dc__law_draw pm__law_draw cd__law_draw ct__law_draw : Value}
    (a__law_draw : PySem.W.nsIn K mainGlobals "_law_draw" = some (some (.ref f__law_draw)))
    (l__law_draw : K.lookup f__law_draw = some ⟨oc__law_draw, od__law_draw, .func (PySem.W.fnOf "_law_draw" "_law_draw" (defArgs s__law_draw) (defBody s__law_draw) (defScope s__law_draw) .none kV__law_draw dc__law_draw pm__law_draw an__law_draw cd__law_draw ct__law_draw), sl__law_draw⟩)
    (c__law_draw : PySem.W.codeIn K cd__law_draw "_law_draw" = true)
    (k__law_draw : PySem.W.keepIn K (.ref f__law_draw) = true)
    {f__law_mixed : Addr} {od__law_mixed an__law_mixed : Option Addr} {sl__law_mixed : Array (Option Value)} {oc__law_mixed kV__law_mixed dc__law_mixed pm__law_mixed cd__law_mixed ct__law_mixed : Value}
    (a__law_mixed : PySem.W.nsIn K mainGlobals "_law_mixed" = some (some (.ref f__law_mixed)))
    (l__law_mixed : K.lookup f__law_mixed = some ⟨oc__law_mixed, od__law_mixed, .func (PySem.W.fnOf "_law_mixed" "_law_mixed" (defArgs s__law_mixed) (defBody s__law_mixed) (defScope s__law_mixed) .none kV__law_mixed dc__law_mixed pm__law_mixed an__law_mixed cd__law_mixed ct__law_mixed), sl__law_mixed⟩)
    (c__law_mixed : PySem.W.codeIn K cd__law_mixed "_law_mixed" = true)
    (k__law_mixed : PySem.W.keepIn K (.ref f__law_mixed) = true)
    {f__law_walk : Addr} {od__law_walk an__law_walk : Option Addr} {sl__law_walk : Array (Option Value)} {oc__law_walk kV__law_walk dc__law_walk pm__law_walk cd__law_walk ct__law_walk : Value}
    (a__law_walk : PySem.W.nsIn K mainGlobals "_law_walk" = some (some (.ref f__law_walk)))
    (l__law_walk : K.lookup f__law_walk = some ⟨oc__law_walk, od__law_walk, .func (PySem.W.fnOf "_law_walk" "_law_walk" (defArgs s__law_walk) (defBody s__law_walk) (defScope s__law_walk) .none kV__law_walk dc__law_walk pm__law_walk an__law_walk cd__law_walk ct__law_walk), sl__law_walk⟩)
    (c__law_walk : PySem.W.codeIn K cd__law_walk "_law_walk" = true)
    (k__law_walk : PySem.W.keepIn K (.ref f__law_walk) = true)
    {f__law_about : Addr} {od__law_about an__law_about : Option Addr} {sl__law_about : Array (Option Value)} {oc__law_about kV__law_about dc__law_about pm__law_about cd__law_about ct__law_about : Value}
    (a__law_about : PySem.W.nsIn K mainGlobals "_law_about" = some (some (.ref f__law_about)))
    (l__law_about : K.lookup f__law_about = some ⟨oc__law_about, od__law_about, .func (PySem.W.fnOf "_law_about" "_law_about" (defArgs s__law_about) (defBody s__law_about) (defScope s__law_about) .none kV__law_about dc__law_about pm__law_about an__law_about cd__law_about ct__law_about), sl__law_about⟩)
    (c__law_about : PySem.W.codeIn K cd__law_about "_law_about" = true)
    (k__law_about : PySem.W.keepIn K (.ref f__law_about) = true)
    {f__law_turned : Addr} {od__law_turned an__law_turned : Option Addr} {sl__law_turned : Array (Option Value)} {oc__law_turned kV__law_turned dc__law_turned pm__law_turned cd__law_turned ct__law_turned : Value}
    (a__law_turned : PySem.W.nsIn K mainGlobals "_law_turned" = some (some (.ref f__law_turned)))
    (l__law_turned : K.lookup f__law_turned = some ⟨oc__law_turned, od__law_turned, .func (PySem.W.fnOf "_law_turned" "_law_turned" (defArgs s__law_turned) (defBody s__law_turned) (defScope s__law_turned) .none kV__law_turned dc__law_turned pm__law_turned an__law_turned cd__law_turned ct__law_turned), sl__law_turned⟩)
    (c__law_turned : PySem.W.codeIn K cd__law_turned "_law_turned" = true)
    (k__law_turned : PySem.W.keepIn K (.ref f__law_turned) = true)
    {f__law_follows : Addr} {od__law_follows an__law_follows : Option Addr} {sl__law_follows : Array (Option Value)} {oc__law_follows kV__law_follows dc__law_follows pm__law_follows cd__law_follows ct__law_follows : Value}
    (a__law_follows : PySem.W.nsIn K mainGlobals "_law_follows" = some (some (.ref f__law_follows)))
    (l__law_follows : K.lookup f__law_follows = some ⟨oc__law_follows, od__law_follows, .func (PySem.W.fnOf "_law_follows" "_law_follows" (defArgs s__law_follows) (defBody s__law_follows) (defScope s__law_follows) .none kV__law_follows dc__law_follows pm__law_follows an__law_follows cd__law_follows ct__law_follows), sl__law_follows⟩)
    (c__law_follows : PySem.W.codeIn K cd__law_follows "_law_follows" = true)
    (k__law_follows : PySem.W.keepIn K (.ref f__law_follows) = true)
    {f__law_goes_round : Addr} {od__law_goes_round an__law_goes_round : Option Addr} {sl__law_goes_round : Array (Option Value)} {oc__law_goes_round kV__law_goes_round dc__law_goes_round pm__law_goes_round cd__law_goes_round ct__law_goes_round : Value}
    (a__law_goes_round : PySem.W.nsIn K mainGlobals "_law_goes_round" = some (some (.ref f__law_goes_round)))
    (l__law_goes_round : K.lookup f__law_goes_round = some ⟨oc__law_goes_round, od__law_goes_round, .func (PySem.W.fnOf "_law_goes_round" "_law_goes_round" (defArgs s__law_goes_round) (defBody s__law_goes_round) (defScope s__law_goes_round) .none kV__law_goes_round dc__law_goes_round pm__law_goes_round an__law_goes_round cd__law_goes_round ct__law_goes_round), sl__law_goes_round⟩)
    (c__law_goes_round : PySem.W.codeIn K cd__law_goes_round "_law_goes_round" = true)
    (k__law_goes_round : PySem.W.keepIn K (.ref f__law_goes_round) = true)
    {f__law_turnings : Addr} {od__law_turnings an__law_turnings : Option Addr} {sl__law_turnings : Array (Option Value)} {oc__law_turnings kV__law_turnings dc__law_turnings pm__law_turnings cd__law_turnings ct__law_turnings : Value}
    (a__law_turnings : PySem.W.nsIn K mainGlobals "_law_turnings" = some (some (.ref f__law_turnings)))
    (l__law_turnings : K.lookup f__law_turnings = some ⟨oc__law_turnings, od__law_turnings, .func (PySem.W.fnOf "_law_turnings" "_law_turnings" (defArgs s__law_turnings) (defBody s__law_turnings) (defScope s__law_turnings) .none kV__law_turnings dc__law_turnings pm__law_turnings an__law_turnings cd__law_turnings ct__law_turnings), sl__law_turnings⟩)
    (c__law_turnings : PySem.W.codeIn K cd__law_turnings "_law_turnings" = true)
    (k__law_turnings : PySem.W.keepIn K (.ref f__law_turnings) = true)
    {f__law_wider : Addr} {od__law_wider an__law_wider : Option Addr} {sl__law_wider : Array (Option Value)} {oc__law_wider kV__law_wider dc__law_wider pm__law_wider cd__law_wider ct__law_wider : Value}
    (a__law_wider : PySem.W.nsIn K mainGlobals "_law_wider" = some (some (.ref f__law_wider)))
    (l__law_wider : K.lookup f__law_wider = some ⟨oc__law_wider, od__law_wider, .func (PySem.W.fnOf "_law_wider" "_law_wider" (defArgs s__law_wider) (defBody s__law_wider) (defScope s__law_wider) .none kV__law_wider dc__law_wider pm__law_wider an__law_wider cd__law_wider ct__law_wider), sl__law_wider⟩)
    (c__law_wider : PySem.W.codeIn K cd__law_wider "_law_wider" = true)
    (k__law_wider : PySem.W.keepIn K (.ref f__law_wider) = true)
    {f_is_whole : Addr} {od_is_whole an_is_whole : Option Addr} {sl_is_whole : Array (Option Value)} {oc_is_whole kV_is_whole dc_is_whole pm_is_whole cd_is_whole ct_is_whole : Value}
    (a_is_whole : PySem.W.nsIn K mainGlobals "is_whole" = some (some (.ref f_is_whole)))
    (l_is_whole : K.lookup f_is_whole = some ⟨oc_is_whole, od_is_whole, .func (PySem.W.fnOf "is_whole" "is_whole" (defArgs s_is_whole) (defBody s_is_whole) (defScope s_is_whole) .none kV_is_whole dc_is_whole pm_is_whole an_is_whole cd_is_whole ct_is_whole), sl_is_whole⟩)
    (c_is_whole : PySem.W.codeIn K cd_is_whole "is_whole" = true)
    (k_is_whole : PySem.W.keepIn K (.ref f_is_whole) = true)
    {f_is_row : Addr} {od_is_row an_is_row : Option Addr} {sl_is_row : Array (Option Value)} {oc_is_row kV_is_row dc_is_row pm_is_row cd_is_row ct_is_row : Value}
    (a_is_row : PySem.W.nsIn K mainGlobals "is_row" = some (some (.ref f_is_row)))
    (l_is_row : K.lookup f_is_row = some ⟨oc_is_row, od_is_row, .func (PySem.W.fnOf "is_row" "is_row" (defArgs s_is_row) (defBody s_is_row) (defScope s_is_row) .none kV_is_row dc_is_row pm_is_row an_is_row cd_is_row ct_is_row), sl_is_row⟩)
    (c_is_row : PySem.W.codeIn K cd_is_row "is_row" = true)
    (k_is_row : PySem.W.keepIn K (.ref f_is_row) = true)
    {f_is_company : Addr} {od_is_company an_is_company : Option Addr} {sl_is_company : Array (Option Value)} {oc_is_company kV_is_company dc_is_company pm_is_company cd_is_company ct_is_company : Value}
    (a_is_company : PySem.W.nsIn K mainGlobals "is_company" = some (some (.ref f_is_company)))
    (l_is_company : K.lookup f_is_company = some ⟨oc_is_company, od_is_company, .func (PySem.W.fnOf "is_company" "is_company" (defArgs s_is_company) (defBody s_is_company) (defScope s_is_company) .none kV_is_company dc_is_company pm_is_company an_is_company cd_is_company ct_is_company), sl_is_company⟩)
    (c_is_company : PySem.W.codeIn K cd_is_company "is_company" = true)
    (k_is_company : PySem.W.keepIn K (.ref f_is_company) = true)
    {f_is_line_of : Addr} {od_is_line_of an_is_line_of : Option Addr} {sl_is_line_of : Array (Option Value)} {oc_is_line_of kV_is_line_of dc_is_line_of pm_is_line_of cd_is_line_of ct_is_line_of : Value}
    (a_is_line_of : PySem.W.nsIn K mainGlobals "is_line_of" = some (some (.ref f_is_line_of)))
    (l_is_line_of : K.lookup f_is_line_of = some ⟨oc_is_line_of, od_is_line_of, .func (PySem.W.fnOf "is_line_of" "is_line_of" (defArgs s_is_line_of) (defBody s_is_line_of) (defScope s_is_line_of) .none kV_is_line_of dc_is_line_of pm_is_line_of an_is_line_of cd_is_line_of ct_is_line_of), sl_is_line_of⟩)
    (c_is_line_of : PySem.W.codeIn K cd_is_line_of "is_line_of" = true)
    (k_is_line_of : PySem.W.keepIn K (.ref f_is_line_of) = true)
    {f_web_of : Addr} {od_web_of an_web_of : Option Addr} {sl_web_of : Array (Option Value)} {oc_web_of kV_web_of dc_web_of pm_web_of cd_web_of ct_web_of : Value}
    (a_web_of : PySem.W.nsIn K mainGlobals "web_of" = some (some (.ref f_web_of)))
    (l_web_of : K.lookup f_web_of = some ⟨oc_web_of, od_web_of, .func (PySem.W.fnOf "web_of" "web_of" (defArgs s_web_of) (defBody s_web_of) (defScope s_web_of) .none kV_web_of dc_web_of pm_web_of an_web_of cd_web_of ct_web_of), sl_web_of⟩)
    (c_web_of : PySem.W.codeIn K cd_web_of "web_of" = true)
    (k_web_of : PySem.W.keepIn K (.ref f_web_of) = true)
    {f_kept : Addr} {od_kept an_kept : Option Addr} {sl_kept : Array (Option Value)} {oc_kept kV_kept dc_kept pm_kept cd_kept ct_kept : Value}
    (a_kept : PySem.W.nsIn K mainGlobals "kept" = some (some (.ref f_kept)))
    (l_kept : K.lookup f_kept = some ⟨oc_kept, od_kept, .func (PySem.W.fnOf "kept" "kept" (defArgs s_kept) (defBody s_kept) (defScope s_kept) .none kV_kept dc_kept pm_kept an_kept cd_kept ct_kept), sl_kept⟩)
    (c_kept : PySem.W.codeIn K cd_kept "kept" = true)
    (k_kept : PySem.W.keepIn K (.ref f_kept) = true)
    {f_pairs_alike : Addr} {od_pairs_alike an_pairs_alike : Option Addr} {sl_pairs_alike : Array (Option Value)} {oc_pairs_alike kV_pairs_alike dc_pairs_alike pm_pairs_alike cd_pairs_alike ct_pairs_alike : Value}
    (a_pairs_alike : PySem.W.nsIn K mainGlobals "pairs_alike" = some (some (.ref f_pairs_alike)))
    (l_pairs_alike : K.lookup f_pairs_alike = some ⟨oc_pairs_alike, od_pairs_alike, .func (PySem.W.fnOf "pairs_alike" "pairs_alike" (defArgs s_pairs_alike) (defBody s_pairs_alike) (defScope s_pairs_alike) .none kV_pairs_alike dc_pairs_alike pm_pairs_alike an_pairs_alike cd_pairs_alike ct_pairs_alike), sl_pairs_alike⟩)
    (c_pairs_alike : PySem.W.codeIn K cd_pairs_alike "pairs_alike" = true)
    (k_pairs_alike : PySem.W.keepIn K (.ref f_pairs_alike) = true)
    {f_may_be : Addr} {od_may_be an_may_be : Option Addr} {sl_may_be : Array (Option Value)} {oc_may_be kV_may_be dc_may_be pm_may_be cd_may_be ct_may_be : Value}
    (a_may_be : PySem.W.nsIn K mainGlobals "may_be" = some (some (.ref f_may_be)))
    (l_may_be : K.lookup f_may_be = some ⟨oc_may_be, od_may_be, .func (PySem.W.fnOf "may_be" "may_be" (defArgs s_may_be) (defBody s_may_be) (defScope s_may_be) .none kV_may_be dc_may_be pm_may_be an_may_be cd_may_be ct_may_be), sl_may_be⟩)
    (c_may_be : PySem.W.codeIn K cd_may_be "may_be" = true)
    (k_may_be : PySem.W.keepIn K (.ref f_may_be) = true)
    {f_far_end : Addr} {od_far_end an_far_end : Option Addr} {sl_far_end : Array (Option Value)} {oc_far_end kV_far_end dc_far_end pm_far_end cd_far_end ct_far_end : Value}
    (a_far_end : PySem.W.nsIn K mainGlobals "far_end" = some (some (.ref f_far_end)))
    (l_far_end : K.lookup f_far_end = some ⟨oc_far_end, od_far_end, .func (PySem.W.fnOf "far_end" "far_end" (defArgs s_far_end) (defBody s_far_end) (defScope s_far_end) .none kV_far_end dc_far_end pm_far_end an_far_end cd_far_end ct_far_end), sl_far_end⟩)
    (c_far_end : PySem.W.codeIn K cd_far_end "far_end" = true)
    (k_far_end : PySem.W.keepIn K (.ref f_far_end) = true)
    {f_faced_about : Addr} {od_faced_about an_faced_about : Option Addr} {sl_faced_about : Array (Option Value)} {oc_faced_about kV_faced_about dc_faced_about pm_faced_about cd_faced_about ct_faced_about : Value}
    (a_faced_about : PySem.W.nsIn K mainGlobals "faced_about" = some (some (.ref f_faced_about)))
    (l_faced_about : K.lookup f_faced_about = some ⟨oc_faced_about, od_faced_about, .func (PySem.W.fnOf "faced_about" "faced_about" (defArgs s_faced_about) (defBody s_faced_about) (defScope s_faced_about) .none kV_faced_about dc_faced_about pm_faced_about an_faced_about cd_faced_about ct_faced_about), sl_faced_about⟩)
    (c_faced_about : PySem.W.codeIn K cd_faced_about "faced_about" = true)
    (k_faced_about : PySem.W.keepIn K (.ref f_faced_about) = true)
    {f_put_otherwise : Addr} {od_put_otherwise an_put_otherwise : Option Addr} {sl_put_otherwise : Array (Option Value)} {oc_put_otherwise kV_put_otherwise dc_put_otherwise pm_put_otherwise cd_put_otherwise ct_put_otherwise : Value}
    (a_put_otherwise : PySem.W.nsIn K mainGlobals "put_otherwise" = some (some (.ref f_put_otherwise)))
    (l_put_otherwise : K.lookup f_put_otherwise = some ⟨oc_put_otherwise, od_put_otherwise, .func (PySem.W.fnOf "put_otherwise" "put_otherwise" (defArgs s_put_otherwise) (defBody s_put_otherwise) (defScope s_put_otherwise) .none kV_put_otherwise dc_put_otherwise pm_put_otherwise an_put_otherwise cd_put_otherwise ct_put_otherwise), sl_put_otherwise⟩)
    (c_put_otherwise : PySem.W.codeIn K cd_put_otherwise "put_otherwise" = true)
    (k_put_otherwise : PySem.W.keepIn K (.ref f_put_otherwise) = true)
    {f_place_of : Addr} {od_place_of an_place_of : Option Addr} {sl_place_of : Array (Option Value)} {oc_place_of kV_place_of dc_place_of pm_place_of cd_place_of ct_place_of : Value}
    (a_place_of : PySem.W.nsIn K mainGlobals "place_of" = some (some (.ref f_place_of)))
    (l_place_of : K.lookup f_place_of = some ⟨oc_place_of, od_place_of, .func (PySem.W.fnOf "place_of" "place_of" (defArgs s_place_of) (defBody s_place_of) (defScope s_place_of) .none kV_place_of dc_place_of pm_place_of an_place_of cd_place_of ct_place_of), sl_place_of⟩)
    (c_place_of : PySem.W.codeIn K cd_place_of "place_of" = true)
    (k_place_of : PySem.W.keepIn K (.ref f_place_of) = true)
    {f_company_of : Addr} {od_company_of an_company_of : Option Addr} {sl_company_of : Array (Option Value)} {oc_company_of kV_company_of dc_company_of pm_company_of cd_company_of ct_company_of : Value}
    (a_company_of : PySem.W.nsIn K mainGlobals "company_of" = some (some (.ref f_company_of)))
    (l_company_of : K.lookup f_company_of = some ⟨oc_company_of, od_company_of, .func (PySem.W.fnOf "company_of" "company_of" (defArgs s_company_of) (defBody s_company_of) (defScope s_company_of) .none kV_company_of dc_company_of pm_company_of an_company_of cd_company_of ct_company_of), sl_company_of⟩)
    (c_company_of : PySem.W.codeIn K cd_company_of "company_of" = true)
    (k_company_of : PySem.W.keepIn K (.ref f_company_of) = true)
    {f_can_go_on : Addr} {od_can_go_on an_can_go_on : Option Addr} {sl_can_go_on : Array (Option Value)} {oc_can_go_on kV_can_go_on dc_can_go_on pm_can_go_on cd_can_go_on ct_can_go_on : Value}
    (a_can_go_on : PySem.W.nsIn K mainGlobals "can_go_on" = some (some (.ref f_can_go_on)))
    (l_can_go_on : K.lookup f_can_go_on = some ⟨oc_can_go_on, od_can_go_on, .func (PySem.W.fnOf "can_go_on" "can_go_on" (defArgs s_can_go_on) (defBody s_can_go_on) (defScope s_can_go_on) .none kV_can_go_on dc_can_go_on pm_can_go_on an_can_go_on cd_can_go_on ct_can_go_on), sl_can_go_on⟩)
    (c_can_go_on : PySem.W.codeIn K cd_can_go_on "can_go_on" = true)
    (k_can_go_on : PySem.W.keepIn K (.ref f_can_go_on) = true)
    {f_is_end : Addr} {od_is_end an_is_end : Option Addr} {sl_is_end : Array (Option Value)} {oc_is_end kV_is_end dc_is_end pm_is_end cd_is_end ct_is_end : Value}
    (a_is_end : PySem.W.nsIn K mainGlobals "is_end" = some (some (.ref f_is_end)))
    (l_is_end : K.lookup f_is_end = some ⟨oc_is_end, od_is_end, .func (PySem.W.fnOf "is_end" "is_end" (defArgs s_is_end) (defBody s_is_end) (defScope s_is_end) .none kV_is_end dc_is_end pm_is_end an_is_end cd_is_end ct_is_end), sl_is_end⟩)
    (c_is_end : PySem.W.codeIn K cd_is_end "is_end" = true)
    (k_is_end : PySem.W.keepIn K (.ref f_is_end) = true)
    {f_ride_is : Addr} {od_ride_is an_ride_is : Option Addr} {sl_ride_is : Array (Option Value)} {oc_ride_is kV_ride_is dc_ride_is pm_ride_is cd_ride_is ct_ride_is : Value}
    (a_ride_is : PySem.W.nsIn K mainGlobals "ride_is" = some (some (.ref f_ride_is)))
    (l_ride_is : K.lookup f_ride_is = some ⟨oc_ride_is, od_ride_is, .func (PySem.W.fnOf "ride_is" "ride_is" (defArgs s_ride_is) (defBody s_ride_is) (defScope s_ride_is) .none kV_ride_is dc_ride_is pm_ride_is an_ride_is cd_ride_is ct_ride_is), sl_ride_is⟩)
    (c_ride_is : PySem.W.codeIn K cd_ride_is "ride_is" = true)
    (k_ride_is : PySem.W.keepIn K (.ref f_ride_is) = true)
    {f_round_is : Addr} {od_round_is an_round_is : Option Addr} {sl_round_is : Array (Option Value)} {oc_round_is kV_round_is dc_round_is pm_round_is cd_round_is ct_round_is : Value}
    (a_round_is : PySem.W.nsIn K mainGlobals "round_is" = some (some (.ref f_round_is)))
    (l_round_is : K.lookup f_round_is = some ⟨oc_round_is, od_round_is, .func (PySem.W.fnOf "round_is" "round_is" (defArgs s_round_is) (defBody s_round_is) (defScope s_round_is) .none kV_round_is dc_round_is pm_round_is an_round_is cd_round_is ct_round_is), sl_round_is⟩)
    (c_round_is : PySem.W.codeIn K cd_round_is "round_is" = true)
    (k_round_is : PySem.W.keepIn K (.ref f_round_is) = true)
    {f_places_along : Addr} {od_places_along an_places_along : Option Addr} {sl_places_along : Array (Option Value)} {oc_places_along kV_places_along dc_places_along pm_places_along cd_places_along ct_places_along : Value}
    (a_places_along : PySem.W.nsIn K mainGlobals "places_along" = some (some (.ref f_places_along)))
    (l_places_along : K.lookup f_places_along = some ⟨oc_places_along, od_places_along, .func (PySem.W.fnOf "places_along" "places_along" (defArgs s_places_along) (defBody s_places_along) (defScope s_places_along) .none kV_places_along dc_places_along pm_places_along an_places_along cd_places_along ct_places_along), sl_places_along⟩)
    (c_places_along : PySem.W.codeIn K cd_places_along "places_along" = true)
    (k_places_along : PySem.W.keepIn K (.ref f_places_along) = true)
    {f_turnings_of : Addr} {od_turnings_of an_turnings_of : Option Addr} {sl_turnings_of : Array (Option Value)} {oc_turnings_of kV_turnings_of dc_turnings_of pm_turnings_of cd_turnings_of ct_turnings_of : Value}
    (a_turnings_of : PySem.W.nsIn K mainGlobals "turnings_of" = some (some (.ref f_turnings_of)))
    (l_turnings_of : K.lookup f_turnings_of = some ⟨oc_turnings_of, od_turnings_of, .func (PySem.W.fnOf "turnings_of" "turnings_of" (defArgs s_turnings_of) (defBody s_turnings_of) (defScope s_turnings_of) .none kV_turnings_of dc_turnings_of pm_turnings_of an_turnings_of cd_turnings_of ct_turnings_of), sl_turnings_of⟩)
    (c_turnings_of : PySem.W.codeIn K cd_turnings_of "turnings_of" = true)
    (k_turnings_of : PySem.W.keepIn K (.ref f_turnings_of) = true)
    {f_need_round : Addr} {od_need_round an_need_round : Option Addr} {sl_need_round : Array (Option Value)} {oc_need_round kV_need_round dc_need_round pm_need_round cd_need_round ct_need_round : Value}
    (a_need_round : PySem.W.nsIn K mainGlobals "need_round" = some (some (.ref f_need_round)))
    (l_need_round : K.lookup f_need_round = some ⟨oc_need_round, od_need_round, .func (PySem.W.fnOf "need_round" "need_round" (defArgs s_need_round) (defBody s_need_round) (defScope s_need_round) .none kV_need_round dc_need_round pm_need_round an_need_round cd_need_round ct_need_round), sl_need_round⟩)
    (c_need_round : PySem.W.codeIn K cd_need_round "need_round" = true)
    (k_need_round : PySem.W.keepIn K (.ref f_need_round) = true)
    {f_turnings : Addr} {od_turnings an_turnings : Option Addr} {sl_turnings : Array (Option Value)} {oc_turnings kV_turnings dc_turnings pm_turnings cd_turnings ct_turnings : Value}
    (a_turnings : PySem.W.nsIn K mainGlobals "turnings" = some (some (.ref f_turnings)))
    (l_turnings : K.lookup f_turnings = some ⟨oc_turnings, od_turnings, .func (PySem.W.fnOf "turnings" "turnings" (defArgs s_turnings) (defBody s_turnings) (defScope s_turnings) .none kV_turnings dc_turnings pm_turnings an_turnings cd_turnings ct_turnings), sl_turnings⟩)
    (c_turnings : PySem.W.codeIn K cd_turnings "turnings" = true)
    (k_turnings : PySem.W.keepIn K (.ref f_turnings) = true)
    {f_is_turning : Addr} {od_is_turning an_is_turning : Option Addr} {sl_is_turning : Array (Option Value)} {oc_is_turning kV_is_turning dc_is_turning pm_is_turning cd_is_turning ct_is_turning : Value}
    (a_is_turning : PySem.W.nsIn K mainGlobals "is_turning" = some (some (.ref f_is_turning)))
    (l_is_turning : K.lookup f_is_turning = some ⟨oc_is_turning, od_is_turning, .func (PySem.W.fnOf "is_turning" "is_turning" (defArgs s_is_turning) (defBody s_is_turning) (defScope s_is_turning) .none kV_is_turning dc_is_turning pm_is_turning an_is_turning cd_is_turning ct_is_turning), sl_is_turning⟩)
    (c_is_turning : PySem.W.codeIn K cd_is_turning "is_turning" = true)
    (k_is_turning : PySem.W.keepIn K (.ref f_is_turning) = true)
    {f_turned : Addr} {od_turned an_turned : Option Addr} {sl_turned : Array (Option Value)} {oc_turned kV_turned dc_turned pm_turned cd_turned ct_turned : Value}
    (a_turned : PySem.W.nsIn K mainGlobals "turned" = some (some (.ref f_turned)))
    (l_turned : K.lookup f_turned = some ⟨oc_turned, od_turned, .func (PySem.W.fnOf "turned" "turned" (defArgs s_turned) (defBody s_turned) (defScope s_turned) .none kV_turned dc_turned pm_turned an_turned cd_turned ct_turned), sl_turned⟩)
    (c_turned : PySem.W.codeIn K cd_turned "turned" = true)
    (k_turned : PySem.W.keepIn K (.ref f_turned) = true)
    {f_law : Addr} {od_law an_law : Option Addr} {sl_law : Array (Option Value)} {oc_law kV_law dc_law pm_law cd_law ct_law : Value}
    (a_law : PySem.W.nsIn K mainGlobals "law" = some (some (.ref f_law)))
    (l_law : K.lookup f_law = some ⟨oc_law, od_law, .func (PySem.W.fnOf "law" "law" (defArgs s_law) (defBody s_law) (defScope s_law) .none kV_law dc_law pm_law an_law cd_law ct_law), sl_law⟩)
    (c_law : PySem.W.codeIn K cd_law "law" = true)
    (k_law : PySem.W.keepIn K (.ref f_law) = true)
    (z_all : PySem.W.nsIn K mainGlobals "all" = some none)
    (z_bool : PySem.W.nsIn K mainGlobals "bool" = some none)
    (z_enumerate : PySem.W.nsIn K mainGlobals "enumerate" = some none)
    (z_int : PySem.W.nsIn K mainGlobals "int" = some none)
    (z_isinstance : PySem.W.nsIn K mainGlobals "isinstance" = some none)
    (z_len : PySem.W.nsIn K mainGlobals "len" = some none)
    (z_list : PySem.W.nsIn K mainGlobals "list" = some none)
    (z_min : PySem.W.nsIn K mainGlobals "min" = some none)
    (z_range : PySem.W.nsIn K mainGlobals "range" = some none)
    (z_repr : PySem.W.nsIn K mainGlobals "repr" = some none)
    (z_set : PySem.W.nsIn K mainGlobals "set" = some none)
    (z_sorted : PySem.W.nsIn K mainGlobals "sorted" = some none)
    (z_str : PySem.W.nsIn K mainGlobals "str" = some none)
    (z_tuple : PySem.W.nsIn K mainGlobals "tuple" = some none)
    (z_zip : PySem.W.nsIn K mainGlobals "zip" = some none)
    {t_LETTERS : Tok}
    (n_LETTERS : PySem.W.nsIn K mainGlobals "LETTERS" = some (some (.str "abcdefghijklmnopqrstuvwxyz" t_LETTERS)))
    {t_SIDES : Tok}
    (n_SIDES : PySem.W.nsIn K mainGlobals "SIDES" = some (some (.int 2 t_SIDES)))
    : ∃ fd : FuncData, (∀ (s : Shared) (v : Value), BindsTo s fd ⟨[v], []⟩ [("script", v)]) ∧ ∀ base : Heap, K.In base → base.Ns mainGlobals mg → FnG l.prog w K mg base 7 fa fd ["script"] (spLaw K (mScr 20 g_law)) := by
  have e := hfa.symm.trans (PySem.W.mg_of X G a_law)
  cases e
  have T : Tx K mg := {
    d__law_bag := ⟨_, _, PySem.W.mg_of X G a__law_bag, fun_mk (st := s__law_bag) l__law_bag c__law_bag k__law_bag, (fun_mk (st := s__law_bag) l__law_bag c__law_bag k__law_bag).binds (ps := ["script"]) fun _ _ _ _ _ _ us hl => match us, hl with | [_], _ => rfl⟩
    d__law_stir := ⟨_, _, PySem.W.mg_of X G a__law_stir, fun_mk (st := s__law_stir) l__law_stir c__law_stir k__law_stir, (fun_mk (st := s__law_stir) l__law_stir c__law_stir k__law_stir).binds (ps := ["number", "place"]) fun _ _ _ _ _ _ us hl => match us, hl with | [_, _], _ => rfl⟩
    d__law_draw := ⟨_, _, PySem.W.mg_of X G a__law_draw, fun_mk (st := s__law_draw) l__law_draw c__law_draw k__law_draw, (fun_mk (st := s__law_draw) l__law_draw c__law_draw k__law_draw).binds (ps := ["bag", "many"]) fun _ _ _ _ _ _ us hl => match us, hl with | [_, _], _ => rfl⟩
    d__law_mixed := ⟨_, _, PySem.W.mg_of X G a__law_mixed, fun_mk (st := s__law_mixed) l__law_mixed c__law_mixed k__law_mixed, (fun_mk (st := s__law_mixed) l__law_mixed c__law_mixed k__law_mixed).binds (ps := ["bag", "row"]) fun _ _ _ _ _ _ us hl => match us, hl with | [_, _], _ => rfl⟩
    d__law_walk := ⟨_, _, PySem.W.mg_of X G a__law_walk, fun_mk (st := s__law_walk) l__law_walk c__law_walk k__law_walk, (fun_mk (st := s__law_walk) l__law_walk c__law_walk k__law_walk).binds (ps := ["bag", "many", "closed", "letters"]) fun _ _ _ _ _ _ us hl => match us, hl with | [_, _, _, _], _ => rfl⟩
    d__law_about := ⟨_, _, PySem.W.mg_of X G a__law_about, fun_mk (st := s__law_about) l__law_about c__law_about k__law_about, (fun_mk (st := s__law_about) l__law_about c__law_about k__law_about).binds (ps := ["ends"]) fun _ _ _ _ _ _ us hl => match us, hl with | [_], _ => rfl⟩
    d__law_turned := ⟨_, _, PySem.W.mg_of X G a__law_turned, fun_mk (st := s__law_turned) l__law_turned c__law_turned k__law_turned, (fun_mk (st := s__law_turned) l__law_turned c__law_turned k__law_turned).binds (ps := ["ends", "turning"]) fun _ _ _ _ _ _ us hl => match us, hl with | [_, _], _ => rfl⟩
    d__law_follows := ⟨_, _, PySem.W.mg_of X G a__law_follows, fun_mk (st := s__law_follows) l__law_follows c__law_follows k__law_follows, (fun_mk (st := s__law_follows) l__law_follows c__law_follows k__law_follows).binds (ps := ["web", "end", "later"]) fun _ _ _ _ _ _ us hl => match us, hl with | [_, _, _], _ => rfl⟩
    d__law_goes_round := ⟨_, _, PySem.W.mg_of X G a__law_goes_round, fun_mk (st := s__law_goes_round) l__law_goes_round c__law_goes_round k__law_goes_round, (fun_mk (st := s__law_goes_round) l__law_goes_round c__law_goes_round k__law_goes_round).binds (ps := ["web", "ends"]) fun _ _ _ _ _ _ us hl => match us, hl with | [_, _], _ => rfl⟩
    d__law_turnings := ⟨_, _, PySem.W.mg_of X G a__law_turnings, fun_mk (st := s__law_turnings) l__law_turnings c__law_turnings k__law_turnings, (fun_mk (st := s__law_turnings) l__law_turnings c__law_turnings k__law_turnings).binds (ps := ["web", "ends"]) fun _ _ _ _ _ _ us hl => match us, hl with | [_, _], _ => rfl⟩
    d__law_wider := ⟨_, _, PySem.W.mg_of X G a__law_wider, fun_mk (st := s__law_wider) l__law_wider c__law_wider k__law_wider, (fun_mk (st := s__law_wider) l__law_wider c__law_wider k__law_wider).binds (ps := ["bag", "web", "ride"]) fun _ _ _ _ _ _ us hl => match us, hl with | [_, _, _], _ => rfl⟩
    d_is_whole := ⟨_, _, PySem.W.mg_of X G a_is_whole, fun_mk (st := s_is_whole) l_is_whole c_is_whole k_is_whole, (fun_mk (st := s_is_whole) l_is_whole c_is_whole k_is_whole).binds (ps := ["thing"]) fun _ _ _ _ _ _ us hl => match us, hl with | [_], _ => rfl⟩
    d_is_row := ⟨_, _, PySem.W.mg_of X G a_is_row, fun_mk (st := s_is_row) l_is_row c_is_row k_is_row, (fun_mk (st := s_is_row) l_is_row c_is_row k_is_row).binds (ps := ["thing", "size"]) fun _ _ _ _ _ _ us hl => match us, hl with | [_, _], _ => rfl⟩
    d_is_company := ⟨_, _, PySem.W.mg_of X G a_is_company, fun_mk (st := s_is_company) l_is_company c_is_company k_is_company, (fun_mk (st := s_is_company) l_is_company c_is_company k_is_company).binds (ps := ["thing"]) fun _ _ _ _ _ _ us hl => match us, hl with | [_], _ => rfl⟩
    d_is_line_of := ⟨_, _, PySem.W.mg_of X G a_is_line_of, fun_mk (st := s_is_line_of) l_is_line_of c_is_line_of k_is_line_of, (fun_mk (st := s_is_line_of) l_is_line_of c_is_line_of k_is_line_of).binds (ps := ["places", "thing"]) fun _ _ _ _ _ _ us hl => match us, hl with | [_, _], _ => rfl⟩
    d_web_of := ⟨_, _, PySem.W.mg_of X G a_web_of, fun_mk (st := s_web_of) l_web_of c_web_of k_web_of, (fun_mk (st := s_web_of) l_web_of c_web_of k_web_of).binds (ps := ["places", "lines"]) fun _ _ _ _ _ _ us hl => match us, hl with | [_, _], _ => rfl⟩
    d_kept := ⟨_, _, PySem.W.mg_of X G a_kept, fun_mk (st := s_kept) l_kept c_kept k_kept, (fun_mk (st := s_kept) l_kept c_kept k_kept).binds (ps := ["web"]) fun _ _ _ _ _ _ us hl => match us, hl with | [_], _ => rfl⟩
    d_pairs_alike := ⟨_, _, PySem.W.mg_of X G a_pairs_alike, fun_mk (st := s_pairs_alike) l_pairs_alike c_pairs_alike k_pairs_alike, (fun_mk (st := s_pairs_alike) l_pairs_alike c_pairs_alike k_pairs_alike).binds (ps := ["places"]) fun _ _ _ _ _ _ us hl => match us, hl with | [_], _ => rfl⟩
    d_may_be := ⟨_, _, PySem.W.mg_of X G a_may_be, fun_mk (st := s_may_be) l_may_be c_may_be k_may_be, (fun_mk (st := s_may_be) l_may_be c_may_be k_may_be).binds (ps := ["places"]) fun _ _ _ _ _ _ us hl => match us, hl with | [_], _ => rfl⟩
    d_far_end := ⟨_, _, PySem.W.mg_of X G a_far_end, fun_mk (st := s_far_end) l_far_end c_far_end k_far_end, (fun_mk (st := s_far_end) l_far_end c_far_end k_far_end).binds (ps := ["end"]) fun _ _ _ _ _ _ us hl => match us, hl with | [_], _ => rfl⟩
    d_faced_about := ⟨_, _, PySem.W.mg_of X G a_faced_about, fun_mk (st := s_faced_about) l_faced_about c_faced_about k_faced_about, (fun_mk (st := s_faced_about) l_faced_about c_faced_about k_faced_about).binds (ps := ["ends"]) fun _ _ _ _ _ _ us hl => match us, hl with | [_], _ => rfl⟩
    d_put_otherwise := ⟨_, _, PySem.W.mg_of X G a_put_otherwise, fun_mk (st := s_put_otherwise) l_put_otherwise c_put_otherwise k_put_otherwise, (fun_mk (st := s_put_otherwise) l_put_otherwise c_put_otherwise k_put_otherwise).binds (ps := ["ends", "turning"]) fun _ _ _ _ _ _ us hl => match us, hl with | [_, _], _ => rfl⟩
    d_place_of := ⟨_, _, PySem.W.mg_of X G a_place_of, fun_mk (st := s_place_of) l_place_of c_place_of k_place_of, (fun_mk (st := s_place_of) l_place_of c_place_of k_place_of).binds (ps := ["web", "end"]) fun _ _ _ _ _ _ us hl => match us, hl with | [_, _], _ => rfl⟩
    d_company_of := ⟨_, _, PySem.W.mg_of X G a_company_of, fun_mk (st := s_company_of) l_company_of c_company_of k_company_of, (fun_mk (st := s_company_of) l_company_of c_company_of k_company_of).binds (ps := ["web", "end"]) fun _ _ _ _ _ _ us hl => match us, hl with | [_, _], _ => rfl⟩
    d_can_go_on := ⟨_, _, PySem.W.mg_of X G a_can_go_on, fun_mk (st := s_can_go_on) l_can_go_on c_can_go_on k_can_go_on, (fun_mk (st := s_can_go_on) l_can_go_on c_can_go_on k_can_go_on).binds (ps := ["web", "end", "later"]) fun _ _ _ _ _ _ us hl => match us, hl with | [_, _, _], _ => rfl⟩
    d_is_end := ⟨_, _, PySem.W.mg_of X G a_is_end, fun_mk (st := s_is_end) l_is_end c_is_end k_is_end, (fun_mk (st := s_is_end) l_is_end c_is_end k_is_end).binds (ps := ["web", "thing"]) fun _ _ _ _ _ _ us hl => match us, hl with | [_, _], _ => rfl⟩
    d_ride_is := ⟨_, _, PySem.W.mg_of X G a_ride_is, fun_mk (st := s_ride_is) l_ride_is c_ride_is k_ride_is, (fun_mk (st := s_ride_is) l_ride_is c_ride_is k_ride_is).binds (ps := ["web", "ride"]) fun _ _ _ _ _ _ us hl => match us, hl with | [_, _], _ => rfl⟩
    d_round_is := ⟨_, _, PySem.W.mg_of X G a_round_is, fun_mk (st := s_round_is) l_round_is c_round_is k_round_is, (fun_mk (st := s_round_is) l_round_is c_round_is k_round_is).binds (ps := ["web", "ride"]) fun _ _ _ _ _ _ us hl => match us, hl with | [_, _], _ => rfl⟩
    d_places_along := ⟨_, _, PySem.W.mg_of X G a_places_along, fun_mk (st := s_places_along) l_places_along c_places_along k_places_along, (fun_mk (st := s_places_along) l_places_along c_places_along k_places_along).binds (ps := ["web", "ends"]) fun _ _ _ _ _ _ us hl => match us, hl with | [_, _], _ => rfl⟩
    d_turnings_of := ⟨_, _, PySem.W.mg_of X G a_turnings_of, fun_mk (st := s_turnings_of) l_turnings_of c_turnings_of k_turnings_of, (fun_mk (st := s_turnings_of) l_turnings_of c_turnings_of k_turnings_of).binds (ps := ["web", "ends"]) fun _ _ _ _ _ _ us hl => match us, hl with | [_, _], _ => rfl⟩
    d_need_round := ⟨_, _, PySem.W.mg_of X G a_need_round, fun_mk (st := s_need_round) l_need_round c_need_round k_need_round, (fun_mk (st := s_need_round) l_need_round c_need_round k_need_round).binds (ps := ["web", "ride"]) fun _ _ _ _ _ _ us hl => match us, hl with | [_, _], _ => rfl⟩
    d_turnings := ⟨_, _, PySem.W.mg_of X G a_turnings, fun_mk (st := s_turnings) l_turnings c_turnings k_turnings, (fun_mk (st := s_turnings) l_turnings c_turnings k_turnings).binds (ps := ["web", "ride"]) fun _ _ _ _ _ _ us hl => match us, hl with | [_, _], _ => rfl⟩
    d_is_turning := ⟨_, _, PySem.W.mg_of X G a_is_turning, fun_mk (st := s_is_turning) l_is_turning c_is_turning k_is_turning, (fun_mk (st := s_is_turning) l_is_turning c_is_turning k_is_turning).binds (ps := ["thing"]) fun _ _ _ _ _ _ us hl => match us, hl with | [_], _ => rfl⟩
    d_turned := ⟨_, _, PySem.W.mg_of X G a_turned, fun_mk (st := s_turned) l_turned c_turned k_turned, (fun_mk (st := s_turned) l_turned c_turned k_turned).binds (ps := ["web", "ride", "turning"]) fun _ _ _ _ _ _ us hl => match us, hl with | [_, _, _], _ => rfl⟩
    d_law := ⟨_, _, PySem.W.mg_of X G a_law, fun_mk (st := s_law) l_law c_law k_law, (fun_mk (st := s_law) l_law c_law k_law).binds (ps := ["script"]) fun _ _ _ _ _ _ us hl => match us, hl with | [_], _ => rfl⟩
    z_all := PySem.W.mg_none_of X G z_all
    z_bool := PySem.W.mg_none_of X G z_bool
    z_enumerate := PySem.W.mg_none_of X G z_enumerate
    z_int := PySem.W.mg_none_of X G z_int
    z_isinstance := PySem.W.mg_none_of X G z_isinstance
    z_len := PySem.W.mg_none_of X G z_len
    z_list := PySem.W.mg_none_of X G z_list
    z_min := PySem.W.mg_none_of X G z_min
    z_range := PySem.W.mg_none_of X G z_range
    z_repr := PySem.W.mg_none_of X G z_repr
    z_set := PySem.W.mg_none_of X G z_set
    z_sorted := PySem.W.mg_none_of X G z_sorted
    z_str := PySem.W.mg_none_of X G z_str
    z_tuple := PySem.W.mg_none_of X G z_tuple
    z_zip := PySem.W.mg_none_of X G z_zip
    c_LETTERS := ⟨_, PySem.W.mg_of X G n_LETTERS⟩
    c_SIDES := ⟨_, PySem.W.mg_of X G n_SIDES⟩
  }
  exact ⟨PySem.W.fnOf "law" "law" (defArgs s_law) (defBody s_law) (defScope s_law) .none kV_law dc_law pm_law an_law cd_law ct_law, fun s v => .of_eq rfl, fun base _ _ => fn_lawG (fun B hB => trivial) (fun_mk (st := s_law) l_law c_law k_law) sc_law rfl (by decide) (law_body T _)⟩
end Lw.k46
open PySem PySem.W PyProof.Rows
set_option maxHeartbeats 0 in
theorem PySem.Challenge.cw_changeride_k46_turnings_told_holds : PySem.Challenge.rw_changeride_k46_turnings_told.Holds := by
  w_on; o_law; k_head; (case hw => w_witness2)
  k_fill
  refine Fu.walk_ofG (l := PySem.Challenge.rw_changeride_k46_turnings_told) (n := 63) (k := 7) (x := "script") (sp := fun w => Fu.spLaw _ (Fu.mScr 20 Lw.k46.g_law)) rfl (by decide) rfl ⟨rfl, by decide, by decide⟩ (fun w h Y => PySem.W.kIn_of Y) ?F (fun _ H a ns hl ho hS => ⟨a, ns, rfl, hS, hl, fun b xs e => (by rcases ho b with z | ⟨o, ys, z⟩ <;> rw [e] at z <;> cases z), Lw.k46.law_true ns hl, fun _ => rfl⟩)
  case F =>
    intro w mg fa h KX G hmg
    refine' Lw.k46.all_mk KX G hmg ?a__law_bag ?l__law_bag ?c__law_bag ?k__law_bag ?a__law_stir ?l__law_stir ?c__law_stir ?k__law_stir ?a__law_draw ?l__law_draw ?c__law_draw ?k__law_draw ?a__law_mixed ?l__law_mixed ?c__law_mixed ?k__law_mixed ?a__law_walk ?l__law_walk ?c__law_walk ?k__law_walk ?a__law_about ?l__law_about ?c__law_about ?k__law_about ?a__law_turned ?l__law_turned ?c__law_turned ?k__law_turned ?a__law_follows ?l__law_follows ?c__law_follows ?k__law_follows ?a__law_goes_round ?l__law_goes_round ?c__law_goes_round ?k__law_goes_round ?a__law_turnings ?l__law_turnings ?c__law_turnings ?k__law_turnings ?a__law_wider ?l__law_wider ?c__law_wider ?k__law_wider ?a_is_whole ?l_is_whole ?c_is_whole ?k_is_whole ?a_is_row ?l_is_row ?c_is_row ?k_is_row ?a_is_company ?l_is_company ?c_is_company ?k_is_company ?a_is_line_of ?l_is_line_of ?c_is_line_of ?k_is_line_of ?a_web_of ?l_web_of ?c_web_of ?k_web_of ?a_kept ?l_kept ?c_kept ?k_kept ?a_pairs_alike ?l_pairs_alike ?c_pairs_alike ?k_pairs_alike ?a_may_be ?l_may_be ?c_may_be ?k_may_be ?a_far_end ?l_far_end ?c_far_end ?k_far_end ?a_faced_about ?l_faced_about ?c_faced_about ?k_faced_about ?a_put_otherwise ?l_put_otherwise ?c_put_otherwise ?k_put_otherwise ?a_place_of ?l_place_of ?c_place_of ?k_place_of ?a_company_of ?l_company_of ?c_company_of ?k_company_of ?a_can_go_on ?l_can_go_on ?c_can_go_on ?k_can_go_on ?a_is_end ?l_is_end ?c_is_end ?k_is_end ?a_ride_is ?l_ride_is ?c_ride_is ?k_ride_is ?a_round_is ?l_round_is ?c_round_is ?k_round_is ?a_places_along ?l_places_along ?c_places_along ?k_places_along ?a_turnings_of ?l_turnings_of ?c_turnings_of ?k_turnings_of ?a_need_round ?l_need_round ?c_need_round ?k_need_round ?a_turnings ?l_turnings ?c_turnings ?k_turnings ?a_is_turning ?l_is_turning ?c_is_turning ?k_is_turning ?a_turned ?l_turned ?c_turned ?k_turned ?a_law ?l_law ?c_law ?k_law ?z_all ?z_bool ?z_enumerate ?z_int ?z_isinstance ?z_len ?z_list ?z_min ?z_range ?z_repr ?z_set ?z_sorted ?z_str ?z_tuple ?z_zip ?n_LETTERS ?n_SIDES
    (case a__law_bag => k_is)
    (case l__law_bag => k_is)
    (case c__law_bag => k_is)
    (case k__law_bag => k_is)
    (case a__law_stir => k_is)
    (case l__law_stir => k_is)
    (case c__law_stir => k_is)
    (case k__law_stir => k_is)
    (case a__law_draw => k_is)
    (case l__law_draw => k_is)
    (case c__law_draw => k_is)
    (case k__law_draw => k_is)
    (case a__law_mixed => k_is)
    (case l__law_mixed => k_is)
    (case c__law_mixed => k_is)
    (case k__law_mixed => k_is)
    (case a__law_walk => k_is)
    (case l__law_walk => k_is)
    (case c__law_walk => k_is)
    (case k__law_walk => k_is)
    (case a__law_about => k_is)
    (case l__law_about => k_is)
    (case c__law_about => k_is)
    (case k__law_about => k_is)
    (case a__law_turned => k_is)
    (case l__law_turned => k_is)
    (case c__law_turned => k_is)
    (case k__law_turned => k_is)
    (case a__law_follows => k_is)
    (case l__law_follows => k_is)
    (case c__law_follows => k_is)
    (case k__law_follows => k_is)
    (case a__law_goes_round => k_is)
    (case l__law_goes_round => k_is)
    (case c__law_goes_round => k_is)
    (case k__law_goes_round => k_is)
    (case a__law_turnings => k_is)
    (case l__law_turnings => k_is)
    (case c__law_turnings => k_is)
    (case k__law_turnings => k_is)
    (case a__law_wider => k_is)
    (case l__law_wider => k_is)
    (case c__law_wider => k_is)
    (case k__law_wider => k_is)
    (case a_is_whole => k_is)
    (case l_is_whole => k_is)
    (case c_is_whole => k_is)
    (case k_is_whole => k_is)
    (case a_is_row => k_is)
    (case l_is_row => k_is)
    (case c_is_row => k_is)
    (case k_is_row => k_is)
    (case a_is_company => k_is)
    (case l_is_company => k_is)
    (case c_is_company => k_is)
    (case k_is_company => k_is)
    (case a_is_line_of => k_is)
    (case l_is_line_of => k_is)
    (case c_is_line_of => k_is)
    (case k_is_line_of => k_is)
    (case a_web_of => k_is)
    (case l_web_of => k_is)
    (case c_web_of => k_is)
    (case k_web_of => k_is)
    (case a_kept => k_is)
    (case l_kept => k_is)
    (case c_kept => k_is)
    (case k_kept => k_is)
    (case a_pairs_alike => k_is)
    (case l_pairs_alike => k_is)
    (case c_pairs_alike => k_is)
    (case k_pairs_alike => k_is)
    (case a_may_be => k_is)
    (case l_may_be => k_is)
    (case c_may_be => k_is)
    (case k_may_be => k_is)
    (case a_far_end => k_is)
    (case l_far_end => k_is)
    (case c_far_end => k_is)
    (case k_far_end => k_is)
    (case a_faced_about => k_is)
    (case l_faced_about => k_is)
    (case c_faced_about => k_is)
    (case k_faced_about => k_is)
    (case a_put_otherwise => k_is)
    (case l_put_otherwise => k_is)
    (case c_put_otherwise => k_is)
    (case k_put_otherwise => k_is)
    (case a_place_of => k_is)
    (case l_place_of => k_is)
    (case c_place_of => k_is)
    (case k_place_of => k_is)
    (case a_company_of => k_is)
    (case l_company_of => k_is)
    (case c_company_of => k_is)
    (case k_company_of => k_is)
    (case a_can_go_on => k_is)
    (case l_can_go_on => k_is)
    (case c_can_go_on => k_is)
    (case k_can_go_on => k_is)
    (case a_is_end => k_is)
    (case l_is_end => k_is)
    (case c_is_end => k_is)
    (case k_is_end => k_is)
    (case a_ride_is => k_is)
    (case l_ride_is => k_is)
    (case c_ride_is => k_is)
    (case k_ride_is => k_is)
    (case a_round_is => k_is)
    (case l_round_is => k_is)
    (case c_round_is => k_is)
    (case k_round_is => k_is)
    (case a_places_along => k_is)
    (case l_places_along => k_is)
    (case c_places_along => k_is)
    (case k_places_along => k_is)
    (case a_turnings_of => k_is)
    (case l_turnings_of => k_is)
    (case c_turnings_of => k_is)
    (case k_turnings_of => k_is)
    (case a_need_round => k_is)
    (case l_need_round => k_is)
    (case c_need_round => k_is)
    (case k_need_round => k_is)
    (case a_turnings => k_is)
    (case l_turnings => k_is)
    (case c_turnings => k_is)
    (case k_turnings => k_is)
    (case a_is_turning => k_is)
    (case l_is_turning => k_is)
    (case c_is_turning => k_is)
    (case k_is_turning => k_is)
    (case a_turned => k_is)
    (case l_turned => k_is)
    (case c_turned => k_is)
    (case k_turned => k_is)
    (case a_law => k_is)
    (case l_law => k_is)
    (case c_law => k_is)
    (case k_law => k_is)
    (case z_all => k_is)
    (case z_bool => k_is)
    (case z_enumerate => k_is)
    (case z_int => k_is)
    (case z_isinstance => k_is)
    (case z_len => k_is)
    (case z_list => k_is)
    (case z_min => k_is)
    (case z_range => k_is)
    (case z_repr => k_is)
    (case z_set => k_is)
    (case z_sorted => k_is)
    (case z_str => k_is)
    (case z_tuple => k_is)
    (case z_zip => k_is)
    (case n_LETTERS => k_is)
    (case n_SIDES => k_is)
