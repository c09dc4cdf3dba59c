import PyProof.Rows.All
import Wide.All
import OpenK.AllK
import Wide.FinOn
import HandS.ForMost
import HandS.Evl
import HandS.Deep
import HandS.TupAny
import HandS.TupMul
import HandS.Conv
import HandS.IsInst
import HandS.Wide
import HandS.Style
import HandS.Flow
import HandS.SortInts
import HandS.Lambda
import KE.GoesMore
import HandS.More
import KE.GoesEnum
import HandS.OwnEq
import HandS.ForExc
import HandS.Hot
import HandS.HotCalls
import HandS.TryMany
import HandS.ExcCtx
import HandS.ExcIs
import HandS.EndTab
import PySem.Challenge.RW_takenth_k11_where_two_rows_part
set_option Elab.async false
set_option linter.all false
set_option maxRecDepth 100000
set_option maxHeartbeats 4000000
set_option maxRecDepth 100000
set_option maxHeartbeats 4000000
/-! A layer of plain data over the hand layer: frozen data (Dt), owned lists, the bag of draws; readings over plain data. -/
namespace Pd
open PySem L2
open Evl (Ex)

/-! ### frozen data -/
mutual
inductive Dt (F : Hp) : V → PyData → Prop
  | non : Dt F .non .none
  | bl (b : Bool) : Dt F (.bl b) (.bool b)
  | int (i : Int) : Dt F (.int i) (.int i)
  | str (x : Str) : Dt F (.str x) (.str x)
  | lst {a : Addr} {xs : List V} {ds : List PyData} : F a = some (.lst xs) → DtA F xs ds → Dt F (.ref a) (.list ds)
  | tup {a : Addr} {xs : List V} {ds : List PyData} : F a = some (.tup xs) → DtA F xs ds → Dt F (.ref a) (.tuple ds)
inductive DtA (F : Hp) : List V → List PyData → Prop
  | nil : DtA F [] []
  | cons {v : V} {vs : List V} {d : PyData} {ds : List PyData} : Dt F v d → DtA F vs ds → DtA F (v :: vs) (d :: ds)
end

section
variable {F F' H : Hp}
mutual
theorem Dt.mono (e : Ex F F') : ∀ (d : PyData) (v : V), Dt F v d → Dt F' v d
  | .none, _, h => by cases h; exact .non
  | .bool b, _, h => by cases h; exact .bl b
  | .int i, _, h => by cases h; exact .int i
  | .str x, _, h => by cases h; exact .str x
  | .list ds, _, h => by
    cases h with
    | lst ha hs => exact .lst (e _ _ ha) (DtA.mono e ds _ hs)
  | .tuple ds, _, h => by
    cases h with
    | tup ha hs => exact .tup (e _ _ ha) (DtA.mono e ds _ hs)
  | .dict _, _, h => by cases h
theorem DtA.mono (e : Ex F F') : ∀ (ds : List PyData) (vs : List V), DtA F vs ds → DtA F' vs ds
  | [], _, h => by cases h; exact .nil
  | d :: ds, _, h => by
    cases h with
    | cons h1 h2 => exact .cons (Dt.mono e d _ h1) (DtA.mono e ds _ h2)
end
theorem Dt.up {v : V} {d : PyData} (h : Dt F v d) (e : Ex F F') : Dt F' v d := Dt.mono e d v h
theorem DtA.up {vs : List V} {ds : List PyData} (h : DtA F vs ds) (e : Ex F F') : DtA F' vs ds := DtA.mono e ds vs h
mutual
theorem Dt.dp0 {K : PySem.W.Frag} : ∀ (d : PyData) (v : V), Dt H v d → Dp K H v d
  | .none, _, h => by cases h; exact .non
  | .bool b, _, h => by cases h; exact .bl b
  | .int i, _, h => by cases h; exact .int i
  | .str x, _, h => by cases h; exact .str x
  | .list ds, _, h => by
    cases h with
    | lst ha hs => exact .lst (SqL.of ha) (DtA.dp0 ds _ hs)
  | .tuple ds, _, h => by
    cases h with
    | tup ha hs => exact .tup (SqT.of ha) (DtA.dp0 ds _ hs)
  | .dict _, _, h => by cases h
theorem DtA.dp0 {K : PySem.W.Frag} : ∀ (ds : List PyData) (vs : List V), DtA H vs ds → DpAll K H vs ds
  | [], _, h => by cases h; exact .nil
  | d :: ds, _, h => by
    cases h with
    | cons h1 h2 => exact .cons (Dt.dp0 d _ h1) (DtA.dp0 ds _ h2)
end
theorem Dt.dp {K : PySem.W.Frag} {v : V} {d : PyData} (h : Dt H v d) : Dp K H v d := Dt.dp0 d v h

theorem DtA.len : ∀ {vs : List V} {ds : List PyData}, DtA F vs ds → vs.length = ds.length
  | _, _, .nil => rfl
  | _, _, .cons _ t => by rw [List.length_cons, List.length_cons, DtA.len t]
theorem DtA.get : ∀ {vs : List V} {ds : List PyData} {i : Nat} {d : PyData}, DtA F vs ds → ds[i]? = some d → ∃ v, vs[i]? = some v ∧ Dt F v d
  | _, _, _, _, .nil, e => by simp at e
  | _, _, 0, _, .cons r _, e => by
    simp at e
    subst e
    exact ⟨_, rfl, r⟩
  | _, _, i + 1, d, .cons _ t, e => by
    obtain ⟨u, h1, h2⟩ := DtA.get (i := i) (d := d) t (by simpa using e)
    exact ⟨u, by simpa using h1, h2⟩
theorem DtA.getV : ∀ {vs : List V} {ds : List PyData} {i : Nat} {v : V}, DtA F vs ds → vs[i]? = some v → ∃ d, ds[i]? = some d ∧ Dt F v d
  | _, _, _, _, .nil, e => by simp at e
  | _, _, 0, _, .cons r _, e => by
    simp at e
    subst e
    exact ⟨_, rfl, r⟩
  | _, _, i + 1, v, .cons _ t, e => by
    obtain ⟨u, h1, h2⟩ := DtA.getV (i := i) (v := v) t (by simpa using e)
    exact ⟨u, by simpa using h1, h2⟩
theorem DtA.app : ∀ {vs ws : List V} {ds es : List PyData}, DtA F vs ds → DtA F ws es → DtA F (vs ++ ws) (ds ++ es)
  | _, _, _, _, .nil, s => s
  | _, _, _, _, .cons r t, s => .cons r (DtA.app t s)
theorem DtA.take : ∀ {vs : List V} {ds : List PyData} (n : Nat), DtA F vs ds → DtA F (vs.take n) (ds.take n)
  | _, _, 0, _ => .nil
  | _, _, _ + 1, .nil => .nil
  | _, _, n + 1, .cons r t => .cons r (DtA.take n t)
theorem DtA.drop : ∀ {vs : List V} {ds : List PyData} (n : Nat), DtA F vs ds → DtA F (vs.drop n) (ds.drop n)
  | _, _, 0, r => r
  | _, _, _ + 1, .nil => .nil
  | _, _, n + 1, .cons _ t => DtA.drop n t
theorem DtA.set {v : V} {d : PyData} (r : Dt F v d) : ∀ {vs : List V} {ds : List PyData} (i : Nat), DtA F vs ds → DtA F (vs.set i v) (ds.set i d)
  | _, _, _, .nil => .nil
  | _, _, 0, .cons _ t => .cons r t
  | _, _, i + 1, .cons q t => .cons q (DtA.set r i t)
theorem DtA.rev : ∀ {vs : List V} {ds : List PyData}, DtA F vs ds → DtA F vs.reverse ds.reverse
  | _, _, .nil => .nil
  | _, _, .cons r t => by
    rw [List.reverse_cons, List.reverse_cons]
    exact DtA.app (DtA.rev t) (.cons r .nil)
theorem DtA.ints : ∀ {vs : List V} {ns : List Int}, DtA F vs (ns.map PyData.int) → vs = ns.map V.int
  | _, [], h => by cases h; rfl
  | _, n :: ns, h => by
    cases h with
    | cons h1 h2 =>
      cases h1
      rw [DtA.ints h2]
      rfl
theorem DtA.of_ints : ∀ (ns : List Int), DtA F (ns.map V.int) (ns.map PyData.int)
  | [] => .nil
  | n :: ns => .cons (.int n) (DtA.of_ints ns)
theorem DtA.bools : ∀ {vs : List V} {bs : List Bool}, DtA F vs (bs.map PyData.bool) → vs = bs.map V.bl
  | _, [], h => by cases h; rfl
  | _, n :: ns, h => by
    cases h with
    | cons h1 h2 =>
      cases h1
      rw [DtA.bools h2]
      rfl
end

/-! ### the frame's base, how heaps grow, the bag -/
/-- at a def's entry: the heap, its frozen part, the bags that may change -/
structure Bs where
  H : Hp
  F : Hp
  fp : Addr → Prop
  op : Addr → Prop
  tb : Addr → Str → Prop
  iv : Hp → Prop
abbrev yesI : Hp → Prop := fun _ => True
abbrev noT : Addr → Str → Prop := fun _ _ => False
abbrev mkB (H F : Hp) (fp : Addr → Prop) : Bs := ⟨H, F, fp, fun _ => False, noT, yesI⟩
/-- a bag of draws -/
def BagAt (F H : Hp) (b : Addr) : Prop := ∃ (l : Addr) (n : Int) (ns : List Int), H b = some (.lst [.ref l, .int n]) ∧ 0 ≤ n ∧ F l = some (.lst (ns.map V.int)) ∧ ns.length = 400 ∧ ∀ x ∈ ns, 0 ≤ x ∧ x < 1000

/-- a saying of the heap that lists, objects and tables do not touch -/
def KeepI (iv : Hp → Prop) : Prop := ∀ H H' : Hp, (∀ a o, H a = some o → (∀ vs, o ≠ .lst vs) → (∀ C dx fs, o ≠ .ins C dx fs) → (∀ ps, o ≠ .tbl ps) → H' a = some o) → iv H → iv H'
structure Grow (B : Bs) (F H : Hp) : Prop where
  fh : Ex F H
  bf : Ex B.F F
  keep : ∀ a o, ¬ B.fp a → ¬ B.op a → B.H a = some o → H a = some o
  nofr : ∀ a o, B.H a = some o → B.F a = none → F a = none
  bag : ∀ b, B.fp b → BagAt F H b
  fpn : ∀ b, B.fp b → B.F b = none ∧ ∃ o, B.H b = some o
  opn : ∀ p, B.op p → B.F p = none ∧ (∃ o, B.H p = some o ∧ ∃ C dx fs, o = .ins C dx fs) ∧ ∃ C dx fs, H p = some (.ins C dx fs)
  tab : ∀ P q, B.tb P q → LamX.TabS H P q ∧ F P = none ∧ B.H P = none
  iv : B.iv H
  ivk : KeepI B.iv

/-- a table where nothing but new things and lists differ -/
theorem tab_keep {H H' : Hp} {P : Addr} {q : Str} (t : LamX.TabS H P q) (k : ∀ a o, H a = some o → (∀ vs, o ≠ .lst vs) → (∀ C dx fs, o ≠ .ins C dx fs) → H' a = some o) : LamX.TabS H' P q := by
  obtain ⟨ps, h1, h2, h3⟩ := t
  refine ⟨ps, k _ _ h1 (fun _ z => by cases z) (fun _ _ _ z => by cases z), h2, fun pos cv hc => ?_⟩
  obtain ⟨c, e1, e2⟩ := h3 pos cv hc
  refine ⟨c, e1, k _ _ e2 (fun _ z => ?_) (fun _ _ _ z => ?_)⟩
  · unfold LamX.CodeO at z
    cases z
  · unfold LamX.CodeO at z
    cases z

theorem upd_some {H : Hp} {p a : Addr} {o u : HO} (h : H p = none) (e : H a = some u) : upd H p o a = some u := by
  rw [upd_ne (ne_of_none e h)]
  exact e
theorem Ex.upd2 {F H : Hp} {p : Addr} {o : HO} (e : Ex F H) : Ex (upd F p o) (upd H p o) := fun a u h => by
  by_cases ha : a = p
  · subst ha
    rw [upd_same] at h ⊢
    exact h
  · rw [upd_ne ha] at h ⊢
    exact e a u h
theorem Ex.none {F H : Hp} {p : Addr} (e : Ex F H) (h : H p = Option.none) : F p = Option.none := Evl.fresh_back e h

theorem BagAt.mono {F F' H H' : Hp} {b : Addr} (h : BagAt F H b) (e : Ex F F') (eh : ∀ o, H b = some o → H' b = some o) : BagAt F' H' b := by
  obtain ⟨l, n, ns, h1, h2, h3, h4, h5⟩ := h
  exact ⟨l, n, ns, eh _ h1, h2, e _ _ h3, h4, h5⟩

section
variable {B : Bs} {F H F' H' : Hp}
/-- what stood at the entry stands -/
theorem Grow.there (g : Grow B F H) {a : Addr} {o : HO} (h : B.H a = some o) : ∃ u, H a = some u := by
  by_cases hf : B.fp a
  · obtain ⟨l, n, ns, h1, _⟩ := g.bag a hf
    exact ⟨_, h1⟩
  · by_cases ho : B.op a
    · obtain ⟨_, _, C, dx, fs, h1⟩ := g.opn a ho
      exact ⟨_, h1⟩
    · exact ⟨o, g.keep a o hf ho h⟩
theorem Grow.new0 (g : Grow B F H) {p : Addr} (hp : H p = none) : B.H p = none := by
  cases e : B.H p with
  | none => rfl
  | some o =>
    obtain ⟨u, q⟩ := g.there e
    rw [hp] at q
    cases q
theorem Grow.opNF (g : Grow B F H) {p : Addr} (h : B.op p) : F p = none := by
  obtain ⟨h1, ⟨o, h2, _⟩, _⟩ := g.opn p h
  exact g.nofr p o h2 h1
theorem Grow.opfp (g : Grow B F H) {p : Addr} (h : B.op p) : ¬ B.fp p := fun z => by
  obtain ⟨_, _, C, dx, fs, h1⟩ := g.opn p h
  obtain ⟨l, n, ns, h2, _⟩ := g.bag p z
  rw [h1] at h2
  cases h2
theorem Grow.bagNF (g : Grow B F H) {b : Addr} (h : B.fp b) : F b = none := by
  obtain ⟨h1, o, h2⟩ := g.fpn b h
  exact g.nofr b o h2 h1
/-- a new frozen object -/
theorem Grow.new (g : Grow B F H) {p : Addr} {o : HO} (hp : H p = none) : Grow B (upd F p o) (upd H p o) := by
  have hF : F p = none := Ex.none g.fh hp
  refine ⟨Ex.upd2 g.fh, fun a u e => upd_some hF (g.bf a u e), fun a u hf ho e => upd_some hp (g.keep a u hf ho e), fun a u e1 e2 => ?_, fun b hb => ?_, g.fpn, fun q hq => ?_, fun P q hq => ?_, g.ivk _ _ (fun a o e _ _ _ => upd_some hp e) g.iv, g.ivk⟩
  · have ha : a ≠ p := fun z => by
      subst z
      rw [g.new0 hp] at e1
      cases e1
    rw [upd_ne ha]
    exact g.nofr a u e1 e2
  · exact (g.bag b hb).mono (Ex.new hF) fun o' e => upd_some hp e
  · obtain ⟨h1, h2, C, dx, fs, h3⟩ := g.opn q hq
    exact ⟨h1, h2, C, dx, fs, upd_some hp h3⟩
  · obtain ⟨t, h1, h2⟩ := g.tab P q hq
    refine ⟨t.ext fun b u e => upd_some hp e, ?_, h2⟩
    obtain ⟨ps, e, _⟩ := t
    rw [upd_ne (ne_of_none e hp)]
    exact h1
/-- a new object of one's own -/
theorem Grow.own (g : Grow B F H) {p : Addr} {o : HO} (hp : H p = none) : Grow B F (upd H p o) :=
  ⟨g.fh.trans (Ex.new hp), g.bf, fun a u hf ho e => upd_some hp (g.keep a u hf ho e), g.nofr, fun b hb => (g.bag b hb).mono (Ex.refl _) fun o' e => upd_some hp e, g.fpn, fun q hq => by
    obtain ⟨h1, h2, C, dx, fs, h3⟩ := g.opn q hq
    exact ⟨h1, h2, C, dx, fs, upd_some hp h3⟩, fun P q hq => ⟨(g.tab P q hq).1.ext fun b u e => upd_some hp e, (g.tab P q hq).2⟩, g.ivk _ _ (fun a o e _ _ _ => upd_some hp e) g.iv, g.ivk⟩
/-- one's own object changes -/
theorem Grow.mut (g : Grow B F H) {l : Addr} {o : HO} {vs : List V} (hl : B.H l = none) (hF : F l = none) (hv : H l = some (.lst vs)) : Grow B F (upd H l o) := by
  refine ⟨Ex.mut g.fh hF, g.bf, fun a u hf ho e => ?_, g.nofr, fun b hb => ?_, g.fpn, fun q hq => ?_, fun P q hq => ⟨tab_keep (g.tab P q hq).1 fun a u e n _ => ?_, (g.tab P q hq).2⟩, g.ivk _ _ (fun a u e n _ _ => by
    have : a ≠ l := fun z => by
      subst z
      rw [hv] at e
      exact n _ (Option.some.inj e).symm
    rw [upd_ne this]
    exact e) g.iv, g.ivk⟩
  · rw [upd_ne (ne_of_none e hl)]
    exact g.keep a u hf ho e
  · obtain ⟨_, o', h2⟩ := g.fpn b hb
    refine (g.bag b hb).mono (Ex.refl _) fun o'' e => ?_
    rw [upd_ne (ne_of_none h2 hl)]
    exact e
  · obtain ⟨h1, ⟨o', h2, h2'⟩, C, dx, fs, h3⟩ := g.opn q hq
    exact ⟨h1, ⟨o', h2, h2'⟩, C, dx, fs, by rw [upd_ne (ne_of_none h2 hl)]; exact h3⟩
  · have : a ≠ l := fun z => by
      subst z
      rw [hv] at e
      exact n _ (Option.some.inj e).symm
    rw [upd_ne this]
    exact e
/-- an object changes -/
theorem Grow.mutO (g : Grow B F H) {p C dx : Addr} {fs fs' : List (Str × V)} (hp : B.op p ∨ B.H p = none) (hF : F p = none) (hH : H p = some (.ins C dx fs)) : Grow B F (upd H p (.ins C dx fs')) := by
  refine ⟨Ex.mut g.fh hF, g.bf, fun a u hf ho e => ?_, g.nofr, fun b hb => ?_, g.fpn, fun q hq => ?_, fun P q hq => ⟨tab_keep (g.tab P q hq).1 fun a u e _ n => ?_, (g.tab P q hq).2⟩, g.ivk _ _ (fun a u e _ n _ => by
    have : a ≠ p := fun z => by
      subst z
      rw [hH] at e
      exact n _ _ _ (Option.some.inj e).symm
    rw [upd_ne this]
    exact e) g.iv, g.ivk⟩
  · have : a ≠ p := fun z => by
      subst z
      rcases hp with hp | hp
      · exact ho hp
      · rw [hp] at e
        cases e
    rw [upd_ne this]
    exact g.keep a u hf ho e
  · refine (g.bag b hb).mono (Ex.refl _) fun o'' e => ?_
    have : b ≠ p := fun z => by
      subst z
      obtain ⟨l, n, ns, h2, _⟩ := g.bag b hb
      rw [hH] at h2
      cases h2
    rw [upd_ne this]
    exact e
  · obtain ⟨h1, h2, C', dx', fs2, h3⟩ := g.opn q hq
    refine ⟨h1, h2, ?_⟩
    by_cases hqp : q = p
    · subst hqp
      exact ⟨_, _, _, upd_same⟩
    · exact ⟨C', dx', fs2, by rw [upd_ne hqp]; exact h3⟩
  · have : a ≠ p := fun z => by
      subst z
      rw [hH] at e
      exact n _ _ _ (Option.some.inj e).symm
    rw [upd_ne this]
    exact e
/-- one's own object is frozen -/
theorem Grow.freeze (g : Grow B F H) {l : Addr} {vs : List V} (hl : B.H l = none) (hF : F l = none) (hH : H l = some (.lst vs)) : Grow B (upd F l (.lst vs)) H := by
  refine ⟨fun a u e => ?_, fun a u e => upd_some hF (g.bf a u e), g.keep, fun a u e1 e2 => ?_, fun b hb => (g.bag b hb).mono (Ex.new hF) fun _ e => e, g.fpn, g.opn, fun P q hq => ?_, g.iv, g.ivk⟩
  · by_cases ha : a = l
    · subst ha
      rw [upd_same] at e
      rw [← e]
      exact hH
    · rw [upd_ne ha] at e
      exact g.fh a u e
  · rw [upd_ne (ne_of_none e1 hl)]
    exact g.nofr a u e1 e2
  · obtain ⟨t, h1, h2⟩ := g.tab P q hq
    refine ⟨t, ?_, h2⟩
    obtain ⟨ps, e, _⟩ := t
    have : P ≠ l := fun z => by
      subst z
      rw [hH] at e
      cases e
    rw [upd_ne this]
    exact h1
/-- a call's growth upon the caller's -/
theorem Grow.callO (g : Grow B F H) {op : Addr → Prop} (ho : ∀ p, op p → B.op p ∨ B.H p = none) (c : Grow ⟨H, F, B.fp, op, noT, yesI⟩ F' H') : Grow B F' H' :=
  ⟨c.fh, g.bf.trans c.bf, fun a o hf hn e => c.keep a o hf (fun z => by
      rcases ho a z with z | z
      · exact hn z
      · rw [z] at e
        cases e) (g.keep a o hf hn e), fun a o e1 e2 => by
    obtain ⟨u, hu⟩ := g.there e1
    exact c.nofr a u hu (g.nofr a o e1 e2), c.bag, g.fpn, fun p hp => by
    obtain ⟨h1, h2, C, dx, fs, h3⟩ := g.opn p hp
    refine ⟨h1, h2, ?_⟩
    by_cases hq : op p
    · exact (c.opn p hq).2.2
    · exact ⟨C, dx, fs, c.keep p _ (g.opfp hp) hq h3⟩, fun P q hq => by
    obtain ⟨t, h1, h2⟩ := g.tab P q hq
    refine ⟨tab_keep t fun a o e n1 n2 => c.keep a o (fun z => ?_) (fun z => ?_) e, ?_, h2⟩
    · obtain ⟨l, n, ns, e2, _⟩ := g.bag a z
      rw [e2] at e
      exact n1 _ (Option.some.inj e).symm
    · obtain ⟨_, ⟨o', e2, C, dx, fs, rfl⟩, _⟩ := c.opn a z
      rw [show H a = some _ from e2] at e
      exact n2 _ _ _ (Option.some.inj e).symm
    · obtain ⟨ps, e, _⟩ := t
      exact c.nofr P _ e h1, g.ivk H H' (fun a o (e : H a = some o) n1 n2 _ => c.keep a o (fun z => by
      obtain ⟨l, n, ns, e2, _⟩ := g.bag a z
      rw [e2] at e
      exact n1 _ (Option.some.inj e).symm) (fun z => by
      obtain ⟨_, ⟨o', e2, C, dx, fs, rfl⟩, _⟩ := c.opn a z
      rw [show H a = some _ from e2] at e
      exact n2 _ _ _ (Option.some.inj e).symm) e) g.iv, g.ivk⟩
theorem Grow.call (g : Grow B F H) (c : Grow (mkB H F B.fp) F' H') : Grow B F' H' := g.callO (fun _ z => z.elim) c
theorem Grow.startO (e : Ex F H) {fp op : Addr → Prop} (hb : ∀ b, fp b → F b = none ∧ BagAt F H b) (ho : ∀ p, op p → F p = none ∧ ∃ C dx fs, H p = some (.ins C dx fs)) : Grow ⟨H, F, fp, op, noT, yesI⟩ F H :=
  ⟨e, Ex.refl F, fun _ _ _ _ h => h, fun _ _ _ h => h, fun b h => (hb b h).2, fun b h => ⟨(hb b h).1, by
    obtain ⟨l, n, ns, h1, _⟩ := (hb b h).2
    exact ⟨_, h1⟩⟩, fun p h => ⟨(ho p h).1, by
    obtain ⟨C, dx, fs, h1⟩ := (ho p h).2
    exact ⟨_, h1, C, dx, fs, rfl⟩, (ho p h).2⟩, fun _ _ z => z.elim, trivial, fun _ _ _ _ => trivial⟩
theorem Grow.start (e : Ex F H) {fp : Addr → Prop} (hb : ∀ b, fp b → F b = none ∧ BagAt F H b) : Grow (mkB H F fp) F H := Grow.startO e hb fun _ z => z.elim
end

/-- nothing, or one new frozen object -/
def Gro (F H F' H' : Hp) : Prop := (F' = F ∧ H' = H) ∨ ∃ p o, H p = none ∧ F' = upd F p o ∧ H' = upd H p o
theorem Gro.refl {F H : Hp} : Gro F H F H := .inl ⟨rfl, rfl⟩
theorem Gro.new {F H : Hp} {p : Addr} {o : HO} (h : H p = none) : Gro F H (upd F p o) (upd H p o) := .inr ⟨p, o, h, rfl, rfl⟩
theorem Gro.ex {F H F' H' : Hp} (e : Ex F H) (g : Gro F H F' H') : Ex F F' := by
  rcases g with ⟨rfl, rfl⟩ | ⟨p, o, hp, rfl, rfl⟩
  · exact Ex.refl _
  · exact Ex.new (Ex.none e hp)
theorem Gro.exh {F H F' H' : Hp} (g : Gro F H F' H') : Ex H H' := by
  rcases g with ⟨rfl, rfl⟩ | ⟨p, o, hp, rfl, rfl⟩
  · exact Ex.refl _
  · exact Ex.new hp
theorem Gro.fh {F H F' H' : Hp} (e : Ex F H) (g : Gro F H F' H') : Ex F' H' := by
  rcases g with ⟨rfl, rfl⟩ | ⟨p, o, hp, rfl, rfl⟩
  · exact e
  · exact Ex.upd2 e

/-! ### slots -/
inductive SV where
  | dat (d : PyData) | own (ds : List PyData) | bag | obj (C p : Addr) (fs : List (Str × PyData)) | tab (P : Addr) (q : Str) | raw (v : V)
/-- the fields' values -/
inductive FlOk (F : Hp) : List (Str × V) → List (Str × PyData) → Prop
  | nil : FlOk F [] []
  | cons {x : Str} {v : V} {d : PyData} {fv : List (Str × V)} {fs : List (Str × PyData)} : Dt F v d → FlOk F fv fs → FlOk F ((x, v) :: fv) ((x, d) :: fs)
theorem FlOk.up {F F' : Hp} (e : Ex F F') : ∀ {fv : List (Str × V)} {fs : List (Str × PyData)}, FlOk F fv fs → FlOk F' fv fs
  | _, _, .nil => .nil
  | _, _, .cons r t => .cons (r.up e) (FlOk.up e t)
abbrev Denv := List (Option SV)

def SOk (B : Bs) (F H : Hp) (v : V) : SV → Prop
  | .dat d => Dt F v d
  | .own ds => ∃ l vs, v = .ref l ∧ B.H l = none ∧ F l = none ∧ H l = some (.lst vs) ∧ DtA F vs ds
  | .bag => ∃ b, v = .ref b ∧ B.fp b
  | .obj C p fs => v = .ref p ∧ (B.op p ∨ B.H p = none) ∧ F p = none ∧ ∃ dx fv, H p = some (.ins C dx fv) ∧ FlOk F fv fs
  | .tab P q => B.tb P q ∧ ∀ r, B.tb P r → r = q
  | .raw u => v = u

structure Den (B : Bs) (F H : Hp) (σ : St) (env : Denv) : Prop where
  g : Grow B F H
  len : env.length = σ.length
  slot : ∀ (i : Nat) sv, env[i]? = some (some sv) → ∃ v, σ[i]? = some (some v) ∧ SOk B F H v sv
  sep : ∀ (i j : Nat) ds es l, env[i]? = some (some (.own ds)) → env[j]? = some (some (.own es)) → σ[i]? = some (some (V.ref l)) → σ[j]? = some (some (V.ref l)) → i = j
  sepO : ∀ (i j : Nat) C C' p fs gs, env[i]? = some (some (.obj C p fs)) → env[j]? = some (some (.obj C' p gs)) → i = j

section
variable {B : Bs} {F H F' H' : Hp} {σ : St} {env : Denv}
theorem SOk.grow {v : V} : ∀ {sv : SV}, SOk B F H v sv → Ex F F' → (∀ a o, H a = some o → F a = none → (B.H a = none ∨ B.op a) → H' a = some o ∧ F' a = none) → SOk B F' H' v sv
  | .dat d, h, e, _ => Dt.up h e
  | .own ds, ⟨l, vs, h1, h2, h3, h4, h5⟩, e, k => ⟨l, vs, h1, h2, (k l _ h4 h3 (.inl h2)).2, (k l _ h4 h3 (.inl h2)).1, h5.up e⟩
  | .bag, h, _, _ => h
  | .tab _ _, h, _, _ => h
  | .raw _, h, _, _ => h
  | .obj C p fs, ⟨h1, h2, h3, dx, fv, h4, h5⟩, e, k => ⟨h1, h2, (k p _ h4 h3 h2.symm).2, dx, fv, (k p _ h4 h3 h2.symm).1, h5.up e⟩
/-- the heap has grown, nothing of the frame's own has changed -/
theorem Den.grow (n : Den B F H σ env) (g : Grow B F' H') (e : Ex F F') (k : ∀ a o, H a = some o → F a = none → (B.H a = none ∨ B.op a) → H' a = some o ∧ F' a = none) : Den B F' H' σ env :=
  ⟨g, n.len, fun i sv h => by
    obtain ⟨v, h1, h2⟩ := n.slot i sv h
    exact ⟨v, h1, h2.grow e k⟩, n.sep, n.sepO⟩
theorem Den.gro (n : Den B F H σ env) (g : Gro F H F' H') : Den B F' H' σ env := by
  rcases g with ⟨rfl, rfl⟩ | ⟨p, o, hp, rfl, rfl⟩
  · exact n
  · refine n.grow (n.g.new hp) (Ex.new (Ex.none n.g.fh hp)) fun a u h1 h2 _ => ⟨upd_some hp h1, ?_⟩
    rw [upd_ne (ne_of_none h1 hp)]
    exact h2
/-- behind a call -/
theorem Den.nfp (n : Grow B F H) {a : Addr} (h : B.H a = none ∨ B.op a) : ¬ B.fp a := fun z => by
  rcases h with h | h
  · obtain ⟨_, u, q⟩ := n.fpn a z
    rw [h] at q
    cases q
  · exact n.opfp h z
theorem Den.call (n : Den B F H σ env) (c : Grow (mkB H F B.fp) F' H') : Den B F' H' σ env :=
  n.grow (n.g.call c) c.bf fun a o h1 h2 h3 => ⟨c.keep a o (Den.nfp n.g h3) (fun z => z) h1, c.nofr a o h1 h2⟩
theorem get_set {α : Type} {l : List (Option α)} {i j : Nat} {x y : α} (h : (l.set i (some x))[j]? = some (some y)) : (i = j ∧ i < l.length ∧ x = y) ∨ (i ≠ j ∧ l[j]? = some (some y)) := by
  by_cases hij : i = j
  · subst hij
    by_cases hl : i < l.length
    · rw [List.getElem?_set_self hl] at h
      exact .inl ⟨rfl, hl, by cases h; rfl⟩
    · rw [List.set_eq_of_length_le (by omega)] at h
      rw [List.getElem?_eq_none (by omega)] at h
      cases h
  · rw [List.getElem?_set_ne hij] at h
    exact .inr ⟨hij, h⟩
theorem Den.setD (n : Den B F H σ env) {i : Nat} {v : V} {d : PyData} (h : Dt F v d) : Den B F H (σ.set i (some v)) (env.set i (some (.dat d))) := by
  refine ⟨n.g, by rw [List.length_set, List.length_set, n.len], fun j sv hj => ?_, fun j k ds es l h1 h2 h3 h4 => ?_, fun j k C C' p fs gs h1 h2 => ?_⟩
  · rcases get_set hj with ⟨rfl, hl, rfl⟩ | ⟨hij, hj⟩
    · exact ⟨v, by rw [List.getElem?_set_self (by rw [← n.len]; exact hl)], h⟩
    · obtain ⟨u, h1, h2⟩ := n.slot j sv hj
      exact ⟨u, by rw [List.getElem?_set_ne hij]; exact h1, h2⟩
  · rcases get_set h1 with ⟨_, _, z⟩ | ⟨hij, h1⟩
    · cases z
    · rcases get_set h2 with ⟨_, _, z⟩ | ⟨hik, h2⟩
      · cases z
      · rw [List.getElem?_set_ne hij] at h3
        rw [List.getElem?_set_ne hik] at h4
        exact n.sep j k ds es l h1 h2 h3 h4
  · rcases get_set h1 with ⟨_, _, z⟩ | ⟨_, h1⟩
    · cases z
    · rcases get_set h2 with ⟨_, _, z⟩ | ⟨_, h2⟩
      · cases z
      · exact n.sepO j k C C' p fs gs h1 h2
/-- a new list of the frame's own -/
structure Fresh (B : Bs) (F H : Hp) (σ : St) (env : Denv) (l : Addr) (vs : List V) (ds : List PyData) : Prop where
  b : B.H l = none
  f : F l = none
  h : H l = some (.lst vs)
  d : DtA F vs ds
  ne : ∀ (i : Nat) es, env[i]? = some (some (.own es)) → σ[i]? ≠ some (some (V.ref l))
theorem Fresh.of (n : Den B F H σ env) {l : Addr} {vs : List V} {ds : List PyData} (hl : H l = none) (h : DtA F vs ds) : Fresh B F (upd H l (.lst vs)) σ env l vs ds ∧ Den B F (upd H l (.lst vs)) σ env := by
  refine ⟨⟨n.g.new0 hl, Ex.none n.g.fh hl, upd_same, h, fun i es e z => ?_⟩, n.grow (n.g.own hl) (Ex.refl _) fun a o h1 h2 _ => ⟨upd_some hl h1, h2⟩⟩
  obtain ⟨v, h1, l', vs', h2, _, _, h4, _⟩ := n.slot i _ e
  rw [h2, z] at h1
  cases h1
  rw [hl] at h4
  cases h4
theorem Den.setN (n : Den B F H σ env) {i : Nat} {l : Addr} {vs : List V} {ds : List PyData} (h : Fresh B F H σ env l vs ds) : Den B F H (σ.set i (some (.ref l))) (env.set i (some (.own ds))) := by
  refine ⟨n.g, by rw [List.length_set, List.length_set, n.len], fun j sv hj => ?_, fun j k es es' a h1 h2 h3 h4 => ?_, fun j k C C' p fs gs h1 h2 => ?_⟩
  · rcases get_set hj with ⟨rfl, hl, rfl⟩ | ⟨hij, hj⟩
    · exact ⟨.ref l, by rw [List.getElem?_set_self (by rw [← n.len]; exact hl)], l, vs, rfl, h.b, h.f, h.h, h.d⟩
    · obtain ⟨u, h1, h2⟩ := n.slot j sv hj
      exact ⟨u, by rw [List.getElem?_set_ne hij]; exact h1, h2⟩
  · rcases get_set h1 with ⟨e1, _, _⟩ | ⟨hij, h1⟩ <;> rcases get_set h2 with ⟨e2, _, _⟩ | ⟨hik, h2⟩
    · exact e1.symm.trans e2
    · rcases get_set h3 with ⟨_, _, z⟩ | ⟨z, _⟩
      · cases z
        rw [List.getElem?_set_ne hik] at h4
        exact absurd h4 (h.ne k _ h2)
      · exact absurd e1 z
    · rcases get_set h4 with ⟨_, _, z⟩ | ⟨z, _⟩
      · cases z
        rw [List.getElem?_set_ne hij] at h3
        exact absurd h3 (h.ne j _ h1)
      · exact absurd e2 z
    · rw [List.getElem?_set_ne hij] at h3
      rw [List.getElem?_set_ne hik] at h4
      exact n.sep j k _ _ a h1 h2 h3 h4
  · rcases get_set h1 with ⟨_, _, z⟩ | ⟨_, h1⟩
    · cases z
    · rcases get_set h2 with ⟨_, _, z⟩ | ⟨_, h2⟩
      · cases z
      · exact n.sepO j k C C' p fs gs h1 h2
/-- a new list is frozen -/
theorem Fresh.freeze (n : Den B F H σ env) {l : Addr} {vs : List V} {ds : List PyData} (h : Fresh B F H σ env l vs ds) :
    Den B (upd F l (.lst vs)) H σ env ∧ Ex F (upd F l (.lst vs)) ∧ Dt (upd F l (.lst vs)) (.ref l) (.list ds) := by
  refine ⟨⟨n.g.freeze h.b h.f h.h, n.len, fun i sv hi => ?_, n.sep, n.sepO⟩, Ex.new h.f, .lst upd_same (h.d.up (Ex.new h.f))⟩
  obtain ⟨v, h1, h2⟩ := n.slot i sv hi
  refine ⟨v, h1, ?_⟩
  cases sv with
  | dat d => exact Dt.up h2 (Ex.new h.f)
  | bag => exact h2
  | tab P q => exact h2
  | raw u => exact h2
  | obj C p fs =>
    obtain ⟨e1, e2, e3, dx, fv, e4, e5⟩ := h2
    refine ⟨e1, e2, ?_, dx, fv, e4, e5.up (Ex.new h.f)⟩
    have : p ≠ l := fun z => by
      subst z
      rw [h.h] at e4
      cases e4
    rw [upd_ne this]
    exact e3
  | own es =>
    obtain ⟨a, ws, e1, e2, e3, e4, e5⟩ := h2
    refine ⟨a, ws, e1, e2, ?_, e4, e5.up (Ex.new h.f)⟩
    have : a ≠ l := fun z => by
      subst z
      subst e1
      exact h.ne i es hi h1
    rw [upd_ne this]
    exact e3
/-- the own list in slot i -/
theorem Den.own (n : Den B F H σ env) {i : Nat} {ds : List PyData} (h : env[i]? = some (some (.own ds))) : ∃ l vs, σ[i]? = some (some (.ref l)) ∧ B.H l = none ∧ F l = none ∧ H l = some (.lst vs) ∧ DtA F vs ds := by
  obtain ⟨v, h1, l, vs, rfl, r⟩ := n.slot i _ h
  exact ⟨l, vs, h1, r⟩
/-- the own list in slot i changes -/
theorem Den.mut (n : Den B F H σ env) {i : Nat} {ds es : List PyData} {l : Addr} {ws : List V} (h : env[i]? = some (some (.own ds))) (hs : σ[i]? = some (some (.ref l))) (hd : DtA F ws es) :
    Den B F (upd H l (.lst ws)) σ (env.set i (some (.own es))) := by
  obtain ⟨l', vs, h1, h2, h3, h4, h5⟩ := n.own h
  rw [hs] at h1
  cases h1
  have hi : i < env.length := (List.getElem?_eq_some_iff.mp h).1
  refine ⟨n.g.mut h2 h3 h4, by rw [List.length_set, n.len], fun j sv hj => ?_, fun j k e1 e2 a q1 q2 q3 q4 => ?_, fun j k C C' p fs gs q1 q2 => ?_⟩
  · rcases get_set hj with ⟨rfl, _, rfl⟩ | ⟨hij, hj⟩
    · exact ⟨_, hs, l, ws, rfl, h2, h3, upd_same, hd⟩
    · obtain ⟨v, p1, p2⟩ := n.slot j sv hj
      refine ⟨v, p1, ?_⟩
      cases sv with
      | dat d => exact p2
      | bag => exact p2
      | tab P q => exact p2
      | raw u => exact p2
      | obj C p fs =>
        obtain ⟨r1, r2, r3, dx, fv, r4, r5⟩ := p2
        refine ⟨r1, r2, r3, dx, fv, ?_, r5⟩
        have : p ≠ l := fun z => by
          subst z
          rw [h4] at r4
          cases r4
        rw [upd_ne this]
        exact r4
      | own e =>
        obtain ⟨a, us, r1, r2, r3, r4, r5⟩ := p2
        refine ⟨a, us, r1, r2, r3, ?_, r5⟩
        have : a ≠ l := fun z => by
          subst z
          subst r1
          exact hij (n.sep i j _ _ _ h hj hs p1)
        rw [upd_ne this]
        exact r4
  · have back : ∀ (j : Nat) (e : List PyData), (env.set i (some (SV.own es)))[j]? = some (some (.own e)) → ∃ e', env[j]? = some (some (.own e')) := fun j e q => by
      rcases get_set q with ⟨rfl, _, _⟩ | ⟨_, q⟩
      · exact ⟨_, h⟩
      · exact ⟨_, q⟩
    obtain ⟨_, q1⟩ := back j _ q1
    obtain ⟨_, q2⟩ := back k _ q2
    exact n.sep j k _ _ a q1 q2 q3 q4
  · rcases get_set q1 with ⟨_, _, z⟩ | ⟨_, q1⟩
    · cases z
    · rcases get_set q2 with ⟨_, _, z⟩ | ⟨_, q2⟩
      · cases z
      · exact n.sepO j k C C' p fs gs q1 q2
/-- the own list in slot i is frozen -/
theorem Den.freeze (n : Den B F H σ env) {i : Nat} {ds : List PyData} (h : env[i]? = some (some (.own ds))) : ∃ F', Ex F F' ∧ Den B F' H σ (env.set i (some (.dat (.list ds)))) := by
  obtain ⟨l, vs, h1, h2, h3, h4, h5⟩ := n.own h
  refine ⟨upd F l (.lst vs), Ex.new h3, n.g.freeze h2 h3 h4, by rw [List.length_set, n.len], fun j sv hj => ?_, fun j k e1 e2 a q1 q2 q3 q4 => ?_, fun j k C C' p fs gs q1 q2 => ?_⟩
  · rcases get_set hj with ⟨rfl, _, rfl⟩ | ⟨hij, hj⟩
    · exact ⟨_, h1, .lst upd_same (h5.up (Ex.new h3))⟩
    · obtain ⟨v, p1, p2⟩ := n.slot j sv hj
      refine ⟨v, p1, ?_⟩
      cases sv with
      | dat d => exact Dt.up p2 (Ex.new h3)
      | bag => exact p2
      | tab P q => exact p2
      | raw u => exact p2
      | obj C p fs =>
        obtain ⟨r1, r2, r3, dx, fv, r4, r5⟩ := p2
        refine ⟨r1, r2, ?_, dx, fv, r4, r5.up (Ex.new h3)⟩
        have : p ≠ l := fun z => by
          subst z
          rw [h4] at r4
          cases r4
        rw [upd_ne this]
        exact r3
      | own e =>
        obtain ⟨a, us, r1, r2, r3, r4, r5⟩ := p2
        refine ⟨a, us, r1, r2, ?_, r4, r5.up (Ex.new h3)⟩
        have : a ≠ l := fun z => by
          subst z
          subst r1
          exact hij (n.sep i j _ _ _ h hj h1 p1)
        rw [upd_ne this]
        exact r3
  · rcases get_set q1 with ⟨_, _, z⟩ | ⟨_, q1⟩
    · cases z
    · rcases get_set q2 with ⟨_, _, z⟩ | ⟨_, q2⟩
      · cases z
      · exact n.sep j k _ _ a q1 q2 q3 q4
  · rcases get_set q1 with ⟨_, _, z⟩ | ⟨_, q1⟩
    · cases z
    · rcases get_set q2 with ⟨_, _, z⟩ | ⟨_, q2⟩
      · cases z
      · exact n.sepO j k C C' p fs gs q1 q2
/-- slots forgotten -/
theorem Den.forget (n : Den B F H σ env) {σ' : St} {env' : Denv} (hl : env'.length = σ'.length) (h : ∀ (i : Nat) sv, env'[i]? = some (some sv) → env[i]? = some (some sv) ∧ σ'[i]? = σ[i]?) : Den B F H σ' env' :=
  ⟨n.g, hl, fun i sv hi => by
    obtain ⟨h1, h2⟩ := h i sv hi
    obtain ⟨v, p, q⟩ := n.slot i sv h1
    exact ⟨v, by rw [h2]; exact p, q⟩, fun i j ds es l h1 h2 h3 h4 => by
    obtain ⟨a1, a2⟩ := h i _ h1
    obtain ⟨b1, b2⟩ := h j _ h2
    rw [a2] at h3
    rw [b2] at h4
    exact n.sep i j ds es l a1 b1 h3 h4, fun i j C C' p fs gs h1 h2 => n.sepO i j C C' p fs gs (h i _ h1).1 (h j _ h2).1⟩
end

/-! ### what may be read: frozen data, or an own list of frozen things -/
def Rb (F H : Hp) (v : V) (d : PyData) : Prop := Dt F v d ∨ ∃ l vs ds, v = V.ref l ∧ d = .list ds ∧ H l = some (.lst vs) ∧ DtA F vs ds
def VOk (σ : St) (env : Denv) (F : Hp) (v : V) (d : PyData) : Prop := Dt F v d ∨ ∃ (i : Nat) (ds : List PyData), env[i]? = some (some (.own ds)) ∧ σ[i]? = some (some v) ∧ d = .list ds
theorem VOk.up {σ : St} {env : Denv} {F F' : Hp} {v : V} {d : PyData} (h : VOk σ env F v d) (e : Ex F F') : VOk σ env F' v d := by
  rcases h with h | h
  · exact .inl (h.up e)
  · exact .inr h
theorem VOk.rb {B : Bs} {F H : Hp} {σ : St} {env : Denv} {v : V} {d : PyData} (h : VOk σ env F v d) (n : Den B F H σ env) : Rb F H v d := by
  rcases h with h | ⟨i, ds, h1, h2, rfl⟩
  · exact .inl h
  · obtain ⟨l, vs, p1, _, _, p4, p5⟩ := n.own h1
    rw [h2] at p1
    cases p1
    exact .inr ⟨l, vs, ds, rfl, rfl, p4, p5⟩
section
variable {F H : Hp} {v : V} {d : PyData}
theorem Rb.dt (h : Rb F H v d) (e : Ex F H) : Dt H v d := by
  rcases h with h | ⟨l, vs, ds, rfl, rfl, h1, h2⟩
  · exact h.up e
  · exact .lst h1 (h2.up e)
theorem Rb.int {i : Int} (h : Rb F H v (.int i)) : v = .int i := by
  rcases h with h | ⟨l, vs, ds, _, h, _⟩
  · cases h; rfl
  · cases h
theorem Rb.bool {i : Bool} (h : Rb F H v (.bool i)) : v = .bl i := by
  rcases h with h | ⟨l, vs, ds, _, h, _⟩
  · cases h; rfl
  · cases h
theorem Rb.none (h : Rb F H v .none) : v = .non := by
  rcases h with h | ⟨l, vs, ds, _, h, _⟩
  · cases h; rfl
  · cases h
theorem Rb.str {x : Str} (h : Rb F H v (.str x)) : v = .str x := by
  rcases h with h | ⟨l, vs, ds, _, h, _⟩
  · cases h; rfl
  · cases h
theorem Rb.list {ds : List PyData} (h : Rb F H v (.list ds)) (e : Ex F H) : ∃ l vs, v = .ref l ∧ H l = some (.lst vs) ∧ DtA F vs ds := by
  rcases h with h | ⟨l, vs, ds, rfl, h, h1, h2⟩
  · cases h with
    | lst h1 h2 => exact ⟨_, _, rfl, e _ _ h1, h2⟩
  · cases h
    exact ⟨l, vs, rfl, h1, h2⟩
theorem Rb.tuple {ds : List PyData} (h : Rb F H v (.tuple ds)) : ∃ l vs, v = .ref l ∧ F l = some (.tup vs) ∧ DtA F vs ds := by
  rcases h with h | ⟨l, vs, ds, _, h, _⟩
  · cases h with
    | tup h1 h2 => exact ⟨_, _, rfl, h1, h2⟩
  · cases h
end
end Pd

set_option maxRecDepth 100000
set_option maxHeartbeats 4000000
namespace Pd
open PySem L2
open Evl (Ex)

/-! ### judgements: the hand layer's term and reading, and the reading over plain data -/
abbrev DE := Denv → (PyData → Prop) → Prop
abbrev DN := Denv → (List PyData → Prop) → Prop
abbrev DT := Denv → (Bool → Prop) → Prop

/-- the value is frozen data -/
def Sd (te : TE) (t : DE) : Prop := ∀ B F H σ env Q Qv, Den B F H σ env → t env Q → (∀ v d F' H', Q d → Ex F F' → Den B F' H' σ env → Dt F' v d → Qv v H') → te σ H Qv
/-- .. is to be read -/
def Sr (te : TE) (t : DE) : Prop := ∀ B F H σ env Q Qv, Den B F H σ env → t env Q → (∀ v d F' H', Q d → Ex F F' → Den B F' H' σ env → VOk σ env F' v d → Qv v H') → te σ H Qv
/-- .. is a new list -/
def Sn (te : TE) (t : DN) : Prop := ∀ B F H σ env Q Qv, Den B F H σ env → t env Q → (∀ l vs ds F' H', Q ds → Ex F F' → Den B F' H' σ env → Fresh B F' H' σ env l vs ds → Qv (.ref l) H') → te σ H Qv
def St' (tt : TT) (t : DT) : Prop := ∀ B F H σ env Q Qv, Den B F H σ env → t env Q → (∀ b F' H', Q b → Ex F F' → Den B F' H' σ env → Qv b H') → tt σ H Qv
/-- a list of values that are read -/
def Sa (ta : TA) (t : DN) : Prop := ∀ B F H σ env Q Qv, Den B F H σ env → t env Q → (∀ vs ds F' H', Q ds → Ex F F' → Den B F' H' σ env → (Paired (VOk σ env F') vs ds) → Qv vs H') → ta σ H Qv
/-- .. of frozen values -/
def Sf (ta : TA) (t : DN) : Prop := ∀ B F H σ env Q Qv, Den B F H σ env → t env Q → (∀ vs ds F' H', Q ds → Ex F F' → Den B F' H' σ env → DtA F' vs ds → Qv vs H') → ta σ H Qv

structure PEd (X : Cx) (e : Expr) (te : TE) (t : DE) : Prop where
  pe : PE X e te
  s : Sd te t
structure PEr (X : Cx) (e : Expr) (te : TE) (t : DE) : Prop where
  pe : PE X e te
  s : Sr te t
structure PEn (X : Cx) (e : Expr) (te : TE) (t : DN) : Prop where
  pe : PE X e te
  s : Sn te t
structure PTd (X : Cx) (e : Expr) (tt : TT) (t : DT) : Prop where
  pt : PT X e tt
  s : St' tt t
structure PWd (X : Cx) (e : Expr) (tt : TT) (t : DT) : Prop where
  pw : PW X e tt
  s : St' tt t
structure PAr (X : Cx) (es : List Expr) (ta : TA) (t : DN) : Prop where
  pa : PA X es ta
  s : Sa ta t
structure PAf (X : Cx) (es : List Expr) (ta : TA) (t : DN) : Prop where
  pa : PA X es ta
  s : Sf ta t

section
variable {X : Cx} {a b c e : Expr} {es : List Expr} {ta tb te tc : TE} {tA tB' : TT} {da db dc dd : DE} {dn : DN} {dt du : DT} {pos : Pos}

theorem PEd.r (h : PEd X e te dd) : PEr X e te dd := ⟨h.pe, fun B F H σ env Q Qv n q k => h.s B F H σ env Q Qv n q fun v d F' H' q' e' n' r => k v d F' H' q' e' n' (.inl r)⟩
/-- a new list, frozen -/
def dFr (t : DN) : DE := fun env Q => t env fun ds => Q (.list ds)
theorem PEn.d (h : PEn X e te dn) : PEd X e te (dFr dn) := ⟨h.pe, fun B F H σ env Q Qv n q k => h.s B F H σ env _ Qv n q fun l vs ds F' H' q' e' n' r => by
  obtain ⟨n2, e2, d2⟩ := r.freeze n'
  exact k _ _ _ _ q' (e'.trans e2) n2 d2⟩
theorem PEn.r (h : PEn X e te dn) : PEr X e te (dFr dn) := h.d.r

/-! ### names, constants -/
def dVar (i : Nat) : DE := fun env Q => ∃ d, env[i]? = some (some (.dat d)) ∧ Q d
def dOwn (i : Nat) : DE := fun env Q => ∃ ds, env[i]? = some (some (.own ds)) ∧ Q (.list ds)
def dC (d : PyData) : DE := fun _ Q => Q d
theorem ped_var (i : Nat) {x : Str} (h : PE X (.Name x pos) (tVar i)) : PEd X (.Name x pos) (tVar i) (dVar i) := ⟨h, fun B F H σ env Q Qv n q k => by
  obtain ⟨d, h1, q⟩ := q
  obtain ⟨v, h2, h3⟩ := n.slot i _ h1
  exact ⟨v, h2, k v d F H q (Ex.refl F) n h3⟩⟩
theorem per_own (i : Nat) {x : Str} (h : PE X (.Name x pos) (tVar i)) : PEr X (.Name x pos) (tVar i) (dOwn i) := ⟨h, fun B F H σ env Q Qv n q k => by
  obtain ⟨ds, h1, q⟩ := q
  obtain ⟨v, h2, h3⟩ := n.slot i _ h1
  exact ⟨v, h2, k v _ F H q (Ex.refl F) n (.inr ⟨i, ds, h1, h2, rfl⟩)⟩⟩
theorem ped_c {v : V} {d : PyData} (h : PE X e (tC v)) (hd : ∀ F, Dt F v d) : PEd X e (tC v) (dC d) := ⟨h, fun B F H σ env Q Qv n q k => k v d F H q (Ex.refl F) n (hd F)⟩
theorem ped_int {i : Int} {j} : PEd X (.Constant (.int i) j pos) (tC (.int i)) (dC (.int i)) := ped_c pe_int fun F => .int i
theorem ped_bool {i : Bool} {j} : PEd X (.Constant (.bool i) j pos) (tC (.bl i)) (dC (.bool i)) := ped_c pe_bl fun F => .bl i
theorem ped_none {j} : PEd X (.Constant .none j pos) (tC .non) (dC .none) := ped_c pe_non fun F => .non
theorem ped_str {x : Str} {j} : PEd X (.Constant (.str x) j pos) (tC (.str x)) (dC (.str x)) := ped_c pe_str fun F => .str x
theorem ped_globI {x : Str} {i : Int} {u : Value} (hg : Gl X x) (hm : X.mg x = some u) (r : RelV (.int i) u) (hd : (x == ("__debug__" : Str)) = false := by decide) : PEd X (.Name x pos) (tC (.int i)) (dC (.int i)) := ped_c (pe_glob hg hm r hd) fun F => .int i

/-! ### operators -/
def OpD (r : R2) (o : PyData → PyData → (PyData → Prop) → Prop) : Prop := ∀ F H x y d e (Q : PyData → Prop) (Qv : VK), Ex F H → Rb F H x d → Rb F H y e → o d e Q → (∀ z f F' H', Q f → Gro F H F' H' → Dt F' z f → Qv z H') → r x y H Qv
def OpN (r : R2) (o : PyData → PyData → (List PyData → Prop) → Prop) : Prop := ∀ F H x y d e (Q : List PyData → Prop) (Qv : VK), Ex F H → Rb F H x d → Rb F H y e → o d e Q → (∀ p vs ds, Q ds → H p = none → DtA F vs ds → Qv (.ref p) (upd H p (.lst vs))) → r x y H Qv
def d2 (o : PyData → PyData → (PyData → Prop) → Prop) (da db : DE) : DE := fun env Q => da env fun x => db env fun y => o x y Q
def n2 (o : PyData → PyData → (List PyData → Prop) → Prop) (da db : DE) : DN := fun env Q => da env fun x => db env fun y => o x y Q
theorem sd_op {r : R2} {o : PyData → PyData → (PyData → Prop) → Prop} (hd : OpD r o) (ha : Sr ta da) (hb : Sr tb db) : Sd (tOp r ta tb) (d2 o da db) := fun B F H σ env Q Qv n q k =>
  ha B F H σ env _ _ n q fun v d F1 H1 q1 e1 n1 r1 => hb B F1 H1 σ env _ _ n1 q1 fun w f F2 H2 q2 e2 n2 r2 =>
    hd F2 H2 v w d f Q Qv n2.g.fh ((r1.up e2).rb n2) (r2.rb n2) q2 fun z f F' H' q' g' t' => k z f F' H' q' ((e1.trans e2).trans (g'.ex n2.g.fh)) (n2.gro g') t'
theorem sn_op {r : R2} {o : PyData → PyData → (List PyData → Prop) → Prop} (hd : OpN r o) (ha : Sr ta da) (hb : Sr tb db) : Sn (tOp r ta tb) (n2 o da db) := fun B F H σ env Q Qv n q k =>
  ha B F H σ env _ _ n q fun v d F1 H1 q1 e1 n1 r1 => hb B F1 H1 σ env _ _ n1 q1 fun w f F2 H2 q2 e2 n2 r2 =>
    hd F2 H2 v w d f Q Qv n2.g.fh ((r1.up e2).rb n2) (r2.rb n2) q2 fun p vs ds q' hp t' => by
      obtain ⟨f1, f2⟩ := Fresh.of n2 hp t'
      exact k p vs ds F2 _ q' (e1.trans e2) f2 f1
theorem ped_op {op : Operator} {r : R2} {o : PyData → PyData → (PyData → Prop) → Prop} (ho : OpR X (binaryOp op) r) (hd : OpD r o) (ha : PEr X a ta da) (hb : PEr X b tb db) : PEd X (.BinOp a op b pos) (tOp r ta tb) (d2 o da db) := ⟨pe_op ho ha.pe hb.pe, sd_op hd ha.s hb.s⟩
theorem pen_op {op : Operator} {r : R2} {o : PyData → PyData → (List PyData → Prop) → Prop} (ho : OpR X (binaryOp op) r) (hd : OpN r o) (ha : PEr X a ta da) (hb : PEr X b tb db) : PEn X (.BinOp a op b pos) (tOp r ta tb) (n2 o da db) := ⟨pe_op ho ha.pe hb.pe, sn_op hd ha.s hb.s⟩
theorem ped_cmp {op : CmpOp} {r : R2} {o : PyData → PyData → (PyData → Prop) → Prop} (ho : OpR X (compareOp op) r) (hd : OpD r o) (ha : PEr X a ta da) (hb : PEr X b tb db) (hm : behindInMarks op b = false := by rfl) : PEd X (.Compare a [op] [b] pos) (tOp r ta tb) (d2 o da db) := ⟨pe_cmpR ho ha.pe hb.pe hm, sd_op hd ha.s hb.s⟩
/-- a value as a test -/
def dTest (t : DE) : DT := fun env Q => t env fun d => ∃ k, d = .bool k ∧ Q k
theorem st_test (h : Sd te dd) : St' (tTest te) (dTest dd) := fun B F H σ env Q Qv n q k => h B F H σ env _ _ n q fun v d F' H' ⟨b, e, q'⟩ e' n' t' => by
  subst e
  cases t'
  exact ⟨b, rfl, k b F' H' q' e' n'⟩
theorem ptd_cmp {op : CmpOp} {r : R2} {o : PyData → PyData → (PyData → Prop) → Prop} (ho : OpR X (compareOp op) r) (hd : OpD r o) (ha : PEr X a ta da) (hb : PEr X b tb db) (hm : behindInMarks op b = false := by rfl) : PTd X (.Compare a [op] [b] pos) (tTest (tOp r ta tb)) (dTest (d2 o da db)) := ⟨pt_cmpR ho ha.pe hb.pe hm, st_test (sd_op hd ha.s hb.s)⟩
theorem ptd_val (h : PEd X e te dd) (he : ∀ whole, isTrue e X.env whole = (do let v ← whole; standAt e.pos; holding [v] (truthy v)) := by intro _; rfl) : PTd X e (tB te) (dTest dd) := ⟨pt_val h.pe he, st_test h.s⟩
def dChain (o o' : PyData → PyData → (PyData → Prop) → Prop) (da db dc : DE) : DE := fun env Q => da env fun x => db env fun y => o x y fun z => ∃ k, z = .bool k ∧ (if k = true then dc env fun w => o' y w Q else Q (.bool false))
theorem sd_chain {r r' : R2} {o o' : PyData → PyData → (PyData → Prop) → Prop} (hd : OpD r o) (hd' : OpD r' o') (ha : Sr ta da) (hb : Sr tb db) (hc : Sr tc dc) : Sd (tChain r r' ta tb tc) (dChain o o' da db dc) := fun B F H σ env Q Qv n q k =>
  ha B F H σ env _ _ n q fun v d F1 H1 q1 e1 n1 r1 => hb B F1 H1 σ env _ _ n1 q1 fun w f F2 H2 q2 e2 n2 r2 =>
    hd F2 H2 v w d f _ _ n2.g.fh ((r1.up e2).rb n2) (r2.rb n2) q2 fun z f' F3 H3 ⟨kk, ek, q3⟩ g3 t3 => by
      subst ek
      cases t3
      have e3 := (e1.trans e2).trans (g3.ex n2.g.fh)
      have n3 := n2.gro g3
      refine ⟨kk, rfl, ?_⟩
      cases kk with
      | false => exact k _ _ _ _ q3 e3 n3 (.bl false)
      | true => exact hc B F3 H3 σ env _ _ n3 q3 fun u g F4 H4 q4 e4 n4 r4 => hd' F4 H4 w u f g Q Qv n4.g.fh (((r2.up (g3.ex n2.g.fh)).up e4).rb n4) (r4.rb n4) q4 fun z f F' H' q' g' t' => k z f F' H' q' ((e3.trans e4).trans (g'.ex n4.g.fh)) (n4.gro g') t'
theorem ped_chain {op op' : CmpOp} {r r' : R2} {o o' : PyData → PyData → (PyData → Prop) → Prop} (ho : OpR X (compareOp op) r) (hd : OpD r o) (ho' : OpR X (compareOp op') r') (hd' : OpD r' o') (ha : PEr X a ta da) (hb : PEr X b tb db) (hc : PEr X c tc dc)
    (hm : lastMarks [op, op'] [b, c] = false := by with_unfolding_all rfl) : PEd X (.Compare a [op, op'] [b, c] pos) (tChain r r' ta tb tc) (dChain o o' da db dc) := ⟨pe_chain ho ho' ha.pe hb.pe hc.pe hm, sd_chain hd hd' ha.s hb.s hc.s⟩

/-! ### and, or, not, if -/
def dAnd (t u : DT) : DT := fun env Q => t env fun c => if c = true then u env Q else Q false
def dOr (t u : DT) : DT := fun env Q => t env fun c => if c = true then Q true else u env Q
def dNot (t : DT) : DT := fun env Q => t env fun c => Q (!c)
theorem pwd_and1 (ha : PTd X a tA dt) : PWd X (.BoolOp .And [a] pos) tA dt := ⟨pw_and1 ha.pt, ha.s⟩
theorem pwd_or1 (ha : PTd X a tA dt) : PWd X (.BoolOp .Or [a] pos) tA dt := ⟨pw_or1 ha.pt, ha.s⟩
theorem pwd_and (ha : PTd X a tA dt) (hb : PWd X (.BoolOp .And (b :: es) pos) tB' du) : PWd X (.BoolOp .And (a :: b :: es) pos) (tAnd tA tB') (dAnd dt du) := ⟨pw_and ha.pt hb.pw, fun B F H σ env Q Qv n q k =>
  ha.s B F H σ env _ _ n q fun c F1 H1 q1 e1 n1 => by
    cases c with
    | true => exact hb.s B F1 H1 σ env _ _ n1 q1 fun c F2 H2 q2 e2 n2 => k c F2 H2 q2 (e1.trans e2) n2
    | false => exact k _ _ _ q1 e1 n1⟩
theorem pwd_or (ha : PTd X a tA dt) (hb : PWd X (.BoolOp .Or (b :: es) pos) tB' du) : PWd X (.BoolOp .Or (a :: b :: es) pos) (tOr tA tB') (dOr dt du) := ⟨pw_or ha.pt hb.pw, fun B F H σ env Q Qv n q k =>
  ha.s B F H σ env _ _ n q fun c F1 H1 q1 e1 n1 => by
    cases c with
    | false => exact hb.s B F1 H1 σ env _ _ n1 q1 fun c F2 H2 q2 e2 n2 => k c F2 H2 q2 (e1.trans e2) n2
    | true => exact k _ _ _ q1 e1 n1⟩
theorem ptd_w (h : PWd X a tA dt) : PTd X a tA dt := ⟨h.pw.pt, h.s⟩
theorem ptd_not (ha : PTd X a tA dt) : PTd X (.UnaryOp .Not a pos) (tNot tA) (dNot dt) := ⟨pt_not ha.pt, fun B F H σ env Q Qv n q k => ha.s B F H σ env _ _ n q fun c F1 H1 q1 e1 n1 => k _ _ _ q1 e1 n1⟩
def dAndV (t u : DE) : DE := fun env Q => t env fun d => ∃ c, d = .bool c ∧ (if c = true then u env Q else Q (.bool false))
def dOrV (t u : DE) : DE := fun env Q => t env fun d => ∃ c, d = .bool c ∧ (if c = true then Q (.bool true) else u env Q)
def dNotV (t : DE) : DE := fun env Q => t env fun d => ∃ c, d = .bool c ∧ Q (.bool (!c))
theorem ped_one {op} (h : PEd X a ta da) : PEd X (.BoolOp op [a] pos) ta da := ⟨pe_one h.pe, h.s⟩
theorem ped_and (ha : PEd X a ta da) (hb : PEd X (.BoolOp .And (b :: es) pos) tb db) : PEd X (.BoolOp .And (a :: b :: es) pos) (tAndV ta tb) (dAndV da db) := ⟨pe_and ha.pe hb.pe, fun B F H σ env Q Qv n q k =>
  ha.s B F H σ env _ _ n q fun v d F1 H1 ⟨c, e, q1⟩ e1 n1 t1 => by
    subst e
    cases t1
    refine ⟨c, rfl, ?_⟩
    cases c with
    | true => exact hb.s B F1 H1 σ env _ _ n1 q1 fun v d F2 H2 q2 e2 n2 t2 => k v d F2 H2 q2 (e1.trans e2) n2 t2
    | false => exact k _ _ _ _ q1 e1 n1 (.bl false)⟩
theorem ped_or (ha : PEd X a ta da) (hb : PEd X (.BoolOp .Or (b :: es) pos) tb db) : PEd X (.BoolOp .Or (a :: b :: es) pos) (tOrV ta tb) (dOrV da db) := ⟨pe_or ha.pe hb.pe, fun B F H σ env Q Qv n q k =>
  ha.s B F H σ env _ _ n q fun v d F1 H1 ⟨c, e, q1⟩ e1 n1 t1 => by
    subst e
    cases t1
    refine ⟨c, rfl, ?_⟩
    cases c with
    | false => exact hb.s B F1 H1 σ env _ _ n1 q1 fun v d F2 H2 q2 e2 n2 t2 => k v d F2 H2 q2 (e1.trans e2) n2 t2
    | true => exact k _ _ _ _ q1 e1 n1 (.bl true)⟩
theorem ped_not (ha : PEd X a ta da) : PEd X (.UnaryOp .Not a pos) (tNotV ta) (dNotV da) := ⟨pe_not ha.pe, fun B F H σ env Q Qv n q k =>
  ha.s B F H σ env _ _ n q fun v d F1 H1 ⟨c, e, q1⟩ e1 n1 t1 => by
    subst e
    cases t1
    exact ⟨c, rfl, k _ _ _ _ q1 e1 n1 (.bl _)⟩⟩
def dIf (t : DT) (da db : DE) : DE := fun env Q => t env fun c => if c = true then da env Q else db env Q
theorem ped_if (hc : PTd X c tA dt) (ha : PEd X a ta da) (hb : PEd X b tb db) : PEd X (.IfExp c a b pos) (tIf tA ta tb) (dIf dt da db) := ⟨pe_ifExp hc.pt ha.pe hb.pe, fun B F H σ env Q Qv n q k =>
  hc.s B F H σ env _ _ n q fun c F1 H1 q1 e1 n1 => by
    cases c with
    | true => exact ha.s B F1 H1 σ env _ _ n1 q1 fun v d F2 H2 q2 e2 n2 t2 => k v d F2 H2 q2 (e1.trans e2) n2 t2
    | false => exact hb.s B F1 H1 σ env _ _ n1 q1 fun v d F2 H2 q2 e2 n2 t2 => k v d F2 H2 q2 (e1.trans e2) n2 t2⟩

/-! ### argument lists, displays -/
def nNil : DN := fun _ Q => Q []
def nCons (da : DE) (dn : DN) : DN := fun env Q => da env fun x => dn env fun xs => Q (x :: xs)
variable {tA1 : TA}
theorem par_nil : PAr X [] tNil nNil := ⟨pa_nil, fun B F H σ env Q Qv n q k => k [] [] F H q (Ex.refl F) n .nil⟩
theorem Paired.imp {α β : Type} {R S : α → β → Prop} : ∀ {l : List α} {m : List β}, Paired R l m → (∀ a b, R a b → S a b) → Paired S l m
  | _, _, .nil, _ => .nil
  | _, _, .cons r t, f => .cons (f _ _ r) (Paired.imp t f)
theorem par_cons (ha : PEr X e te dd) (hr : PAr X es tA1 dn) (hs : starEach (e :: es) X.env = (false, eval e X.env) :: starEach es X.env := by rfl) : PAr X (e :: es) (tCons te tA1) (nCons dd dn) := ⟨pa_cons ha.pe hr.pa hs, fun B F H σ env Q Qv n q k =>
  ha.s B F H σ env _ _ n q fun v d F1 H1 q1 e1 n1 r1 => hr.s B F1 H1 σ env _ _ n1 q1 fun vs ds F2 H2 q2 e2 n2 r2 => k (v :: vs) (d :: ds) F2 H2 q2 (e1.trans e2) n2 (.cons (r1.up e2) r2)⟩
theorem paf_nil : PAf X [] tNil nNil := ⟨pa_nil, fun B F H σ env Q Qv n q k => k [] [] F H q (Ex.refl F) n .nil⟩
theorem paf_cons (ha : PEd X e te dd) (hr : PAf X es tA1 dn) (hs : starEach (e :: es) X.env = (false, eval e X.env) :: starEach es X.env := by rfl) : PAf X (e :: es) (tCons te tA1) (nCons dd dn) := ⟨pa_cons ha.pe hr.pa hs, fun B F H σ env Q Qv n q k =>
  ha.s B F H σ env _ _ n q fun v d F1 H1 q1 e1 n1 r1 => hr.s B F1 H1 σ env _ _ n1 q1 fun vs ds F2 H2 q2 e2 n2 r2 => k (v :: vs) (d :: ds) F2 H2 q2 (e1.trans e2) n2 (.cons (r1.up e2) r2)⟩
def dTup (dn : DN) : DE := fun env Q => dn env fun ds => ds.length ≤ 1000 ∧ Q (.tuple ds)
def nLst (dn : DN) : DN := fun env Q => dn env fun ds => ds.length ≤ 1000 ∧ Q ds
theorem size1000 {n : Nat} (h : n ≤ 1000) : n ≤ sizeLine := Nat.le_trans h (by decide)
theorem ped_tup {x1} (h : PAf X es tA1 dn) : PEd X (.Tuple es x1 pos) (tTup tA1) (dTup dn) := ⟨pe_tup h.pa, fun B F H σ env Q Qv n q k =>
  h.s B F H σ env _ _ n q fun vs ds F1 H1 ⟨hl, q1⟩ e1 n1 t1 => ⟨by rw [t1.len]; exact size1000 hl, fun p hp => by
    have g : Gro F1 H1 (upd F1 p (.tup vs)) (upd H1 p (.tup vs)) := .new hp
    exact k _ _ _ _ q1 (e1.trans (g.ex n1.g.fh)) (n1.gro g) (.tup upd_same (t1.up (g.ex n1.g.fh)))⟩⟩
theorem pen_lst (h : PAf X es tA1 dn) : PEn X (.List es pos) (tLst tA1) (nLst dn) := ⟨pe_lst h.pa, fun B F H σ env Q Qv n q k =>
  h.s B F H σ env _ _ n q fun vs ds F1 H1 ⟨hl, q1⟩ e1 n1 t1 => ⟨by rw [t1.len]; exact size1000 hl, fun p hp => by
    obtain ⟨f1, f2⟩ := Fresh.of n1 hp t1
    exact k p vs ds F1 _ q1 e1 f2 f1⟩⟩

/-! ### calls of built-ins -/
def CallD (r : List V → Hp → VK → Prop) (o : List PyData → (PyData → Prop) → Prop) : Prop := ∀ F H xs ds (Q : PyData → Prop) (Qv : VK), Ex F H → Paired (Rb F H) xs ds → o ds Q → (∀ z f F' H', Q f → Gro F H F' H' → Dt F' z f → Qv z H') → r xs H Qv
def CallN (r : List V → Hp → VK → Prop) (o : List PyData → (List PyData → Prop) → Prop) : Prop := ∀ F H xs ds (Q : List PyData → Prop) (Qv : VK), Ex F H → Paired (Rb F H) xs ds → o ds Q → (∀ p vs es, Q es → H p = none → DtA F vs es → Qv (.ref p) (upd H p (.lst vs))) → r xs H Qv
def dCB (o : List PyData → (PyData → Prop) → Prop) (dn : DN) : DE := fun env Q => dn env fun ds => o ds Q
def nCB (o : List PyData → (List PyData → Prop) → Prop) (dn : DN) : DN := fun env Q => dn env fun ds => o ds Q
variable {r : List V → Hp → VK → Prop} {id T : String} {x : Str} {p : Pos}
theorem sd_cb {o : List PyData → (PyData → Prop) → Prop} (hd : CallD r o) (ha : Sa tA1 dn) : Sd (tCB r tA1) (dCB o dn) := fun B F H σ env Q Qv n q k =>
  ha B F H σ env _ _ n q fun vs ds F1 H1 q1 e1 n1 r1 => hd F1 H1 vs ds Q Qv n1.g.fh (Paired.imp r1 fun _ _ h => h.rb n1) q1 fun z f F' H' q' g' t' => k z f F' H' q' (e1.trans (g'.ex n1.g.fh)) (n1.gro g') t'
theorem sn_cb {o : List PyData → (List PyData → Prop) → Prop} (hd : CallN r o) (ha : Sa tA1 dn) : Sn (tCB r tA1) (nCB o dn) := fun B F H σ env Q Qv n q k =>
  ha B F H σ env _ _ n q fun vs ds F1 H1 q1 e1 n1 r1 => hd F1 H1 vs ds Q Qv n1.g.fh (Paired.imp r1 fun _ _ h => h.rb n1) q1 fun p vs es q' hp t' => by
    obtain ⟨f1, f2⟩ := Fresh.of n1 hp t'
    exact k p vs es F1 _ q' e1 f2 f1
theorem ped_callB {o : List PyData → (PyData → Prop) → Prop} (hc : CallR X (.builtin id) r) (hd : CallD r o) (hg : Gl X x) (hm : X.mg x = none) (hv : bootBuiltins x = some (.builtin id)) (ha : PAr X (e :: es) tA1 dn) (hn : x ≠ "__name__" := by decide) (hdb : (x == ("__debug__" : Str)) = false := by decide)
    (he : starEach (e :: es) X.env = (false, eval e X.env) :: starEach es X.env := by rfl) (hpl : (backTo pos (starEach es X.env)).any (·.1) = false := by rfl) : PEd X (.Call (.Name x p) (e :: es) [] pos) (tCB r tA1) (dCB o dn) := ⟨pe_callB hc hg hm hv ha.pa hn hdb he hpl, sd_cb hd ha.s⟩
theorem ped_callTy {o : List PyData → (PyData → Prop) → Prop} (hc : CallR X (.type T) r) (hd : CallD r o) (hg : Gl X x) (hm : X.mg x = none) (hv : bootBuiltins x = some (.type T)) (ha : PAr X (e :: es) tA1 dn) (hn : x ≠ "__name__" := by decide) (hdb : (x == ("__debug__" : Str)) = false := by decide)
    (he : starEach (e :: es) X.env = (false, eval e X.env) :: starEach es X.env := by rfl) (hpl : (backTo pos (starEach es X.env)).any (·.1) = false := by rfl) : PEd X (.Call (.Name x p) (e :: es) [] pos) (tCB r tA1) (dCB o dn) := ⟨pe_callTy hc hg hm hv ha.pa hn hdb he hpl, sd_cb hd ha.s⟩
theorem pen_callTy {o : List PyData → (List PyData → Prop) → Prop} (hc : CallR X (.type T) r) (hd : CallN r o) (hg : Gl X x) (hm : X.mg x = none) (hv : bootBuiltins x = some (.type T)) (ha : PAr X (e :: es) tA1 dn) (hn : x ≠ "__name__" := by decide) (hdb : (x == ("__debug__" : Str)) = false := by decide)
    (he : starEach (e :: es) X.env = (false, eval e X.env) :: starEach es X.env := by rfl) (hpl : (backTo pos (starEach es X.env)).any (·.1) = false := by rfl) : PEn X (.Call (.Name x p) (e :: es) [] pos) (tCB r tA1) (nCB o dn) := ⟨pe_callTy hc hg hm hv ha.pa hn hdb he hpl, sn_cb hd ha.s⟩
theorem pen_callB {o : List PyData → (List PyData → Prop) → Prop} (hc : CallR X (.builtin id) r) (hd : CallN r o) (hg : Gl X x) (hm : X.mg x = none) (hv : bootBuiltins x = some (.builtin id)) (ha : PAr X (e :: es) tA1 dn) (hn : x ≠ "__name__" := by decide) (hdb : (x == ("__debug__" : Str)) = false := by decide)
    (he : starEach (e :: es) X.env = (false, eval e X.env) :: starEach es X.env := by rfl) (hpl : (backTo pos (starEach es X.env)).any (·.1) = false := by rfl) : PEn X (.Call (.Name x p) (e :: es) [] pos) (tCB r tA1) (nCB o dn) := ⟨pe_callB hc hg hm hv ha.pa hn hdb he hpl, sn_cb hd ha.s⟩

/-! ### one-place operators, subscripts, slices -/
def d1 (o : PyData → (PyData → Prop) → Prop) (da : DE) : DE := fun env Q => da env fun x => o x Q
def negD : PyData → (PyData → Prop) → Prop
  | .int i, Q => Q (.int (-i))
  | _, _ => False
theorem ped_neg (ha : PEr X a ta da) : PEd X (.UnaryOp .USub a pos) (tUn (rU fun i => .int (-i)) ta) (d1 negD da) := ⟨pe_un un_neg ha.pe, fun B F H σ env Q Qv n q k =>
  ha.s B F H σ env _ _ n q fun v d F1 H1 q1 e1 n1 r1 => by
    cases d with
    | int i => exact ⟨i, (r1.rb n1).int, k _ _ _ _ q1 e1 n1 (.int _)⟩
    | _ => exact q1.elim⟩
theorem ped_ix {r : R2} {o : PyData → PyData → (PyData → Prop) → Prop} (hr : IxR X r) (hd : OpD r o) (ha : PEr X a ta da) (hb : PEr X b tb db) (hs : PlainIx b := by intro _ _; rfl) : PEd X (.Subscript a b pos) (tOp r ta tb) (d2 o da db) := ⟨pe_ix hr ha.pe hb.pe hs, sd_op hd ha.s hb.s⟩
abbrev DO := Denv → (Option Int → Prop) → Prop
def So (to : TO) (t : DO) : Prop := ∀ B F H σ env Q Qv, Den B F H σ env → t env Q → (∀ i F' H', Q i → Ex F F' → Den B F' H' σ env → Qv i H') → to σ H Qv
structure POd (X : Cx) (e : Option Expr) (to : TO) (t : DO) : Prop where
  po : PO X e to
  s : So to t
def oNone : DO := fun _ Q => Q none
def oSome (t : DE) : DO := fun env Q => t env fun d => ∃ i, d = .int i ∧ Q (some i)
theorem pod_none : POd X none tNoPart oNone := ⟨po_none, fun B F H σ env Q Qv n q k => k none F H q (Ex.refl F) n⟩
theorem pod_some (h : PEd X e te dd) : POd X (some e) (tPart te) (oSome dd) := ⟨po_some h.pe, fun B F H σ env Q Qv n q k => h.s B F H σ env _ _ n q fun v d F1 H1 ⟨i, e, q1⟩ e1 n1 t1 => by
  subst e
  cases t1
  exact ⟨i, rfl, k _ _ _ q1 e1 n1⟩⟩
def cutD (ds : List PyData) (lo hi : Option Int) : List PyData := (ds.drop (HT.sIx ds.length 0 lo)).take (HT.sIx ds.length ds.length hi - HT.sIx ds.length 0 lo)
theorem DtA.cut {F : Hp} {vs : List V} {ds : List PyData} (h : DtA F vs ds) (lo hi : Option Int) : DtA F (cutV vs lo hi) (cutD ds lo hi) := by
  unfold cutV cutD
  rw [h.len]
  exact (h.drop _).take _
def nSlL (da : DE) (lo hi : DO) : DN := fun env Q => da env fun d => lo env fun l => hi env fun u => ∃ ds, d = .list ds ∧ Q (cutD ds l u)
def dSlT (da : DE) (lo hi : DO) : DE := fun env Q => da env fun d => lo env fun l => hi env fun u => ∃ ds, d = .tuple ds ∧ Q (.tuple (cutD ds l u))
variable {lo hi : Option Expr} {tl th : TO} {dl dh : DO} {p2 : Pos}
theorem pen_slL (ha : PEr X a ta da) (hl : POd X lo tl dl) (hh : POd X hi th dh) : PEn X (.Subscript a (.Slice lo hi none p2) pos) (tSl (rSlL X.K) ta tl th) (nSlL da dl dh) := ⟨pe_slice sl_list ha.pe hl.po hh.po, fun B F H σ env Q Qv n q k =>
  ha.s B F H σ env _ _ n q fun v d F1 H1 q1 e1 n1 r1 => hl.s B F1 H1 σ env _ _ n1 q1 fun l F2 H2 q2 e2 n2 => hh.s B F2 H2 σ env _ _ n2 q2 fun u F3 H3 ⟨ds, ed, q3⟩ e3 n3 => by
    subst ed
    obtain ⟨a', vs, rfl, h1, h2⟩ := ((r1.up (e2.trans e3)).rb n3).list n3.g.fh
    refine ⟨a', vs, rfl, SqL.of h1, fun p hp => ?_⟩
    obtain ⟨f1, f2⟩ := Fresh.of n3 hp (h2.cut l u)
    exact k p _ _ F3 _ q3 (e1.trans (e2.trans e3)) f2 f1⟩
theorem cut_all {F : Hp} {vs : List V} {ds : List PyData} (h : DtA F vs ds) {lo hi : Option Int} (h0 : HT.sIx vs.length 0 lo = 0 ∧ HT.sIx vs.length vs.length hi = vs.length) : cutD ds lo hi = ds := by
  unfold cutD
  rw [← h.len, h0.1, h0.2, h.len]
  simp
theorem ped_slT (ha : PEr X a ta da) (hl : POd X lo tl dl) (hh : POd X hi th dh) : PEd X (.Subscript a (.Slice lo hi none p2) pos) (tSl (rSlA X.K) ta tl th) (dSlT da dl dh) := ⟨pe_slice sl_tupA ha.pe hl.po hh.po, fun B F H σ env Q Qv n q k =>
  ha.s B F H σ env _ _ n q fun v d F1 H1 q1 e1 n1 r1 => hl.s B F1 H1 σ env _ _ n1 q1 fun l F2 H2 q2 e2 n2 => hh.s B F2 H2 σ env _ _ n2 q2 fun u F3 H3 ⟨ds, ed, q3⟩ e3 n3 => by
    subst ed
    obtain ⟨a', vs, rfl, h1, h2⟩ := ((r1.up (e2.trans e3)).rb n3).tuple
    refine ⟨a', vs, rfl, SqT.of (n3.g.fh _ _ h1), fun h0 => ?_, fun h0 p hp => ?_⟩
    · rw [cut_all h2 h0] at q3
      exact k _ _ _ _ q3 (e1.trans (e2.trans e3)) n3 (.tup h1 h2)
    · have g : Gro F3 H3 (upd F3 p (.tup (cutV vs l u))) (upd H3 p (.tup (cutV vs l u))) := .new hp
      exact k _ _ _ _ q3 ((e1.trans (e2.trans e3)).trans (g.ex n3.g.fh)) (n3.gro g) (.tup upd_same ((h2.cut l u).up (g.ex n3.g.fh)))⟩
def nRevL (da : DE) : DN := fun env Q => da env fun d => ∃ ds, d = .list ds ∧ Q ds.reverse
theorem pen_revL {k : Nat} {p1 p2 p3 : Pos} (ha : PEr X a ta da) : PEn X (.Subscript a (.Slice none none (some (.UnaryOp .USub (.Constant (.int 1) k p1) p2)) p3) pos) (tRevL X.K ta) (nRevL da) := ⟨pe_revL ha.pe, fun B F H σ env Q Qv n q k =>
  ha.s B F H σ env _ _ n q fun v d F1 H1 ⟨ds, ed, q1⟩ e1 n1 r1 => by
    subst ed
    obtain ⟨a', vs, rfl, h1, h2⟩ := (r1.rb n1).list n1.g.fh
    refine ⟨a', vs, rfl, SqL.of h1, fun p hp => ?_⟩
    obtain ⟨f1, f2⟩ := Fresh.of n1 hp h2.rev
    exact k p _ _ F1 _ q1 e1 f2 f1⟩
end

/-! ### the operators over data -/
section
variable {X : Cx}
def mulOk (i j : Int) : Prop := (i.natAbs < 2 ^ 1000 ∧ j.natAbs < 2 ^ 1000) ∨ j = 0 ∨ j = 1
def addD : PyData → PyData → (PyData → Prop) → Prop
  | .int i, .int j, Q => Q (.int (i + j))
  | .list xs, .list ys, Q => xs.length + ys.length ≤ 1000000 ∧ Q (.list (xs ++ ys))
  | .tuple xs, .tuple ys, Q => xs.length + ys.length ≤ 1000000 ∧ Q (.tuple (xs ++ ys))
  | _, _, _ => False
def subD : PyData → PyData → (PyData → Prop) → Prop
  | .int i, .int j, Q => Q (.int (i - j))
  | _, _, _ => False
def mulD : PyData → PyData → (PyData → Prop) → Prop
  | .int i, .int j, Q => mulOk i j ∧ Q (.int (i * j))
  | .list xs, .int j, Q => 0 ≤ j ∧ j ≤ 1000 ∧ xs.length ≤ 1000 ∧ Q (.list (List.replicate j.toNat xs).flatten)
  | .tuple xs, .int j, Q => 2 ≤ j ∧ j ≤ 1000 ∧ xs.length ≤ 1000 ∧ xs ≠ [] ∧ Q (.tuple (List.replicate j.toNat xs).flatten)
  | _, _, _ => False
def fdivD : PyData → PyData → (PyData → Prop) → Prop
  | .int i, .int j, Q => (0 < j ∧ j.natAbs < 2 ^ 1000) ∧ Q (.int (i / j))
  | _, _, _ => False
def modD : PyData → PyData → (PyData → Prop) → Prop
  | .int i, .int j, Q => 0 < j ∧ Q (.int (i % j))
  | _, _, _ => False
def powD : PyData → PyData → (PyData → Prop) → Prop
  | .int i, .int j, Q => (0 ≤ j ∧ j ≤ 1000 ∧ i.natAbs < 2 ^ 64) ∧ Q (.int (i ^ j.toNat))
  | _, _, _ => False
def ltD : PyData → PyData → (PyData → Prop) → Prop
  | .int i, .int j, Q => Q (.bool (decide (i < j)))
  | _, _, _ => False
def leD : PyData → PyData → (PyData → Prop) → Prop
  | .int i, .int j, Q => Q (.bool (decide (i ≤ j)))
  | _, _, _ => False
def gtD : PyData → PyData → (PyData → Prop) → Prop
  | .int i, .int j, Q => Q (.bool (decide (j < i)))
  | _, _, _ => False
def geD : PyData → PyData → (PyData → Prop) → Prop
  | .int i, .int j, Q => Q (.bool (decide (j ≤ i)))
  | _, _, _ => False

theorem rep_dta {F : Hp} {vs : List V} {ds : List PyData} (h : DtA F vs ds) : ∀ n : Nat, DtA F (List.replicate n vs).flatten (List.replicate n ds).flatten
  | 0 => .nil
  | n + 1 => by
    rw [List.replicate_succ, List.replicate_succ, List.flatten_cons, List.flatten_cons]
    exact h.app (rep_dta h n)
theorem OpR.or {f : Value → Value → Sem Value} {r r' : R2} (h : OpR X f r) (h' : OpR X f r') : OpR X f (fun x y H Q => r x y H Q ∨ r' x y H Q) := fun pins s σ H x y v u Q I rx ry q => by
  rcases q with q | q
  · exact h pins s σ H x y v u Q I rx ry q
  · exact h' pins s σ H x y v u Q I rx ry q
def rAddA (K : PySem.W.Frag) : R2 := fun x y H Q => (rI0 fun i j => .int (i + j)) x y H Q ∨ (rCat x y H Q ∨ rCatA K x y H Q)
theorem op_addA : OpR X (binaryOp .Add) (rAddA X.K) := OpR.or op_add (OpR.or op_cat op_catA)
theorem dta_nil {F : Hp} {vs : List V} (h : DtA F vs []) : vs = [] := by
  cases h
  rfl
theorem dta_nil' {F : Hp} {ds : List PyData} (h : DtA F [] ds) : ds = [] := by
  cases h
  rfl
theorem od_add {K : PySem.W.Frag} : OpD (rAddA K) addD := fun F H x y d e Q Qv ex rx ry q k => by
  cases d with
  | int i =>
    cases e with
    | int j => exact .inl ⟨i, j, rx.int, ry.int, k _ _ F H q .refl (.int _)⟩
    | _ => exact q.elim
  | list xs =>
    cases e with
    | list ys =>
      obtain ⟨hl, q⟩ := (show xs.length + ys.length ≤ 1000000 ∧ Q (.list (xs ++ ys)) from q)
      obtain ⟨a, vs, rfl, h1, h2⟩ := rx.list ex
      obtain ⟨b, ws, rfl, h3, h4⟩ := ry.list ex
      refine .inr (.inl ⟨a, b, vs, ws, rfl, rfl, h1, h3, ?_, fun p hp => ?_⟩)
      · rw [h2.len, h4.len]
        exact Nat.le_trans hl (by decide)
      · have g : Gro F H (upd F p (.lst (vs ++ ws))) (upd H p (.lst (vs ++ ws))) := .new hp
        exact k _ _ _ _ q g (.lst upd_same ((h2.app h4).up (g.ex ex)))
    | _ => exact q.elim
  | tuple xs =>
    cases e with
    | tuple ys =>
      obtain ⟨hl, q⟩ := (show xs.length + ys.length ≤ 1000000 ∧ Q (.tuple (xs ++ ys)) from q)
      obtain ⟨a, vs, rfl, h1, h2⟩ := rx.tuple
      obtain ⟨b, ws, rfl, h3, h4⟩ := ry.tuple
      refine .inr (.inr ⟨a, b, vs, ws, rfl, rfl, SqT.of (ex _ _ h1), SqT.of (ex _ _ h3), ?_, fun z => ?_, fun _ z => ?_, fun _ _ p hp => ?_⟩)
      · rw [h2.len, h4.len]
        exact Nat.le_trans hl (by decide)
      · subst z
        rw [dta_nil' h2] at q
        exact k _ _ F H q .refl (.tup h3 h4)
      · subst z
        rw [dta_nil' h4, List.append_nil] at q
        exact k _ _ F H q .refl (.tup h1 h2)
      · have g : Gro F H (upd F p (.tup (vs ++ ws))) (upd H p (.tup (vs ++ ws))) := .new hp
        exact k _ _ _ _ q g (.tup upd_same ((h2.app h4).up (g.ex ex)))
    | _ => exact q.elim
  | _ => exact q.elim
/-- a list + a list, new -/
def catN : PyData → PyData → (List PyData → Prop) → Prop
  | .list xs, .list ys, Q => xs.length + ys.length ≤ 1000000 ∧ Q (xs ++ ys)
  | _, _, _ => False
theorem on_cat : OpN rCat catN := fun F H x y d e Q Qv ex rx ry q k => by
  cases d with
  | list xs =>
    cases e with
    | list ys =>
      obtain ⟨hl, q⟩ := (show xs.length + ys.length ≤ 1000000 ∧ Q (xs ++ ys) from q)
      obtain ⟨a, vs, rfl, h1, h2⟩ := rx.list ex
      obtain ⟨b, ws, rfl, h3, h4⟩ := ry.list ex
      refine ⟨a, b, vs, ws, rfl, rfl, h1, h3, ?_, fun p hp => k p _ _ q hp (h2.app h4)⟩
      rw [h2.len, h4.len]
      exact Nat.le_trans hl (by decide)
    | _ => exact q.elim
  | _ => exact q.elim
theorem od_int0 {g : Int → Int → Int} {o : PyData → PyData → (PyData → Prop) → Prop} (h : ∀ d e Q, o d e Q → ∃ i j, d = .int i ∧ e = .int j ∧ Q (.int (g i j))) : OpD (rI0 fun i j => .int (g i j)) o := fun F H x y d e Q Qv ex rx ry q k => by
  obtain ⟨i, j, rfl, rfl, q1⟩ := h d e Q q
  exact ⟨i, j, rx.int, ry.int, k _ _ F H q1 .refl (.int _)⟩
theorem od_bool0 {g : Int → Int → Bool} {o : PyData → PyData → (PyData → Prop) → Prop} (h : ∀ d e Q, o d e Q → ∃ i j, d = .int i ∧ e = .int j ∧ Q (.bool (g i j))) : OpD (rI0 fun i j => .bl (g i j)) o := fun F H x y d e Q Qv ex rx ry q k => by
  obtain ⟨i, j, rfl, rfl, q1⟩ := h d e Q q
  exact ⟨i, j, rx.int, ry.int, k _ _ F H q1 .refl (.bl _)⟩
theorem od_sub : OpD (rI0 fun i j => .int (i - j)) subD := od_int0 fun d e Q q => by
  cases d <;> cases e <;> first | exact q.elim | exact ⟨_, _, rfl, rfl, q⟩
theorem od_lt : OpD (rI0 fun i j => .bl (decide (i < j))) ltD := od_bool0 fun d e Q q => by
  cases d <;> cases e <;> first | exact q.elim | exact ⟨_, _, rfl, rfl, q⟩
theorem od_le : OpD (rI0 fun i j => .bl (decide (i ≤ j))) leD := od_bool0 fun d e Q q => by
  cases d <;> cases e <;> first | exact q.elim | exact ⟨_, _, rfl, rfl, q⟩
theorem od_gt : OpD (rI0 fun i j => .bl (decide (j < i))) gtD := od_bool0 fun d e Q q => by
  cases d <;> cases e <;> first | exact q.elim | exact ⟨_, _, rfl, rfl, q⟩
theorem od_ge : OpD (rI0 fun i j => .bl (decide (j ≤ i))) geD := od_bool0 fun d e Q q => by
  cases d <;> cases e <;> first | exact q.elim | exact ⟨_, _, rfl, rfl, q⟩
theorem od_mod : OpD (rI (fun _ j => 0 < j) fun i j => .int (i % j)) modD := fun F H x y d e Q Qv ex rx ry q k => by
  cases d <;> cases e <;> first | exact q.elim | exact ⟨_, _, rx.int, ry.int, q.1, k _ _ F H q.2 .refl (.int _)⟩
theorem od_fdiv : OpD (rI CDivW fun i j => .int (i / j)) fdivD := fun F H x y d e Q Qv ex rx ry q k => by
  cases d <;> cases e <;> first | exact q.elim | exact ⟨_, _, rx.int, ry.int, wide_div q.1.1 q.1.2 (by decide) (by decide), k _ _ F H q.2 .refl (.int _)⟩
theorem od_pow : OpD (rI CPow fun i j => .int (i ^ j.toNat)) powD := fun F H x y d e Q Qv ex rx ry q k => by
  cases d <;> cases e <;> first | exact q.elim | exact ⟨_, _, rx.int, ry.int, ⟨q.1.1, Int.le_trans q.1.2.1 (by decide), q.1.2.2⟩, k _ _ F H q.2 .refl (.int _)⟩
def CMulA (i j : Int) : Prop := CMul i j ∨ CMulW i j
theorem op_mulA : OpR X (binaryOp .Mult) (rI CMulA fun i j => .int (i * j)) := fun pins s σ H x y v u Q I rx ry q => by
  obtain ⟨i, j, e1, e2, c | c, q⟩ := q
  · exact op_mul pins s σ H x y v u Q I rx ry ⟨i, j, e1, e2, c, q⟩
  · exact op_mulW pins s σ H x y v u Q I rx ry ⟨i, j, e1, e2, c, q⟩
theorem mulOk.a {i j : Int} (h : mulOk i j) : CMulA i j := by
  rcases h with ⟨h1, h2⟩ | rfl | rfl
  · exact .inr (wide_mul h1 h2 (by decide) (by decide) (by decide))
  · exact .inl (.inr ⟨by decide, by decide⟩)
  · exact .inl (.inr ⟨by decide, by decide⟩)
def rMulA (K : PySem.W.Frag) : R2 := fun x y H Q => (rI CMulA fun i j => .int (i * j)) x y H Q ∨ (rRep x y H Q ∨ rRepT K x y H Q)
theorem op_mulB : OpR X (binaryOp .Mult) (rMulA X.K) := OpR.or op_mulA (OpR.or op_rep op_repT)
theorem od_mul {K : PySem.W.Frag} : OpD (rMulA K) mulD := fun F H x y d e Q Qv ex rx ry q k => by
  cases d with
  | int i =>
    cases e with
    | int j => exact .inl ⟨i, j, rx.int, ry.int, q.1.a, k _ _ F H q.2 .refl (.int _)⟩
    | _ => exact q.elim
  | list xs =>
    cases e with
    | int j =>
      obtain ⟨h0, h9, hl, q⟩ := (show 0 ≤ j ∧ j ≤ 1000 ∧ xs.length ≤ 1000 ∧ Q (.list (List.replicate j.toNat xs).flatten) from q)
      obtain ⟨a, vs, rfl, h1, h2⟩ := rx.list ex
      refine .inr (.inl ⟨a, j, vs, rfl, ry.int, h1, by omega, by omega, ?_, fun p hp => ?_⟩)
      · rw [h2.len]
        refine Nat.le_trans (Nat.mul_le_mul hl (show j.toNat ≤ 1000 by omega)) (by decide)
      · have g : Gro F H (upd F p (.lst (List.replicate j.toNat vs).flatten)) (upd H p (.lst (List.replicate j.toNat vs).flatten)) := .new hp
        exact k _ _ _ _ q g (.lst upd_same ((rep_dta h2 _).up (g.ex ex)))
    | _ => exact q.elim
  | tuple xs =>
    cases e with
    | int j =>
      obtain ⟨h0, h9, hl, hn, q⟩ := (show 2 ≤ j ∧ j ≤ 1000 ∧ xs.length ≤ 1000 ∧ xs ≠ [] ∧ Q (.tuple (List.replicate j.toNat xs).flatten) from q)
      obtain ⟨a, vs, rfl, h1, h2⟩ := rx.tuple
      refine .inr (.inr ⟨a, j, vs, rfl, ry.int, SqT.of (ex _ _ h1), fun z => ?_, h0, h9, by rw [h2.len]; exact hl, fun p hp => ?_⟩)
      · subst z
        exact hn (dta_nil' h2)
      · have g : Gro F H (upd F p (.tup (List.replicate j.toNat vs).flatten)) (upd H p (.tup (List.replicate j.toNat vs).flatten)) := .new hp
        exact k _ _ _ _ q g (.tup upd_same ((rep_dta h2 _).up (g.ex ex)))
    | _ => exact q.elim
  | _ => exact q.elim

/-! ### ==, !=, is None, in -/
def eqD (d e : PyData) (Q : PyData → Prop) : Prop := SeqAt.shaped d = true ∧ SeqAt.shaped e = true ∧ Q (.bool (PyData.eqv d e))
def neD (d e : PyData) (Q : PyData → Prop) : Prop := SeqAt.shaped d = true ∧ SeqAt.shaped e = true ∧ Q (.bool (!PyData.eqv d e))
theorem od_eq {K : PySem.W.Frag} : OpD (rEqD K) eqD := fun F H x y d e Q Qv ex rx ry q k => ⟨d, e, (rx.dt ex).dp, (ry.dt ex).dp, q.1, q.2.1, k _ _ F H q.2.2 .refl (.bl _)⟩
theorem od_ne {K : PySem.W.Frag} : OpD (rNeD K) neD := fun F H x y d e Q Qv ex rx ry q k => ⟨d, e, (rx.dt ex).dp, (ry.dt ex).dp, q.1, q.2.1, k _ _ F H q.2.2 .refl (.bl _)⟩
def isNone : PyData → Bool
  | .none => true
  | _ => false
def isD (d e : PyData) (Q : PyData → Prop) : Prop := e = .none ∧ Q (.bool (isNone d))
def isntD (d e : PyData) (Q : PyData → Prop) : Prop := e = .none ∧ Q (.bool (!isNone d))
theorem isNone_v {F : Hp} {H : Hp} {v : V} {d : PyData} (h : Rb F H v d) : decide (v = .non) = isNone d := by
  rcases h with h | ⟨l, vs, ds, rfl, rfl, _⟩
  · cases h <;> rfl
  · rfl
theorem od_is : OpD (fun x y H Q => y = .non ∧ Q (.bl (decide (x = .non))) H) isD := fun F H x y d e Q Qv ex rx ry q k => by
  obtain ⟨rfl, q⟩ := q
  refine ⟨ry.none, ?_⟩
  rw [isNone_v rx]
  exact k _ _ F H q .refl (.bl _)
theorem od_isnt : OpD (fun x y H Q => y = .non ∧ Q (.bl (!decide (x = .non))) H) isntD := fun F H x y d e Q Qv ex rx ry q k => by
  obtain ⟨rfl, q⟩ := q
  refine ⟨ry.none, ?_⟩
  rw [isNone_v rx]
  exact k _ _ F H q .refl (.bl _)
/-- an int in a tuple of ints; data in a list of data -/
def inD (neg : Bool) : PyData → PyData → (PyData → Prop) → Prop
  | .int i, .tuple ds, Q => ∃ ns : List Int, ds = ns.map .int ∧ Q (.bool (if neg = true then !decide (i ∈ ns) else decide (i ∈ ns)))
  | d, .list ds, Q => SeqAt.shaped d = true ∧ SeqAt.shaped (.list ds) = true ∧ Q (.bool (if neg = true then !(ds.any fun z => PyData.eqv z d) else ds.any fun z => PyData.eqv z d))
  | _, _, _ => False
theorem inV_ints (i : Int) : ∀ ns : List Int, inV (.int i) (ns.map V.int) = decide (i ∈ ns)
  | [] => by rfl
  | n :: ns => by
    show ((eqV (.int n) (.int i)) || inV (.int i) (ns.map V.int)) = _
    rw [inV_ints i ns]
    have : eqV (.int n) (.int i) = decide (n = i) := by
      rw [show eqV (.int n) (.int i) = (n == i) from rfl]
      rw [Bool.eq_iff_iff]
      simp
    rw [this, Bool.eq_iff_iff]
    simp
    constructor
    · rintro (h | h)
      · exact .inl h.symm
      · exact .inr h
    · rintro (h | h)
      · exact .inl h.symm
      · exact .inr h
theorem flat_ints : ∀ ns : List Int, (ns.map V.int).all flatV = true
  | [] => rfl
  | n :: ns => by
    show (flatV (.int n) && (ns.map V.int).all flatV) = true
    rw [flat_ints ns]
    rfl
def rInA (K : PySem.W.Frag) : R2 := fun x y H Q => rIn K false x y H Q ∨ rInD K x y H Q
def rNiA (K : PySem.W.Frag) : R2 := fun x y H Q => rIn K true x y H Q ∨ rNotInD K x y H Q
theorem op_inA (hu : X.A.units + 65 < cLine) : OpR X (compareOp .In) (rInA X.K) := OpR.or op_in_seq (op_inD hu)
theorem op_niA (hu : X.A.units + 65 < cLine) : OpR X (compareOp .NotIn) (rNiA X.K) := OpR.or op_notIn_seq (op_notInD hu)
theorem od_in {K : PySem.W.Frag} : OpD (rInA K) (inD false) := fun F H x y d e Q Qv ex rx ry q k => by
  cases e with
  | list ds =>
    have q' : SeqAt.shaped d = true ∧ SeqAt.shaped (.list ds) = true ∧ Q (.bool (ds.any fun z => PyData.eqv z d)) := by
      cases d <;> exact q
    exact .inr ⟨d, ds, (rx.dt ex).dp, (ry.dt ex).dp, q'.1, q'.2.1, k _ _ F H q'.2.2 .refl (.bl _)⟩
  | tuple ds =>
    cases d with
    | int i =>
      obtain ⟨ns, rfl, q⟩ := q
      obtain ⟨a, vs, rfl, h1, h2⟩ := ry.tuple
      have := h2.ints
      subst this
      refine .inl ⟨a, _, rfl, .inr (SqT.of (ex _ _ h1)), by rw [rx.int]; rfl, flat_ints ns, ?_⟩
      rw [rx.int, if_neg Bool.false_ne_true, inV_ints]
      exact k _ _ F H q .refl (.bl _)
    | _ => exact q.elim
  | _ => cases d <;> exact q.elim
theorem od_ni {K : PySem.W.Frag} : OpD (rNiA K) (inD true) := fun F H x y d e Q Qv ex rx ry q k => by
  cases e with
  | list ds =>
    have q' : SeqAt.shaped d = true ∧ SeqAt.shaped (.list ds) = true ∧ Q (.bool (!(ds.any fun z => PyData.eqv z d))) := by
      cases d <;> exact q
    exact .inr ⟨d, ds, (rx.dt ex).dp, (ry.dt ex).dp, q'.1, q'.2.1, k _ _ F H q'.2.2 .refl (.bl _)⟩
  | tuple ds =>
    cases d with
    | int i =>
      obtain ⟨ns, rfl, q⟩ := q
      obtain ⟨a, vs, rfl, h1, h2⟩ := ry.tuple
      have := h2.ints
      subst this
      refine .inl ⟨a, _, rfl, .inr (SqT.of (ex _ _ h1)), by rw [rx.int]; rfl, flat_ints ns, ?_⟩
      rw [rx.int, if_pos rfl, inV_ints]
      exact k _ _ F H q .refl (.bl _)
    | _ => exact q.elim
  | _ => cases d <;> exact q.elim

/-! ### subscripts -/
def ixD : PyData → PyData → (PyData → Prop) → Prop
  | .list ds, .int i, Q => ∃ z, atI ds i = some z ∧ Q z
  | .tuple ds, .int i, Q => ∃ z, atI ds i = some z ∧ Q z
  | _, _, _ => False
theorem atI_dta {F : Hp} {vs : List V} {ds : List PyData} {i : Int} {z : PyData} (h : DtA F vs ds) (e : atI ds i = some z) : ∃ v, atI vs i = some v ∧ Dt F v z := by
  unfold atI at e ⊢
  rw [h.len]
  cases q : ixN ds.length i with
  | none =>
    rw [q] at e
    cases e
  | some j =>
    rw [q] at e
    exact h.get e
theorem od_ix {K : PySem.W.Frag} : OpD (rIx K) ixD := fun F H x y d e Q Qv ex rx ry q k => by
  cases d with
  | list ds =>
    cases e with
    | int i =>
      obtain ⟨z, hz, q⟩ := q
      obtain ⟨a, vs, rfl, h1, h2⟩ := rx.list ex
      obtain ⟨v, h3, h4⟩ := atI_dta h2 hz
      exact .inl ⟨a, vs, i, v, rfl, ry.int, SqL.of h1, h3, k _ _ F H q .refl h4⟩
    | _ => exact q.elim
  | tuple ds =>
    cases e with
    | int i =>
      obtain ⟨z, hz, q⟩ := q
      obtain ⟨a, vs, rfl, h1, h2⟩ := rx.tuple
      obtain ⟨v, h3, h4⟩ := atI_dta h2 hz
      exact .inr (.inl ⟨a, vs, i, v, rfl, ry.int, SqT.of (ex _ _ h1), h3, k _ _ F H q .refl h4⟩)
    | _ => exact q.elim
  | _ => exact q.elim

/-! ### built-ins over data -/
theorem paired1 {α β : Type} {R : α → β → Prop} {xs : List α} {y : β} (h : Paired R xs [y]) : ∃ x, xs = [x] ∧ R x y := by
  cases h with
  | cons r t =>
    cases t
    exact ⟨_, rfl, r⟩
theorem paired2 {α β : Type} {R : α → β → Prop} {xs : List α} {y z : β} (h : Paired R xs [y, z]) : ∃ x w, xs = [x, w] ∧ R x y ∧ R w z := by
  cases h with
  | cons r t =>
    obtain ⟨w, rfl, r2⟩ := paired1 t
    exact ⟨_, w, rfl, r, r2⟩
def lenD : List PyData → (PyData → Prop) → Prop
  | [.list ds], Q => Q (.int ds.length)
  | [.tuple ds], Q => Q (.int ds.length)
  | _, _ => False
theorem cd_len : CallD (fun xs H Q => ∃ p ys, xs = [.ref p] ∧ (SqL X.K H p ys ∨ SqT X.K H p ys) ∧ Q (.int ys.length) H) lenD := fun F H xs ds Q Qv ex r q k => by
  unfold lenD at q
  split at q
  · obtain ⟨x, rfl, r1⟩ := paired1 r
    obtain ⟨a, vs, rfl, h1, h2⟩ := r1.list ex
    exact ⟨a, vs, rfl, .inl (SqL.of h1), by rw [h2.len]; exact k _ _ F H q .refl (.int _)⟩
  · obtain ⟨x, rfl, r1⟩ := paired1 r
    obtain ⟨a, vs, rfl, h1, h2⟩ := r1.tuple
    exact ⟨a, vs, rfl, .inr (SqT.of (ex _ _ h1)), by rw [h2.len]; exact k _ _ F H q .refl (.int _)⟩
  · exact q.elim
def intD : List PyData → (PyData → Prop) → Prop
  | [.int i], Q => Q (.int i)
  | [.bool b], Q => Q (.int (if b = true then 1 else 0))
  | _, _ => False
theorem cd_int : CallD (fun xs H Q => (∃ i, xs = [.int i] ∧ Q (.int i) H) ∨ ∃ k, xs = [.bl k] ∧ Q (.int (if k then 1 else 0)) H) intD := fun F H xs ds Q Qv ex r q k => by
  unfold intD at q
  split at q
  · obtain ⟨x, rfl, r1⟩ := paired1 r
    rw [r1.int]
    exact .inl ⟨_, rfl, k _ _ F H q .refl (.int _)⟩
  · obtain ⟨x, rfl, r1⟩ := paired1 r
    rw [r1.bool]
    exact .inr ⟨_, rfl, k _ _ F H q .refl (.int _)⟩
  · exact q.elim
def max2D : List PyData → (PyData → Prop) → Prop
  | [.int i, .int j], Q => Q (.int (max i j))
  | _, _ => False
def min2D : List PyData → (PyData → Prop) → Prop
  | [.int i, .int j], Q => Q (.int (min i j))
  | _, _ => False
theorem cd_max2 : CallD (fun xs H Q => ∃ i j, xs = [.int i, .int j] ∧ Q (.int (if j > i then j else i)) H) max2D := fun F H xs ds Q Qv ex r q k => by
  unfold max2D at q
  split at q
  · obtain ⟨x, y, rfl, r1, r2⟩ := paired2 r
    rw [r1.int, r2.int]
    refine ⟨_, _, rfl, ?_⟩
    rename_i i j
    have e : (if j > i then j else i) = max i j := by
      split <;> omega
    rw [e]
    exact k _ _ F H q .refl (.int _)
  · exact q.elim
theorem cd_min2 : CallD (fun xs H Q => ∃ i j, xs = [.int i, .int j] ∧ Q (.int (if j < i then j else i)) H) min2D := fun F H xs ds Q Qv ex r q k => by
  unfold min2D at q
  split at q
  · obtain ⟨x, y, rfl, r1, r2⟩ := paired2 r
    rw [r1.int, r2.int]
    refine ⟨_, _, rfl, ?_⟩
    rename_i i j
    have e : (if j < i then j else i) = min i j := by
      split <;> omega
    rw [e]
    exact k _ _ F H q .refl (.int _)
  · exact q.elim
/-- of one list of ints -/
def sumD (ds : List PyData) (Q : PyData → Prop) : Prop := ∃ ns : List Int, ds = [.list (ns.map .int)] ∧ Q (.int ns.sum)
def maxD (ds : List PyData) (Q : PyData → Prop) : Prop := ∃ ns : List Int, ds = [.list (ns.map .int)] ∧ ns ≠ [] ∧ ∀ m, m ∈ ns → (∀ y ∈ ns, y ≤ m) → Q (.int m)
def minD (ds : List PyData) (Q : PyData → Prop) : Prop := ∃ ns : List Int, ds = [.list (ns.map .int)] ∧ ns ≠ [] ∧ ∀ m, m ∈ ns → (∀ y ∈ ns, m ≤ y) → Q (.int m)
def allD (ds : List PyData) (Q : PyData → Prop) : Prop := ∃ bs : List Bool, ds = [.list (bs.map .bool)] ∧ Q (.bool (bs.all id))
theorem cd_sum {K : PySem.W.Frag} : CallD (rSum K) sumD := fun F H xs ds Q Qv ex r q k => by
  obtain ⟨ns, rfl, q⟩ := q
  obtain ⟨x, rfl, r1⟩ := paired1 r
  obtain ⟨a, vs, rfl, h1, h2⟩ := r1.list ex
  rw [h2.ints] at h1
  exact ⟨a, ns, rfl, SqL.of h1, k _ _ F H q .refl (.int _)⟩
theorem cd_max {K : PySem.W.Frag} : CallD (rMax K) maxD := fun F H xs ds Q Qv ex r q k => by
  obtain ⟨ns, rfl, hn, q⟩ := q
  obtain ⟨x, rfl, r1⟩ := paired1 r
  obtain ⟨a, vs, rfl, h1, h2⟩ := r1.list ex
  rw [h2.ints] at h1
  exact ⟨a, ns, rfl, SqL.of h1, List.length_pos_iff.mpr hn, fun m hm hy => k _ _ F H (q m hm hy) .refl (.int _)⟩
theorem cd_min {K : PySem.W.Frag} : CallD (rMin K) minD := fun F H xs ds Q Qv ex r q k => by
  obtain ⟨ns, rfl, hn, q⟩ := q
  obtain ⟨x, rfl, r1⟩ := paired1 r
  obtain ⟨a, vs, rfl, h1, h2⟩ := r1.list ex
  rw [h2.ints] at h1
  exact ⟨a, ns, rfl, SqL.of h1, List.length_pos_iff.mpr hn, fun m hm hy => k _ _ F H (q m hm hy) .refl (.int _)⟩
theorem cd_all {K : PySem.W.Frag} : CallD (rAll K) allD := fun F H xs ds Q Qv ex r q k => by
  obtain ⟨ns, rfl, q⟩ := q
  obtain ⟨x, rfl, r1⟩ := paired1 r
  obtain ⟨a, vs, rfl, h1, h2⟩ := r1.list ex
  rw [h2.bools] at h1
  exact ⟨a, ns, rfl, SqL.of h1, k _ _ F H q .refl (.bl _)⟩
/-- list(xs), tuple(xs) -/
def listN : List PyData → (List PyData → Prop) → Prop
  | [.list ds], Q => Q ds
  | [.tuple ds], Q => Q ds
  | _, _ => False
theorem cn_list : CallN (fun xs H Q => ∃ p ys, xs = [.ref p] ∧ (SqL X.K H p ys ∨ SqT X.K H p ys) ∧ ∀ l, H l = none → Q (.ref l) (upd H l (.lst ys))) listN := fun F H xs ds Q Qv ex r q k => by
  unfold listN at q
  split at q
  · obtain ⟨x, rfl, r1⟩ := paired1 r
    obtain ⟨a, vs, rfl, h1, h2⟩ := r1.list ex
    exact ⟨a, vs, rfl, .inl (SqL.of h1), fun p hp => k p vs _ q hp h2⟩
  · obtain ⟨x, rfl, r1⟩ := paired1 r
    obtain ⟨a, vs, rfl, h1, h2⟩ := r1.tuple
    exact ⟨a, vs, rfl, .inr (SqT.of (ex _ _ h1)), fun p hp => k p vs _ q hp h2⟩
  · exact q.elim
def tupleD : List PyData → (PyData → Prop) → Prop
  | [.list ds], Q => Q (.tuple ds)
  | [.tuple ds], Q => Q (.tuple ds)
  | _, _ => False
theorem cd_tuple : CallD (fun xs H Q => ∃ p ys, xs = [.ref p] ∧ ((SqL X.K H p ys ∧ ∀ l, H l = none → Q (.ref l) (upd H l (.tup ys))) ∨ (SqT X.K H p ys ∧ Q (.ref p) H))) tupleD := fun F H xs ds Q Qv ex r q k => by
  unfold tupleD at q
  split at q
  · obtain ⟨x, rfl, r1⟩ := paired1 r
    obtain ⟨a, vs, rfl, h1, h2⟩ := r1.list ex
    refine ⟨a, vs, rfl, .inl ⟨SqL.of h1, fun p hp => ?_⟩⟩
    have g : Gro F H (upd F p (.tup vs)) (upd H p (.tup vs)) := .new hp
    exact k _ _ _ _ q g (.tup upd_same (h2.up (g.ex ex)))
  · obtain ⟨x, rfl, r1⟩ := paired1 r
    obtain ⟨a, vs, rfl, h1, h2⟩ := r1.tuple
    exact ⟨a, vs, rfl, .inr ⟨SqT.of (ex _ _ h1), k _ _ F H q .refl (.tup h1 h2)⟩⟩
  · exact q.elim
/-! isinstance -/
def tyD : PyData → String
  | .none => "NoneType"
  | .bool _ => "bool"
  | .int _ => "int"
  | .str _ => "str"
  | .list _ => "list"
  | .tuple _ => "tuple"
  | .dict _ => "dict"
theorem ty_of {K : PySem.W.Frag} {H : Hp} {v : V} {d : PyData} (h : Dt H v d) : TyX K H v (.type (tyD d)) := by
  cases h with
  | non => exact .base .non
  | bl b => exact .base (.bl b)
  | int i => exact .base (.int i)
  | str x => exact .base (.str x)
  | lst h1 _ => exact .base (.lst h1)
  | tup h1 _ => exact .base (.tup h1)
def isiD (T : String) (d : PyData) (Q : PyData → Prop) : Prop := ∃ b, kitB (tyD d) T = some b ∧ Q (.bool b)
variable {a : Expr} {ta : TE} {da : DE} {p p2 pos : Pos} {x : Str}
theorem ped_isi {T : String} (hg : Gl X "isinstance") (hm : X.mg "isinstance" = none) (hgT : Gl X x) (hmT : X.mg x = none) (hv : bootBuiltins x = some (.type T)) (ha : PEr X a ta da) (hdb : (x == ("__debug__" : Str)) = false := by decide) (hnm : x ≠ "__name__" := by decide)
    (he : starEach [a, .Name x p2] X.env = (false, eval a X.env) :: starEach [.Name x p2] X.env := by rfl) (he2 : starEach [.Name x p2] X.env = (false, eval (.Name x p2) X.env) :: starEach [] X.env := by rfl) (hpl : (backTo pos (starEach [.Name x p2] X.env)).any (·.1) = false := by rfl) :
    PEd X (.Call (.Name "isinstance" p) [a, .Name x p2] [] pos) (tCB (rIsi X.K) (tCons ta (tCons (tC (.ty T)) tNil))) (d1 (isiD T) da) :=
  ⟨pe_callB call_isi hg hm (by decide +kernel) (pa_cons ha.pe (pa_cons (pe_bltn (v := .ty T) hgT hmT hv rfl hnm hdb) pa_nil he2) he) (by decide) (by decide) he hpl, fun B F H σ env Q Qv n q k =>
    ha.s B F H σ env _ _ n q fun v d F1 H1 ⟨b, eb, q1⟩ e1 n1 r1 => ⟨v, .ty T, .type (tyD d), .type T, b, rfl, .ty T, ty_of ((r1.rb n1).dt n1.g.fh), kit_ty eb, k _ _ _ _ q1 e1 n1 (.bl b)⟩⟩
end
end Pd

set_option maxRecDepth 100000
set_option maxHeartbeats 4000000
namespace Pd
open PySem L2
open Evl (Ex)

/-! ### statements -/
inductive RVd where
  | dat (d : PyData) | new (ds : List PyData)
def RVd.d : RVd → PyData
  | .dat d => d
  | .new ds => .list ds
structure DEnds where
  nx : Denv → Prop
  rt : RVd → Prop
  bk : Denv → Prop := fun _ => False
  ct : Denv → Prop := fun _ => False
  rx : RVd → Denv → Prop := fun _ _ => False
abbrev DS := DEnds → Denv → Prop
def ROk (B : Bs) (F H : Hp) (v : V) : RVd → Prop
  | .dat d => Dt F v d
  | .new ds => ∃ l vs, v = .ref l ∧ B.H l = none ∧ F l = none ∧ H l = some (.lst vs) ∧ DtA F vs ds
structure EOk (B : Bs) (F : Hp) (Dd : DEnds) (D : Ends) : Prop where
  nx : ∀ F' H' σ' env', Ex F F' → Den B F' H' σ' env' → Dd.nx env' → D.nx σ' H'
  rt : ∀ F' H' v r, Ex F F' → Grow B F' H' → ROk B F' H' v r → Dd.rt r → D.rt v H'
  bk : ∀ F' H' σ' env', Ex F F' → Den B F' H' σ' env' → Dd.bk env' → D.bk σ' H'
  ct : ∀ F' H' σ' env', Ex F F' → Den B F' H' σ' env' → Dd.ct env' → D.ct σ' H'
  rx : ∀ F' H' σ' env' v r, Ex F F' → Den B F' H' σ' env' → ROk B F' H' v r → Dd.rx r env' → D.rt v H'
theorem EOk.up {B : Bs} {F F' : Hp} {Dd : DEnds} {D : Ends} (h : EOk B F Dd D) (e : Ex F F') : EOk B F' Dd D :=
  ⟨fun F2 H2 σ2 env2 e2 => h.nx F2 H2 σ2 env2 (e.trans e2), fun F2 H2 v r e2 => h.rt F2 H2 v r (e.trans e2), fun F2 H2 σ2 env2 e2 => h.bk F2 H2 σ2 env2 (e.trans e2), fun F2 H2 σ2 env2 e2 => h.ct F2 H2 σ2 env2 (e.trans e2), fun F2 H2 σ2 env2 v r e2 => h.rx F2 H2 σ2 env2 v r (e.trans e2)⟩
def Ss (ts : TS) (t : DS) : Prop := ∀ B F H σ env D Dd, Den B F H σ env → EOk B F Dd D → t Dd env → ts D σ H
structure PSd (X : Cx) (st : Stmt) (ts : TS) (t : DS) : Prop where
  ps : PS X st ts
  s : Ss ts t
structure PSsd (X : Cx) (st : List Stmt) (ts : TS) (t : DS) : Prop where
  ps : PSs X st ts
  s : Ss ts t

section
variable {X : Cx} {e a b : Expr} {te ta tb : TE} {dd da db : DE} {dn dm : DN} {dt : DT} {tt : TT} {st : Stmt} {sts sts2 : List Stmt} {ts us : TS} {d u : DS} {pos : Pos}
def dNext : DS := fun D env => D.nx env
def dSeq (t u : DS) : DS := fun D env => t { D with nx := u D } env
theorem pssd_nil : PSsd X [] tNext dNext := ⟨pss_nil, fun B F H σ env D Dd n k q => k.nx F H σ env (Ex.refl F) n q⟩
theorem ss_seq (h1 : Ss ts d) (h2 : Ss us u) : Ss (tSeq ts us) (dSeq d u) := fun B F H σ env D Dd n k q =>
  h1 B F H σ env { D with nx := us D } { Dd with nx := u Dd } n ⟨fun F' H' σ' env' e' n' q' => h2 B F' H' σ' env' D Dd n' (k.up e') q', k.rt, k.bk, k.ct, k.rx⟩ q
theorem pssd_cons (h1 : PSd X st ts d) (h2 : PSsd X sts us u) : PSsd X (st :: sts) (tSeq ts us) (dSeq d u) := ⟨pss_cons h1.ps h2.ps, ss_seq h1.s h2.s⟩
theorem pssd_one (h1 : PSd X st ts d) : PSsd X [st] ts d := ⟨pss_one h1.ps, h1.s⟩
/-- an own list is frozen ahead of a block -/
def dFreeze (i : Nat) (t : DS) : DS := fun D env => ∃ ds, env[i]? = some (some (.own ds)) ∧ t D (env.set i (some (.dat (.list ds))))
theorem pssd_freeze (i : Nat) (h : PSsd X sts ts d) : PSsd X sts ts (dFreeze i d) := ⟨h.ps, fun B F H σ env D Dd n k q => by
  obtain ⟨ds, h1, q⟩ := q
  obtain ⟨F', e', n'⟩ := n.freeze h1
  exact h.s B F' H σ _ D Dd n' (k.up e') q⟩
def dPass : DS := fun D env => D.nx env
def dNever : DS := fun _ _ => False
theorem psd_never : PSd X st tNever dNever := ⟨ps_never, fun _ _ _ _ _ _ _ _ _ q => q.elim⟩
theorem pssd_never : PSsd X sts tNever dNever := ⟨pss_never, fun _ _ _ _ _ _ _ _ _ q => q.elim⟩
def dDrop (t : DE) : DS := fun D env => t env fun _ => D.nx env
theorem psd_expr (h : PEd X e te dd) (hp : PS X (.Expr e pos) (tDrop te)) : PSd X (.Expr e pos) (tDrop te) (dDrop dd) := ⟨hp, fun B F H σ env D Dd n k q =>
  h.s B F H σ env _ _ n q fun v d F' H' q' e' n' _ => k.nx F' H' σ env e' n' q'⟩
def dRet (t : DE) : DS := fun D env => t env fun d => D.rt (.dat d)
def dRetN (t : DN) : DS := fun D env => t env fun ds => D.rt (.new ds)
def dRetO (i : Nat) : DS := fun D env => ∃ ds, env[i]? = some (some (.own ds)) ∧ D.rt (.new ds)
theorem psd_ret (h : PEd X e te dd) (hp : PS X (.Return (some e) pos) (tRet te)) : PSd X (.Return (some e) pos) (tRet te) (dRet dd) := ⟨hp, fun B F H σ env D Dd n k q =>
  h.s B F H σ env _ _ n q fun v d F' H' q' e' n' t' => k.rt F' H' v (.dat d) e' n'.g t' q'⟩
theorem psd_retN (h : PEn X e te dn) (hp : PS X (.Return (some e) pos) (tRet te)) : PSd X (.Return (some e) pos) (tRet te) (dRetN dn) := ⟨hp, fun B F H σ env D Dd n k q =>
  h.s B F H σ env _ _ n q fun l vs ds F' H' q' e' n' f => k.rt F' H' _ (.new ds) e' n'.g ⟨l, vs, rfl, f.b, f.f, f.h, f.d⟩ q'⟩
theorem psd_retO (i : Nat) (hp : PS X (.Return (some e) pos) (tRet (tVar i))) : PSd X (.Return (some e) pos) (tRet (tVar i)) (dRetO i) := ⟨hp, fun B F H σ env D Dd n k q => by
  obtain ⟨ds, h1, q⟩ := q
  obtain ⟨l, vs, h2, h3⟩ := n.own h1
  exact ⟨_, h2, k.rt F H _ (.new ds) (Ex.refl F) n.g ⟨l, vs, rfl, h3⟩ q⟩⟩
def dRet0 : DS := fun D _ => D.rt (.dat .none)
theorem psd_ret0 (hp : PS X (.Return none pos) tRetN) : PSd X (.Return none pos) tRetN dRet0 := ⟨hp, fun B F H σ env D Dd n k q => k.rt F H _ (.dat .none) (Ex.refl F) n.g .non q⟩
def dIfS (c : DT) (t u : DS) : DS := fun D env => c env fun b => if b = true then t D env else u D env
theorem psd_if {c : Expr} (hc : PTd X c tt dt) (h1 : PSsd X sts ts d) (h2 : PSsd X sts2 us u) (hp : PS X (.If c sts sts2 pos) (tIfS tt ts us)) : PSd X (.If c sts sts2 pos) (tIfS tt ts us) (dIfS dt d u) := ⟨hp, fun B F H σ env D Dd n k q =>
  hc.s B F H σ env _ _ n q fun b F' H' q' e' n' => by
    cases b with
    | true => exact h1.s B F' H' σ env D Dd n' (k.up e') q'
    | false => exact h2.s B F' H' σ env D Dd n' (k.up e') q'⟩

/-! ### targets -/
abbrev DG := PyData → Denv → (Denv → Prop) → Prop
abbrev DGs := List PyData → Denv → (Denv → Prop) → Prop
def Sg (g : TG) (dg : DG) (vs : List Nat) : Prop := ∀ B F H σ env v d Q Qg, Den B F H σ env → Dt F v d → dg d env Q → (∀ σ' env', Q env' → Den B F H σ' env' → σ'.length = σ.length → (∀ i, i ∉ vs → σ'[i]? = σ[i]?) → Qg σ' H) → g v σ H Qg
def Sgs (g : TGs) (dg : DGs) (vs : List Nat) : Prop := ∀ B F H σ env ws ds Q Qg, Den B F H σ env → DtA F ws ds → dg ds env Q → (∀ σ' env', Q env' → Den B F H σ' env' → σ'.length = σ.length → (∀ i, i ∉ vs → σ'[i]? = σ[i]?) → Qg σ' H) → g ws σ H Qg
structure PGd (X : Cx) (tg : Expr) (g : TG) (dg : DG) (vs : List Nat) : Prop where
  pg : PG X tg g
  s : Sg g dg vs
structure PGsd (X : Cx) (tgs : List Expr) (g : TGs) (dg : DGs) (vs : List Nat) : Prop where
  pg : PGs X tgs g
  s : Sgs g dg vs
def gdName (i : Nat) : DG := fun d env Q => Q (env.set i (some (.dat d)))
def gdNil : DGs := fun ds env Q => ds = [] ∧ Q env
def gdCons (g : DG) (gs : DGs) : DGs := fun ds env Q => ∃ d r, ds = d :: r ∧ g d env fun env' => gs r env' Q
def gdTup (n : Nat) (gs : DGs) : DG := fun d env Q => ∃ ds, d = .tuple ds ∧ ds.length = n ∧ gs ds env Q
theorem sg_name (i : Nat) : Sg (gName i) (gdName i) [i] := fun B F H σ env v d Q Qg n t q k => k _ _ q (n.setD t) (by rw [List.length_set]) fun j hj => by
  rw [List.getElem?_set_ne]
  intro z
  subst z
  exact hj List.mem_cons_self
theorem pgd_name (i : Nat) (h : PG X e (gName i)) : PGd X e (gName i) (gdName i) [i] := ⟨h, sg_name i⟩
theorem pgsd_nil : PGsd X [] gNil gdNil [] := ⟨pgs_nil, fun B F H σ env ws ds Q Qg n t q k => by
  obtain ⟨rfl, q⟩ := q
  cases t
  exact ⟨rfl, k _ _ q n rfl fun _ _ => rfl⟩⟩
variable {g : TG} {gs : TGs} {dg : DG} {dgs : DGs} {vs vs1 vs2 : List Nat} {es : List Expr}
theorem sgs_cons (h1 : Sg g dg vs1) (h2 : Sgs gs dgs vs2) : Sgs (gCons g gs) (gdCons dg dgs) (vs1 ++ vs2) := fun B F H σ env ws ds Q Qg n t q k => by
  obtain ⟨d, r, rfl, q⟩ := q
  cases t with
  | cons t1 t2 =>
    refine ⟨_, _, rfl, h1 B F H σ env _ d _ _ n t1 q fun σ1 env1 q1 n1 l1 s1 => h2 B F H σ1 env1 _ r Q _ n1 t2 q1 fun σ2 env2 q2 n2 l2 s2 => k σ2 env2 q2 n2 (l2.trans l1) fun i hi => ?_⟩
    rw [List.mem_append, not_or] at hi
    exact (s2 i hi.2).trans (s1 i hi.1)
theorem sg_tup {K : PySem.W.Frag} {m : Nat} (h : Sgs gs dgs vs) : Sg (gTup K m gs) (gdTup m dgs) vs := fun B F H σ env v d Q Qg n t q k => by
  obtain ⟨ds, rfl, hl, q⟩ := q
  cases t with
  | tup h1 h2 => exact ⟨_, _, rfl, SqT.of (n.g.fh _ _ h1), h2.len.trans hl, h B F H σ env _ ds Q Qg n h2 q k⟩
def dAsgG (t : DE) (g : DG) : DS := fun D env => t env fun d => g d env D.nx
theorem psd_asg {tg : Expr} (h : PEd X e te dd) (hg : Sg g dg vs) (hp : PS X (.Assign [tg] e pos) (tAsg te g)) : PSd X (.Assign [tg] e pos) (tAsg te g) (dAsgG dd dg) := ⟨hp, fun B F H σ env D Dd n k q =>
  h.s B F H σ env _ _ n q fun v d F' H' q' e' n' t' => hg B F' H' σ env v d _ _ n' t' q' fun σ' env' q2 n2 _ _ => k.nx F' H' σ' env' e' n2 q2⟩
/-- a new list for a name -/
def dAsgN (t : DN) (i : Nat) : DS := fun D env => t env fun ds => D.nx (env.set i (some (.own ds)))
theorem ss_asgN {i : Nat} (h : Sn te dn) : Ss (tAsg te (gName i)) (dAsgN dn i) := fun B F H σ env D Dd n k q =>
  h B F H σ env _ _ n q fun l vs ds F' H' q' e' n' f => k.nx F' H' _ _ e' (n'.setN f) q'
theorem ss_asgF {i : Nat} (h : Sn te dn) : Ss (tAsg te (gName i)) (dAsgG (dFr dn) (gdName i)) := fun B F H σ env D Dd n k q =>
  h B F H σ env _ _ n q fun l vs ds F' H' q' e' n' f => by
    obtain ⟨n2, e2, d2⟩ := f.freeze n'
    exact k.nx _ _ _ _ (e'.trans e2) (n2.setD d2) q'
theorem psd_asgN {i : Nat} {tg : Expr} (h : PEn X e te dn) (hp : PS X (.Assign [tg] e pos) (tAsg te (gName i))) : PSd X (.Assign [tg] e pos) (tAsg te (gName i)) (dAsgN dn i) := ⟨hp, ss_asgN h.s⟩
/-- a, b = x, y -/
def dPar (i j : Nat) (dn : DN) : DS := fun D env => dn env fun ds => ∃ x y, ds = [x, y] ∧ D.nx ((env.set i (some (.dat x))).set j (some (.dat y)))
theorem psd_par {i j : Nat} {tA : TA} (h : PAf X es tA dn) (hp : PS X st (tPar i j tA)) : PSd X st (tPar i j tA) (dPar i j dn) := ⟨hp, fun B F H σ env D Dd n k q =>
  h.s B F H σ env _ _ n q fun vs ds F' H' ⟨x, y, ed, q'⟩ e' n' t' => by
    subst ed
    cases t' with
    | cons t1 t2 =>
      cases t2 with
      | cons t2 t3 =>
        cases t3
        exact ⟨_, _, rfl, k.nx F' H' _ _ e' ((n'.setD t1).setD t2) q'⟩⟩
def dPar3 (i j l : Nat) (dn : DN) : DS := fun D env => dn env fun ds => ∃ x y z, ds = [x, y, z] ∧ D.nx (((env.set i (some (.dat x))).set j (some (.dat y))).set l (some (.dat z)))
theorem psd_par3 {i j l : Nat} {tA : TA} (h : PAf X es tA dn) (hp : PS X st (tPar3 i j l tA)) : PSd X st (tPar3 i j l tA) (dPar3 i j l dn) := ⟨hp, fun B F H σ env D Dd n k q =>
  h.s B F H σ env _ _ n q fun vs ds F' H' ⟨x, y, z, ed, q'⟩ e' n' t' => by
    subst ed
    cases t' with
    | cons t1 t2 =>
      cases t2 with
      | cons t2 t3 =>
        cases t3 with
        | cons t3 t4 =>
          cases t4
          exact ⟨_, _, _, rfl, k.nx F' H' _ _ e' (((n'.setD t1).setD t2).setD t3) q'⟩⟩

/-! ### an own list changed -/
def dApp (i : Nat) (t : DE) : DS := fun D env => ∃ ds, env[i]? = some (some (.own ds)) ∧ t env fun d => ds.length < 1000000 ∧ D.nx (env.set i (some (.own (ds ++ [d]))))
theorem psd_app {i : Nat} {c : Expr} (h : PEd X e te dd) (hp : PS X (.Expr c pos) (tDrop (tBM X.K "list" rAppend (tVar i) (tCons te tNil)))) : PSd X (.Expr c pos) (tDrop (tBM X.K "list" rAppend (tVar i) (tCons te tNil))) (dApp i dd) := ⟨hp, fun B F H σ env D Dd n k q => by
  obtain ⟨ds, h1, q⟩ := q
  obtain ⟨l, vs, h2, h3, h4, h5, h6⟩ := n.own h1
  refine ⟨_, h2, .inl ⟨rfl, vs, SqL.of h5⟩, h.s B F H σ env _ _ n q fun v d F' H' ⟨hl, q'⟩ e' n' t' => ?_⟩
  obtain ⟨l', ws, p2, p3, p4, p5, p6⟩ := n'.own h1
  rw [h2] at p2
  cases p2
  refine ⟨l, ws, v, rfl, rfl, p5, ?_, k.nx F' _ σ _ e' (n'.mut h1 h2 (p6.app (.cons t' .nil))) q'⟩
  rw [p6.len]
  exact Nat.lt_of_lt_of_le hl (by decide)⟩
def dSetI (i : Nat) (ti te : DE) : DS := fun D env => te env fun d => ∃ ds, env[i]? = some (some (.own ds)) ∧ ti env fun x => ∃ k j, x = .int k ∧ ixN ds.length k = some j ∧ D.nx (env.set i (some (.own (ds.set j d))))
theorem psd_setI {i : Nat} {o x : Expr} {ti : TE} {di : DE} {p : Pos} (h : PEd X e te dd) (hi : PEd X x ti di) (hp : PS X (.Assign [.Subscript o x p] e pos) (tAsg te (gSub (tVar i) ti rSetL))) : PSd X (.Assign [.Subscript o x p] e pos) (tAsg te (gSub (tVar i) ti rSetL)) (dSetI i di dd) := ⟨hp, fun B F H σ env D Dd n k q => by
  refine h.s B F H σ env _ _ n q fun v d F' H' ⟨ds, h1, q'⟩ e' n' t' => ?_
  obtain ⟨l, vs, h2, h3, h4, h5, h6⟩ := n'.own h1
  refine ⟨_, h2, hi.s B F' H' σ env _ _ n' q' fun w f F2 H2 ⟨kk, j, ef, hj, q2⟩ e2 n2 t2 => ?_⟩
  subst ef
  cases t2
  obtain ⟨l', ws, p2, p3, p4, p5, p6⟩ := n2.own h1
  rw [h2] at p2
  cases p2
  exact ⟨l, ws, kk, j, rfl, rfl, p5, by rw [p6.len]; exact hj, k.nx F2 _ σ _ (e'.trans e2) (n2.mut h1 h2 (DtA.set (t'.up e2) j p6)) q2⟩⟩

/-! ### what is walked -/
/-- the iterator yields these data -/
def Wk (J : It) (F : Hp) (its : List PyData) : Prop := ∀ F' H', Ex F F' → Ex F' H' → J.stop its.length H' ∧ ∀ (i : Nat) d, its[i]? = some d → J.go i H' ∧ ∀ x H'', J.yld i H' x H'' → ∃ F'', Gro F' H' F'' H'' ∧ Dt F'' x d
def Si (wi : TI) (it : DN) : Prop := ∀ B F H σ env Q R, Den B F H σ env → it env Q → (∀ its J F' H', Q its → Ex F F' → Den B F' H' σ env → Wk J F' its → R J H') → wi σ H R
structure PId (X : Cx) (tg iter : Expr) (wi : TI) (it : DN) : Prop where
  pi : PI X tg iter wi
  s : Si wi it
def seqD : PyData → Option (List PyData)
  | .list ds => some ds
  | .tuple ds => some ds
  | _ => none
def itSeq (t : DE) : DN := fun env Q => t env fun d => ∃ ds, seqD d = some ds ∧ Q ds
def iSeq (K : PySem.W.Frag) (tl : TE) : TI := fun σ H R => tl σ H fun x H1 => ∃ a, x = .ref a ∧ (((∃ xs, SqL K H1 a xs) ∧ R (Itl K a) H1) ∨ ((∃ xs, SqT K H1 a xs) ∧ R (Itt K a) H1))
theorem pi_seq {tg : Expr} (hl : PE X e te) : PI X tg e (iSeq X.K te) := by
  refine ⟨fun pins s σ H R I h => ?_⟩
  refine thn (hl.run pins s σ H _ I h) fun v s1 ⟨x, H1, I1, r1, q1⟩ => ?_
  obtain ⟨a, e, q1⟩ := q1
  subst e
  cases r1
  rcases q1 with ⟨⟨xs, hq⟩, q⟩ | ⟨⟨xs, hq⟩, q⟩
  · obtain ⟨its, rv, p, hz⟩ := I1.list hq
    refine wpAny_pyIter_list p.isList ?_
    refine ⟨s1.heap.objs.size, [s1.heap.objs.size], _, _, H1, rfl, I1.kept (t' := s1.toks) fun b o e => Heap.get?_push_of_some _ e, turn_list a _, ⟨_, Heap.get?_push_size _ rfl, rfl, rfl⟩, fun b hb => ?_, q⟩
    have e : b = s1.heap.objs.size := by simpa using hb
    subst e
    exact I1.fpOk (Nat.le_refl _) (I1.hok.fresh (Nat.le_refl _))
  · obtain ⟨its, rv, p, hz⟩ := I1.tuple hq
    refine wpAny_pyIter_tuple (show s1.heap.IsTuple a its.toArray from p) ?_
    refine ⟨s1.heap.objs.size, [s1.heap.objs.size], _, _, H1, rfl, I1.kept (t' := s1.toks) fun b o e => Heap.get?_push_of_some _ e, turn_tuple a _, ⟨_, Heap.get?_push_size _ rfl, rfl, rfl⟩, fun b hb => ?_, q⟩
    have e : b = s1.heap.objs.size := by simpa using hb
    subst e
    exact I1.fpOk (Nat.le_refl _) (I1.hok.fresh (Nat.le_refl _))
theorem sq_inj {K : PySem.W.Frag} {H : Hp} {a : Addr} {xs ys : List V} (h : H a = some (.lst xs)) (h2 : H a = some (.lst ys)) : xs = ys := by
  rw [h] at h2
  cases h2
  rfl
theorem si_seq {K : PySem.W.Frag} (h : Sd te dd) : Si (iSeq K te) (itSeq dd) := fun B F H σ env Q R n q k => by
  refine h B F H σ env _ _ n q fun v d F' H' ⟨ds, hd, q'⟩ e' n' t' => ?_
  cases t' with
  | @lst a xs ds' h1 h2 =>
    cases hd
    refine ⟨a, rfl, .inl ⟨⟨xs, SqL.of (n'.g.fh _ _ h1)⟩, k ds _ F' H' q' e' n' fun F2 H2 e2 eh => ⟨⟨xs, SqL.of (eh _ _ (e2 _ _ h1)), Nat.le_of_eq h2.len⟩, fun i d hi => ?_⟩⟩⟩
    obtain ⟨v, hv, tv⟩ := (h2.up e2).get hi
    exact ⟨⟨xs, v, SqL.of (eh _ _ (e2 _ _ h1)), hv⟩, fun x H'' ⟨eH, y⟩ => by
      subst eH
      have := y xs (SqL.of (eh _ _ (e2 _ _ h1)))
      rw [hv] at this
      cases this
      exact ⟨F2, .refl, tv⟩⟩
  | @tup a xs ds' h1 h2 =>
    cases hd
    refine ⟨a, rfl, .inr ⟨⟨xs, SqT.of (n'.g.fh _ _ h1)⟩, k ds _ F' H' q' e' n' fun F2 H2 e2 eh => ⟨⟨xs, SqT.of (eh _ _ (e2 _ _ h1)), Nat.le_of_eq h2.len⟩, fun i d hi => ?_⟩⟩⟩
    obtain ⟨v, hv, tv⟩ := (h2.up e2).get hi
    exact ⟨⟨xs, v, SqT.of (eh _ _ (e2 _ _ h1)), hv⟩, fun x H'' ⟨eH, y⟩ => by
      subst eH
      have := y xs (SqT.of (eh _ _ (e2 _ _ h1)))
      rw [hv] at this
      cases this
      exact ⟨F2, .refl, tv⟩⟩
  | _ => cases hd
theorem pid_seq {tg : Expr} (h : PEd X e te dd) : PId X tg e (iSeq X.K te) (itSeq dd) := ⟨pi_seq h.pe, si_seq h.s⟩
def rngD (lo : Int) (n : Nat) : List PyData := (List.range n).map fun i => .int (lo + (i : Nat))
theorem rngD_len (lo : Int) (n : Nat) : (rngD lo n).length = n := by simp [rngD]
theorem wk_rng {F : Hp} {lo : Int} {n : Nat} : Wk (Itr lo n) F (rngD lo n) := fun F2 H2 e2 eh => ⟨by
    rw [rngD_len]
    exact Nat.le_refl n, fun i d hi => by
    have hl : i < n := by
      have := (List.getElem?_eq_some_iff.mp hi).1
      rw [rngD_len] at this
      exact this
    have : d = .int (lo + (i : Nat)) := by
      unfold rngD at hi
      rw [List.getElem?_map, List.getElem?_range hl] at hi
      cases hi
      rfl
    subst this
    exact ⟨hl, fun x H'' ⟨eH, ex⟩ => by
      subst eH
      subst ex
      exact ⟨F2, .refl, .int _⟩⟩⟩
def itR1 (dn : DN) : DN := fun env Q => dn env fun ds => ∃ j : Int, ds = [.int j] ∧ (-(2 ^ 62) ≤ j ∧ j < 2 ^ 62) ∧ Q (rngD 0 j.toNat)
def itR2 (dn : DN) : DN := fun env Q => dn env fun ds => ∃ i j : Int, ds = [.int i, .int j] ∧ (-(2 ^ 62) ≤ i ∧ i < 2 ^ 62 ∧ -(2 ^ 62) ≤ j ∧ j < 2 ^ 62) ∧ Q (rngD i (j - i).toNat)
variable {tA : TA}
theorem vok_int {σ : St} {env : Denv} {F : Hp} {v : V} {i : Int} (h : VOk σ env F v (.int i)) : v = .int i := by
  rcases h with h | ⟨_, _, _, _, h⟩
  · cases h
    rfl
  · cases h
theorem pid_r1 {tg : Expr} {p : Pos} (hg : Gl X "range") (hm : X.mg "range" = none) (h : PAr X [a] tA dn) (hs : starEach [a] X.env = [(false, eval a X.env)] := by rfl) : PId X tg (.Call (.Name "range" p) [a] [] pos) (iRng1 tA) (itR1 dn) := ⟨pi_range1 hg hm h.pa hs, fun B F H σ env Q R n q k =>
  h.s B F H σ env _ _ n q fun vs ds F' H' ⟨j, ed, hj, q'⟩ e' n' r' => by
    subst ed
    obtain ⟨x, rfl, r1⟩ := paired1 r'
    rw [vok_int r1]
    exact ⟨j, rfl, hj.1, hj.2, k _ _ F' H' q' e' n' wk_rng⟩⟩
theorem pid_r2 {tg : Expr} {p : Pos} (hg : Gl X "range") (hm : X.mg "range" = none) (h : PAr X [a, b] tA dn) (hs : starEach [a, b] X.env = [(false, eval a X.env), (false, eval b X.env)] := by rfl) (hs2 : starEach [b] X.env = [(false, eval b X.env)] := by rfl) : PId X tg (.Call (.Name "range" p) [a, b] [] pos) (iRng2 tA) (itR2 dn) := ⟨pi_range2 hg hm h.pa hs hs2, fun B F H σ env Q R n q k =>
  h.s B F H σ env _ _ n q fun vs ds F' H' ⟨i, j, ed, hj, q'⟩ e' n' r' => by
    subst ed
    obtain ⟨x, y, rfl, r1, r2⟩ := paired2 r'
    rw [vok_int r1, vok_int r2]
    exact ⟨i, j, rfl, hj, k _ _ F' H' q' e' n' wk_rng⟩⟩
def enumD : Nat → List PyData → List PyData
  | _, [] => []
  | n, d :: ds => .tuple [.int (n : Nat), d] :: enumD (n + 1) ds
theorem enumD_len : ∀ (n : Nat) (ds : List PyData), (enumD n ds).length = ds.length
  | _, [] => rfl
  | n, d :: ds => by
    show (enumD (n + 1) ds).length + 1 = ds.length + 1
    rw [enumD_len]
theorem enumD_get : ∀ (n : Nat) (ds : List PyData) (i : Nat), (enumD n ds)[i]? = (ds[i]?).map fun d => .tuple [.int ((n + i : Nat) : Int), d]
  | _, [], i => by simp [enumD]
  | n, d :: ds, 0 => by simp [enumD]
  | n, d :: ds, i + 1 => by
    show (enumD (n + 1) ds)[i]? = _
    rw [enumD_get (n + 1) ds i, List.getElem?_cons_succ]
    congr 1
    funext d
    rw [show n + 1 + i = n + (i + 1) by omega]
def itEnum (dn : DN) : DN := fun env Q => dn env fun ds' => ∃ ds, ds' = [.list ds] ∧ Q (enumD 0 ds)
theorem pid_enumL {p tpos : Pos} {elts : List Expr} {kk : Nat} (hg : Gl X "enumerate") (hm : X.mg "enumerate" = none) (h : PAf X [a] tA dn) (hs : starEach [a] X.env = [(false, eval a X.env)] := by rfl) : PId X (.Tuple elts kk tpos) (.Call (.Name "enumerate" p) [a] [] pos) (iEnum X.K tA) (itEnum dn) := ⟨pi_enum hg hm h.pa hs, fun B F H σ env Q R n q k =>
  h.s B F H σ env _ _ n q fun vs ds F' H' ⟨ds', ed, q'⟩ e' n' r' => by
    subst ed
    cases r' with
    | cons r1 r2 =>
      cases r2
      cases r1 with
      | @lst l ws _ h1 h2 =>
        refine ⟨l, ws, rfl, SqL.of (n'.g.fh _ _ h1), k _ _ F' H' q' e' n' fun F2 H2 e2 eh => ⟨⟨ws, SqL.of (eh _ _ (e2 _ _ h1)), ?_⟩, fun i d hi => ?_⟩⟩
        · rw [enumD_len, h2.len]
          exact Nat.le_refl _
        · rw [enumD_get] at hi
          cases hd : ds'[i]? with
          | none =>
            rw [hd] at hi
            cases hi
          | some z =>
            rw [hd] at hi
            cases hi
            obtain ⟨v, hv, tv⟩ := (h2.up e2).get hd
            refine ⟨⟨ws, v, SqL.of (eh _ _ (e2 _ _ h1)), hv⟩, fun x H'' ⟨T, y, ex, hT, eH, hy⟩ => ?_⟩
            have := hy ws (SqL.of (eh _ _ (e2 _ _ h1)))
            rw [hv] at this
            cases this
            subst ex
            subst eH
            have g : Gro F2 H2 (upd F2 T (.tup [.int (i : Nat), v])) (upd H2 T (.tup [.int (i : Nat), v])) := .new hT
            refine ⟨_, g, .tup upd_same (.cons ?_ (.cons (tv.up (g.ex eh)) .nil))⟩
            rw [Nat.zero_add]
            exact .int _⟩
def zipD (xs ys : List PyData) : List PyData := List.zipWith (fun x y => .tuple [x, y]) xs ys
/-! ### for -/
def dForL (g : DG) (tb : DS) : List PyData → DS
  | [], D, env => D.nx env
  | d :: ds, D, env => g d env fun env' => tb { D with nx := dForL g tb ds D, ct := dForL g tb ds D, bk := D.nx } env'
def dFor (it : DN) (g : DG) (tb : DS) : DS := fun D env => it env fun its => dForL g tb its D env
variable {wi : TI} {it : DN}
theorem ss_for (hi : Si wi it) (hg : Sg g dg vs) (hb : Ss ts d) : Ss (tFor wi g ts) (dFor it dg d) := fun B F H σ env D Dd n k q => by
  refine hi B F H σ env _ _ n q fun its J F1 H1 q1 e1 n1 wk => ?_
  refine ⟨fun i m σ' H' => m = its.length - i ∧ i ≤ its.length ∧ ∃ F' env', Ex F1 F' ∧ Den B F' H' σ' env' ∧ dForL dg d (its.drop i) Dd env', ⟨its.length, rfl, Nat.zero_le _, F1, env, Ex.refl _, n1, q1⟩, ?_⟩
  rintro i m σ' H' ⟨rfl, hi', F', env', e', n', q'⟩
  obtain ⟨w1, w2⟩ := wk F' H' e' n'.g.fh
  by_cases hlt : i < its.length
  · refine .inr ⟨(w2 i its[i] (List.getElem?_eq_getElem hlt)).1, fun σ2 H2 => ∃ F2 env2, Ex F1 F2 ∧ Den B F2 H2 σ2 env2 ∧ dForL dg d (its.drop (i + 1)) Dd env2, fun σ2 H2 ⟨F2, env2, p1, p2, p3⟩ => ⟨its.length - (i + 1), by omega, rfl, hlt, F2, env2, p1, p2, p3⟩, fun x H'' hy => ?_⟩
    obtain ⟨F'', g'', t''⟩ := (w2 i its[i] (List.getElem?_eq_getElem hlt)).2 x H'' hy
    rw [List.drop_eq_getElem_cons hlt] at q'
    have n'' := n'.gro g''
    have e'' := e'.trans (g''.ex n'.g.fh)
    refine hg B F'' H'' σ' env' x _ _ _ n'' t'' q' fun σ2 env2 q2 n2 _ _ => hb B F'' H'' σ2 env2 _ { Dd with nx := dForL dg d (its.drop (i + 1)) Dd, ct := dForL dg d (its.drop (i + 1)) Dd, bk := Dd.nx } n2 ⟨fun F3 H3 σ3 env3 e3 n3 q3 => ⟨F3, env3, e''.trans e3, n3, q3⟩, fun F3 H3 v r e3 => k.rt F3 H3 v r ((e1.trans e'').trans e3), fun F3 H3 σ3 env3 e3 => k.nx F3 H3 σ3 env3 ((e1.trans e'').trans e3), fun F3 H3 σ3 env3 e3 n3 q3 => ⟨F3, env3, e''.trans e3, n3, q3⟩, fun F3 H3 σ3 env3 v r e3 => k.rx F3 H3 σ3 env3 v r ((e1.trans e'').trans e3)⟩ q2
  · have ei : i = its.length := by omega
    subst ei
    rw [List.drop_length] at q'
    exact .inl ⟨w1, k.nx F' H' σ' env' (e1.trans e') n' q'⟩
theorem psd_for {tg iter : Expr} {body : List Stmt} (hi : PId X tg iter wi it) (hg : PGd X tg g dg vs) (hb : PSsd X body ts d) (hp : PS X (.For tg iter body [] pos) (tFor wi g ts)) : PSd X (.For tg iter body [] pos) (tFor wi g ts) (dFor it dg d) := ⟨hp, ss_for hi.s hg.s hb.s⟩
/-! ### while -/
def dWhile (c : DT) (tb : DS) : DS := fun D env => ∃ W : Nat → Denv → Prop, (∃ m, W m env) ∧ ∀ m env, W m env → c env fun b => if b = true then ∃ N : Denv → Prop, (∀ env', N env' → ∃ m', m' < m ∧ W m' env') ∧ tb { D with nx := N, ct := N, bk := D.nx } env else D.nx env
theorem ss_while (hc : St' tt dt) (hb : Ss ts d) : Ss (tWhile tt ts) (dWhile dt d) := fun B F H σ env D Dd n k q => by
  obtain ⟨W, ⟨m0, w0⟩, turn⟩ := q
  refine ⟨fun m σ' H' => ∃ F' env', Ex F F' ∧ Den B F' H' σ' env' ∧ W m env', ⟨m0, F, env, Ex.refl _, n, w0⟩, fun m σ' H' ⟨F', env', e', n', w'⟩ => ?_⟩
  refine hc B F' H' σ' env' _ _ n' (turn m env' w') fun b F2 H2 q2 e2 n2 => ?_
  cases b with
  | true =>
    obtain ⟨N, hN, q2⟩ := q2
    refine ⟨fun σ3 H3 => ∃ F3 env3, Ex F F3 ∧ Den B F3 H3 σ3 env3 ∧ N env3, fun σ3 H3 ⟨F3, env3, p1, p2, p3⟩ => ?_, hb B F2 H2 σ' env' _ { Dd with nx := N, ct := N, bk := Dd.nx } n2 ⟨fun F3 H3 σ3 env3 e3 n3 q3 => ⟨F3, env3, (e'.trans e2).trans e3, n3, q3⟩, fun F3 H3 v r e3 => k.rt F3 H3 v r ((e'.trans e2).trans e3), fun F3 H3 σ3 env3 e3 => k.nx F3 H3 σ3 env3 ((e'.trans e2).trans e3), fun F3 H3 σ3 env3 e3 n3 q3 => ⟨F3, env3, (e'.trans e2).trans e3, n3, q3⟩, fun F3 H3 σ3 env3 v r e3 => k.rx F3 H3 σ3 env3 v r ((e'.trans e2).trans e3)⟩ q2⟩
    obtain ⟨m', hm, w3⟩ := hN env3 p3
    exact ⟨m', hm, F3, env3, p1, p2, w3⟩
  | false => exact k.nx F2 H2 σ' env' (e'.trans e2) n2 q2
theorem psd_while {c : Expr} {body : List Stmt} (hc : PTd X c tt dt) (hb : PSsd X body ts d) (hp : PS X (.While c body [] pos) (tWhile tt ts)) : PSd X (.While c body [] pos) (tWhile tt ts) (dWhile dt d) := ⟨hp, ss_while hc.s hb.s⟩
/-! ### comprehensions -/
def wipeD (env : Denv) : List Nat → Denv
  | [] => env
  | v :: vs => (wipeD env vs).set v none
theorem wipeD_length (env : Denv) : ∀ vs : List Nat, (wipeD env vs).length = env.length
  | [] => rfl
  | v :: vs => by unfold wipeD; rw [List.length_set, wipeD_length env vs]
theorem wipeD_some {env : Denv} {i : Nat} {x : SV} : ∀ {vs : List Nat}, (wipeD env vs)[i]? = some (some x) → env[i]? = some (some x) ∧ i ∉ vs
  | [], h => ⟨h, by simp⟩
  | v :: vs, h => by
    unfold wipeD at h
    by_cases hi : v = i
    · subst hi
      by_cases hv : v < (wipeD env vs).length
      · rw [List.getElem?_set_self hv] at h; cases h
      · rw [List.getElem?_eq_none (by simpa using hv)] at h; cases h
    · rw [List.getElem?_set_ne hi] at h
      obtain ⟨h1, h2⟩ := wipeD_some h
      exact ⟨h1, by simp only [List.mem_cons, not_or]; exact ⟨fun e => hi e.symm, h2⟩⟩
theorem wipe_get {σ : St} {i : Nat} : ∀ {vs : List Nat}, i ∉ vs → (wipe σ vs)[i]? = σ[i]?
  | [], _ => rfl
  | v :: vs, h => by
    unfold wipe
    simp only [List.mem_cons, not_or] at h
    rw [List.getElem?_set_ne (fun z => h.1 z.symm), wipe_get h.2]
theorem wipe_at {σ : St} {i : Nat} : ∀ {vs : List Nat}, i ∈ vs → i < σ.length → (wipe σ vs)[i]? = some none
  | v :: vs, h, hl => by
    unfold wipe
    by_cases hi : v = i
    · subst hi
      rw [List.getElem?_set_self (by rw [wipe_length]; exact hl)]
    · rw [List.getElem?_set_ne hi]
      rcases List.mem_cons.mp h with z | z
      · exact absurd z.symm hi
      · exact wipe_at z hl
theorem wipe_congr {σ τ : St} {vs : List Nat} (hl : σ.length = τ.length) (h : ∀ i, i ∉ vs → σ[i]? = τ[i]?) : wipe σ vs = wipe τ vs := by
  refine List.ext_getElem? fun i => ?_
  by_cases hi : i ∈ vs
  · by_cases hx : i < σ.length
    · rw [wipe_at hi hx, wipe_at hi (by omega)]
    · rw [List.getElem?_eq_none (by rw [wipe_length]; omega), List.getElem?_eq_none (by rw [wipe_length]; omega)]
  · rw [wipe_get hi, wipe_get hi, h i hi]
theorem wipe_wipe {σ : St} {vs : List Nat} : wipe (wipe σ vs) vs = wipe σ vs := wipe_congr (wipe_length σ vs) fun i hi => wipe_get hi
theorem Den.wipe {B : Bs} {F H : Hp} {σ : St} {env : Denv} (n : Den B F H σ env) (vs : List Nat) : Den B F H (wipe σ vs) (wipeD env vs) := n.forget (by rw [wipeD_length, wipe_length, n.len]) fun i sv h => by
  obtain ⟨h1, h2⟩ := wipeD_some h
  exact ⟨h1, wipe_get h2⟩
def dropO (env : Denv) : Denv := env.map fun o => match o with
  | some (.own _) => none
  | some (.obj _ _ _) => none
  | some (.tab _ _) => none
  | some (.raw _) => none
  | x => x
theorem dropO_some {env : Denv} {i : Nat} {x : SV} (h : (dropO env)[i]? = some (some x)) : env[i]? = some (some x) ∧ (∀ ds, x ≠ .own ds) ∧ (∀ C p fs, x ≠ .obj C p fs) ∧ (∀ P q, x ≠ .tab P q) ∧ ∀ u, x ≠ .raw u := by
  unfold dropO at h
  rw [List.getElem?_map] at h
  cases e : env[i]? with
  | none =>
    rw [e] at h
    cases h
  | some o =>
    rw [e] at h
    cases o with
    | none => cases h
    | some sv =>
      cases sv with
      | own ds => cases h
      | obj C p fs => cases h
      | tab P q => cases h
      | raw u => cases h
      | dat d =>
        cases h
        exact ⟨rfl, (fun _ z => nomatch z), (fun _ _ _ z => nomatch z), (fun _ _ z => nomatch z), fun _ z => nomatch z⟩
      | bag =>
        cases h
        exact ⟨rfl, (fun _ z => nomatch z), (fun _ _ _ z => nomatch z), (fun _ _ z => nomatch z), fun _ z => nomatch z⟩
/-- the slots that a block may read -/
structure SlC (fp : Addr → Prop) (F : Hp) (σ : St) (env : Denv) : Prop where
  len : env.length = σ.length
  no : ∀ (i : Nat) ds, env[i]? ≠ some (some (.own ds))
  noO : ∀ (i : Nat) C p fs, env[i]? ≠ some (some (.obj C p fs))
  noT : ∀ (i : Nat) P q, env[i]? ≠ some (some (.tab P q))
  noR : ∀ (i : Nat) u, env[i]? ≠ some (some (.raw u))
  dat : ∀ (i : Nat) d, env[i]? = some (some (.dat d)) → ∃ v, σ[i]? = some (some v) ∧ Dt F v d
  bag : ∀ (i : Nat), env[i]? = some (some .bag) → ∃ b, σ[i]? = some (some (.ref b)) ∧ fp b
theorem SlC.up {fp : Addr → Prop} {F F' : Hp} {σ : St} {env : Denv} (h : SlC fp F σ env) (e : Ex F F') : SlC fp F' σ env := ⟨h.len, h.no, h.noO, h.noT, h.noR, fun i d hi => by
  obtain ⟨v, h1, h2⟩ := h.dat i d hi
  exact ⟨v, h1, h2.up e⟩, h.bag⟩
theorem SlC.den {B : Bs} {F H : Hp} {σ : St} {env : Denv} (h : SlC B.fp F σ env) (g : Grow B F H) : Den (mkB H F B.fp) F H σ env := ⟨Grow.start g.fh fun b hb => ⟨g.bagNF hb, g.bag b hb⟩, h.len, fun i sv hi => by
  cases sv with
  | dat d => exact h.dat i d hi
  | own ds => exact absurd hi (h.no i ds)
  | obj C p fs => exact absurd hi (h.noO i C p fs)
  | tab P q => exact absurd hi (h.noT i P q)
  | raw u => exact absurd hi (h.noR i u)
  | bag =>
    obtain ⟨b, h1, h2⟩ := h.bag i hi
    exact ⟨_, h1, b, rfl, h2⟩, fun i j ds es l h1 _ _ _ => absurd h1 (h.no i ds), fun i j C C' p fs gs h1 _ => absurd h1 (h.noO i C p fs)⟩
theorem Den.slC {B : Bs} {F H : Hp} {σ : St} {env : Denv} (n : Den B F H σ env) (vs : List Nat) : SlC B.fp F (L2.wipe σ vs) (dropO (wipeD env vs)) := ⟨by
    unfold dropO
    rw [List.length_map, wipeD_length, wipe_length, n.len], fun i ds h => (dropO_some h).2.1 ds rfl, fun i C p fs h => (dropO_some h).2.2.1 C p fs rfl, fun i P q h => (dropO_some h).2.2.2.1 P q rfl, fun i u h => (dropO_some h).2.2.2.2 u rfl, fun i d h => by
    obtain ⟨h1, _⟩ := dropO_some h
    obtain ⟨h2, h3⟩ := wipeD_some h1
    obtain ⟨v, h4, h5⟩ := n.slot i _ h2
    exact ⟨v, by rw [wipe_get h3]; exact h4, h5⟩, fun i h => by
    obtain ⟨h1, _⟩ := dropO_some h
    obtain ⟨h2, h3⟩ := wipeD_some h1
    obtain ⟨v, h4, b, rfl, h5⟩ := n.slot i _ h2
    exact ⟨b, by rw [wipe_get h3]; exact h4, h5⟩⟩
def lcL (g : DG) (tt : DT) (te : DE) (env : Denv) : List PyData → (List PyData → Prop) → Prop
  | [], Q => Q []
  | d :: ds, Q => g d env fun env' => tt env' fun b => if b = true then te env' fun y => lcL g tt te env ds fun ys => Q (y :: ys) else lcL g tt te env ds Q
def nLc (it : DN) (g : DG) (tt : DT) (te : DE) (vs : List Nat) : DN := fun env Q => it env fun its => its.length ≤ 1000000 ∧ lcL g tt te (dropO (wipeD env vs)) its Q
def dYes : DT := fun _ Q => Q true
theorem st_yes : St' tYes dYes := fun B F H σ env Q Qv n q k => k true F H q (Ex.refl F) n
theorem lcL_mono {g : DG} {tt : DT} {te : DE} {env : Denv} (hg : ∀ d env Q Q', (∀ x, Q x → Q' x) → g d env Q → g d env Q') (ht : ∀ env (Q Q' : Bool → Prop), (∀ x, Q x → Q' x) → tt env Q → tt env Q') (he : ∀ env (Q Q' : PyData → Prop), (∀ x, Q x → Q' x) → te env Q → te env Q') :
    ∀ (ds : List PyData) (Q Q' : List PyData → Prop), (∀ x, Q x → Q' x) → lcL g tt te env ds Q → lcL g tt te env ds Q'
  | [], Q, Q', h, q => h _ q
  | d :: ds, Q, Q', h, q => hg d env _ _ (fun env' q1 => ht env' _ _ (fun b q2 => by
      cases b with
      | true => exact he env' _ _ (fun y q3 => lcL_mono hg ht he ds _ _ (fun ys q4 => h _ q4) q3) q2
      | false => exact lcL_mono hg ht he ds _ _ h q2) q1) q
theorem sn_lc {wi : TI} {it : DN} {g : TG} {dg : DG} {vs vs' : List Nat} {tt : TT} {dt : DT} {te : TE} {dd : DE} (hi : Si wi it) (hg : Sg g dg vs') (hv : ∀ i ∈ vs', i ∈ vs) (ht : St' tt dt) (he : Sd te dd) : Sn (tLc wi g tt te vs) (nLc it dg dt dd vs) := fun B F H σ env Q Qv n q k => by
  refine hi B F H σ env _ _ n q fun its J F1 H1 ⟨hz, q1⟩ e1 n1 wk => ?_
  intro D hD
  have sl1 := n1.slC vs
  refine ⟨fun i m H' => m = its.length - i ∧ i ≤ its.length ∧ ∃ F' accv acc, Grow (mkB H1 F1 B.fp) F' H' ∧ H' D = some (.lst accv) ∧ F' D = none ∧ DtA F' accv acc ∧ acc.length ≤ i ∧ lcL dg dt dd (dropO (wipeD env vs)) (its.drop i) fun ys => Q (acc ++ ys), ⟨its.length, rfl, Nat.zero_le _, F1, [], [], ?_, upd_same, Ex.none n1.g.fh hD, .nil, Nat.le_refl _, q1⟩, ?_⟩
  · exact (Grow.start n1.g.fh fun b hb => ⟨n1.g.bagNF hb, n1.g.bag b hb⟩).own hD
  · rintro i m H' ⟨rfl, hi', F', accv, acc, g', hD', fD', ta, hl, q'⟩
    have eF : Ex F1 F' := g'.bf
    obtain ⟨w1, w2⟩ := wk F' H' eF g'.fh
    have nD : ¬ B.fp D := fun z => by
      obtain ⟨_, o, h2⟩ := n1.g.fpn D z
      rw [n1.g.new0 hD] at h2
      cases h2
    by_cases hlt : i < its.length
    · refine .inr ⟨(w2 i its[i] (List.getElem?_eq_getElem hlt)).1, fun H2 => ∃ F2 accv acc, Grow (mkB H1 F1 B.fp) F2 H2 ∧ H2 D = some (.lst accv) ∧ F2 D = none ∧ DtA F2 accv acc ∧ acc.length ≤ i + 1 ∧ lcL dg dt dd (dropO (wipeD env vs)) (its.drop (i + 1)) fun ys => Q (acc ++ ys), fun H2 ⟨F2, av, ac, p⟩ => ⟨its.length - (i + 1), by omega, rfl, hlt, F2, av, ac, p⟩, fun x H'' hy => ?_⟩
      obtain ⟨F'', g'', t''⟩ := (w2 i its[i] (List.getElem?_eq_getElem hlt)).2 x H'' hy
      rw [List.drop_eq_getElem_cons hlt] at q'
      have n' : Den (mkB H' F' B.fp) F' H' (wipe σ vs) (dropO (wipeD env vs)) := SlC.den (B := (mkB H1 F1 B.fp)) (sl1.up eF) g'
      have n'' := n'.gro g''
      refine hg _ F'' H'' (wipe σ vs) _ x _ _ _ n'' t'' q' fun σ2 env2 q2 n2 l2 s2 => ⟨?_, ?_⟩
      · rw [wipe_congr l2 fun i hi => s2 i fun z => hi (hv i z), wipe_wipe]
      · refine ht _ F'' H'' σ2 env2 _ _ n2 q2 fun b F3 H3 q3 e3 n3 => ?_
        have back : ∀ {F4 H4 : Hp}, Den (mkB H' F' B.fp) F4 H4 σ2 env2 → Grow (mkB H1 F1 B.fp) F4 H4 ∧ H4 D = some (.lst accv) ∧ F4 D = none ∧ Ex F' F4 := fun {F4 H4} n4 => ⟨g'.call n4.g, n4.g.keep D _ nD (fun z => z) hD', n4.g.nofr D _ hD' fD', n4.g.bf⟩
        cases b with
        | false =>
          obtain ⟨b1, b2, b3, b4⟩ := back n3
          exact ⟨F3, accv, acc, b1, b2, b3, ta.up b4, by omega, q3⟩
        | true =>
          refine he _ F3 H3 σ2 env2 _ _ n3 q3 fun y d F4 H4 q4 e4 n4 t4 => ?_
          obtain ⟨b1, b2, b3, b4⟩ := back n4
          refine ⟨accv, b2, ?_, F4, accv ++ [y], acc ++ [d], b1.mut (n1.g.new0 hD ▸ hD) b3 b2, upd_same, b3, (ta.up b4).app (.cons t4 .nil), ?_, ?_⟩
          · rw [ta.len]
            exact Nat.lt_of_le_of_lt hl (Nat.lt_of_lt_of_le hlt (Nat.le_trans hz (by decide)))
          · rw [List.length_append]
            show acc.length + 1 ≤ i + 1
            omega
          · show lcL dg dt dd (dropO (wipeD env vs)) (its.drop (i + 1)) fun ys => Q ((acc ++ [d]) ++ ys)
            have ea : (fun ys : List PyData => Q ((acc ++ [d]) ++ ys)) = fun ys => Q (acc ++ d :: ys) := by
              funext ys
              rw [List.append_assoc]
              rfl
            rw [ea]
            exact q4
    · have ei : i = its.length := by omega
      subst ei
      rw [List.drop_length] at q'
      refine .inl ⟨w1, ?_⟩
      have q2 : Q (acc ++ []) := q'
      rw [List.append_nil] at q2
      refine k D accv acc F' H' q2 (e1.trans eF) (n1.call g') ⟨n1.g.new0 hD, fD', hD', ta, fun i es hi z => ?_⟩
      obtain ⟨l, ws, p1, p2, p3, p4, p5⟩ := n1.own hi
      rw [z] at p1
      cases p1
      rw [hD] at p4
      cases p4
end
section
variable {X : Cx} {elt tg iter : Expr} {ifs : List Expr} {scope : Scope} {own : List (Str × Nat)} {pos spos : Pos} {wi : TI} {it : DN} {g : TG} {dg : DG} {vs' : List Nat} {tt : TT} {dt : DT} {te : TE} {dd : DE}
structure PTsd (X : Cx) (ifs : List Expr) (tt : TT) (t : DT) : Prop where
  pt : PTs X ifs tt
  s : St' tt t
theorem ptsd_nil : PTsd X [] tYes dYes := ⟨pts_nil, st_yes⟩
theorem ptsd_one {c : Expr} (h : PTd X c tt dt) : PTsd X [c] tt dt := ⟨pts_one h.pt, h.s⟩
theorem pen_lc (hc : X.calm = true) (hN : X.N.Nodup) (hi : PId X tg iter wi it) (ok : BlkOk X.N X.env.scope scope own)
    (hg : ∀ (s : Shared) (H : Hp) (C : Addr) (cl : List (Str × Addr)) (fp : List Addr), PGd (X.blk s H scope (compEnvC scope cl C X.env) fp) tg g dg vs') (hv : ∀ i ∈ vs', i ∈ own.map (·.2)) (ht : ∀ (s : Shared) (H : Hp) (C : Addr) (cl : List (Str × Addr)) (fp : List Addr), PTsd (X.blk s H scope (compEnvC scope cl C X.env) fp) ifs tt dt)
    (he : ∀ (s : Shared) (H : Hp) (C : Addr) (cl : List (Str × Addr)) (fp : List Addr), PEd (X.blk s H scope (compEnvC scope cl C X.env) fp) elt te dd) (hs : ∀ x, foldedSetIterable iter X.env x = pure x := by intro _; rfl) :
    PEn X (.ListComp elt [⟨tg, iter, ifs, 0⟩] scope pos) (tLc wi g tt te (own.map (·.2))) (nLc it dg dt dd (own.map (·.2))) :=
  ⟨pe_lc hc hN hi.pi ok (fun s H C cl fp => (hg s H C cl fp).pg) (fun s H C cl fp => (ht s H C cl fp).pt) (fun s H C cl fp => (he s H C cl fp).pe) hs,
    sn_lc hi.s (hg ({} : Shared) (fun _ => none) 0 [] []).s hv (ht ({} : Shared) (fun _ => none) 0 [] []).s (he ({} : Shared) (fun _ => none) 0 [] []).s⟩
end
end Pd

set_option maxRecDepth 100000
set_option maxHeartbeats 4000000
namespace Pd
open PySem L2
open PyProof.Rows (envOfC)
open Evl (Ex)

/-! ### defs and their calls -/
abbrev DSp := List SV → (RVd → Prop) → Prop
abbrev DA := Denv → (List SV → Prop) → Prop
def ArgOk (fp : Addr → Prop) (F : Hp) (v : V) : SV → Prop
  | .dat d => Dt F v d
  | .bag => ∃ b, v = .ref b ∧ fp b
  | .own _ => False
  | .obj _ _ _ => False
  | .tab _ _ => False
  | .raw u => v = u
def lift (dsp : DSp) : Sp := fun vs H Q _ => ∃ (F : Hp) (fp : Addr → Prop) (svs : List SV) (R : RVd → Prop), Ex F H ∧ Paired (ArgOk fp F) vs svs ∧ (∀ b, fp b → F b = none ∧ BagAt F H b) ∧ dsp svs R ∧
  ∀ v r F' H', R r → Grow (mkB H F fp) F' H' → ROk (mkB H F fp) F' H' v r → Q v H'
theorem ArgOk.up {fp : Addr → Prop} {F F' : Hp} {v : V} {sv : SV} (h : ArgOk fp F v sv) (e : Ex F F') : ArgOk fp F' v sv := by
  cases sv with
  | dat d => exact Dt.up h e
  | bag => exact h
  | own ds => exact h
  | obj C p fs => exact h
  | tab P q => exact h
  | raw u => exact h
def Sc (ta : TA) (da : DA) : Prop := ∀ B F H σ env Q Qv, Den B F H σ env → da env Q → (∀ vs svs F' H', Q svs → Ex F F' → Den B F' H' σ env → Paired (ArgOk B.fp F') vs svs → Qv vs H') → ta σ H Qv
structure PAc (X : Cx) (es : List Expr) (ta : TA) (da : DA) : Prop where
  pa : PA X es ta
  s : Sc ta da
def aNil : DA := fun _ Q => Q []
def aDat (t : DE) (r : DA) : DA := fun env Q => t env fun d => r env fun svs => Q (.dat d :: svs)
def aBag (i : Nat) (r : DA) : DA := fun env Q => env[i]? = some (some .bag) ∧ r env fun svs => Q (.bag :: svs)
section
variable {X : Cx} {e : Expr} {es : List Expr} {te : TE} {ta : TA} {dd : DE} {da : DA} {pos p : Pos} {x : Str} {dsp : DSp}
theorem pac_nil : PAc X [] tNil aNil := ⟨pa_nil, fun B F H σ env Q Qv n q k => k [] [] F H q (Ex.refl F) n .nil⟩
theorem pac_d (ha : PEd X e te dd) (hr : PAc X es ta da) (hs : starEach (e :: es) X.env = (false, eval e X.env) :: starEach es X.env := by rfl) : PAc X (e :: es) (tCons te ta) (aDat dd da) := ⟨pa_cons ha.pe hr.pa hs, fun B F H σ env Q Qv n q k =>
  ha.s B F H σ env _ _ n q fun v d F1 H1 q1 e1 n1 r1 => hr.s B F1 H1 σ env _ _ n1 q1 fun vs svs F2 H2 q2 e2 n2 r2 => k (v :: vs) (.dat d :: svs) F2 H2 q2 (e1.trans e2) n2 (.cons (Dt.up r1 e2) r2)⟩
theorem pac_bag (i : Nat) (h : PE X e (tVar i)) (hr : PAc X es ta da) (hs : starEach (e :: es) X.env = (false, eval e X.env) :: starEach es X.env := by rfl) : PAc X (e :: es) (tCons (tVar i) ta) (aBag i da) := ⟨pa_cons h hr.pa hs, fun B F H σ env Q Qv n q k => by
  obtain ⟨h1, q⟩ := q
  obtain ⟨v, h2, b, rfl, h3⟩ := n.slot i _ h1
  exact ⟨_, h2, hr.s B F H σ env _ _ n q fun vs svs F2 H2 q2 e2 n2 r2 => k (.ref b :: vs) (.bag :: svs) F2 H2 q2 e2 n2 (.cons ⟨b, rfl, h3⟩ r2)⟩⟩
def dCall (dsp : DSp) (da : DA) : DE := fun env Q => da env fun svs => dsp svs fun r => Q r.d
def nCall (dsp : DSp) (da : DA) : DN := fun env Q => da env fun svs => dsp svs fun r => ∃ ds, r = .new ds ∧ Q ds
/-- what a call leaves, for its caller -/
theorem ROk.back {B : Bs} {F H F' H' : Hp} {σ : St} {env : Denv} {l : Addr} {vs : List V} {ds : List PyData} (n : Den B F H σ env) (c : Grow (mkB H F B.fp) F' H') (h1 : H l = none) (h2 : F' l = none) (h3 : H' l = some (.lst vs)) (h4 : DtA F' vs ds) : Fresh B F' H' σ env l vs ds := ⟨n.g.new0 h1, h2, h3, h4, fun i es hi z => by
  obtain ⟨l', ws, p1, p2, p3, p4, p5⟩ := n.own hi
  rw [z] at p1
  cases p1
  rw [h1] at p4
  cases p4⟩
theorem sd_call {E : XK} (ha : Sc ta da) : Sd (tCall (lift dsp) [] E ta) (dCall dsp da) := fun B F H σ env Q Qv n q k =>
  ha B F H σ env _ _ n q fun vs svs F1 H1 q1 e1 n1 r1 => by
    rw [List.append_nil]
    refine ⟨F1, B.fp, svs, _, n1.g.fh, r1, fun b hb => ⟨n1.g.bagNF hb, n1.g.bag b hb⟩, q1, fun v r F' H' q' g' r' => ?_⟩
    cases r with
    | dat d => exact k v d F' H' q' (e1.trans g'.bf) (n1.call g') r'
    | new ds =>
      obtain ⟨l, ws, rfl, h1, h2, h3, h4⟩ := r'
      have n' := n1.call g'
      obtain ⟨n2, e2, d2⟩ := (ROk.back n1 g' h1 h2 h3 h4).freeze n'
      exact k _ _ _ _ q' ((e1.trans g'.bf).trans e2) n2 d2
theorem sn_call {E : XK} (ha : Sc ta da) : Sn (tCall (lift dsp) [] E ta) (nCall dsp da) := fun B F H σ env Q Qv n q k =>
  ha B F H σ env _ _ n q fun vs svs F1 H1 q1 e1 n1 r1 => by
    rw [List.append_nil]
    refine ⟨F1, B.fp, svs, _, n1.g.fh, r1, fun b hb => ⟨n1.g.bagNF hb, n1.g.bag b hb⟩, q1, fun v r F' H' q' g' r' => ?_⟩
    obtain ⟨ds, rfl, q'⟩ := q'
    obtain ⟨l, ws, rfl, h1, h2, h3, h4⟩ := r'
    exact k l ws ds F' H' q' (e1.trans g'.bf) (n1.call g') (ROk.back n1 g' h1 h2 h3 h4)
variable {k : Nat} {f : Addr} {fd : FuncData} {ps : List Str}
theorem ped_call (F : FnOk X.prog X.w X.K X.mg X.base CX0 k f fd ps (lift dsp)) (hr : Room k X.A) (hg : Gl X x) (hm : X.mg x = some (.ref f)) (hk : PySem.W.keepIn X.K (.ref f) = true) (hb : Binds X.K fd ps []) (ha : PAc X (e :: es) ta da) (hdb : (x == ("__debug__" : Str)) = false := by decide)
    (he : starEach (e :: es) X.env = (false, eval e X.env) :: starEach es X.env := by rfl) (hpl : (backTo pos (starEach es X.env)).any (·.1) = false := by rfl) : PEd X (.Call (.Name x p) (e :: es) [] pos) (tCall (lift dsp) [] E0 ta) (dCall dsp da) := ⟨pe_call F hr hg hm hk hb .nil pass0 ha.pa hdb he hpl, sd_call ha.s⟩
theorem pen_call (F : FnOk X.prog X.w X.K X.mg X.base CX0 k f fd ps (lift dsp)) (hr : Room k X.A) (hg : Gl X x) (hm : X.mg x = some (.ref f)) (hk : PySem.W.keepIn X.K (.ref f) = true) (hb : Binds X.K fd ps []) (ha : PAc X (e :: es) ta da) (hdb : (x == ("__debug__" : Str)) = false := by decide)
    (he : starEach (e :: es) X.env = (false, eval e X.env) :: starEach es X.env := by rfl) (hpl : (backTo pos (starEach es X.env)).any (·.1) = false := by rfl) : PEn X (.Call (.Name x p) (e :: es) [] pos) (tCall (lift dsp) [] E0 ta) (nCall dsp da) := ⟨pe_call F hr hg hm hk hb .nil pass0 ha.pa hdb he hpl, sn_call ha.s⟩
theorem ped_call0 (F : FnOk X.prog X.w X.K X.mg X.base CX0 k f fd ps (lift dsp)) (hr : Room k X.A) (hg : Gl X x) (hm : X.mg x = some (.ref f)) (hk : PySem.W.keepIn X.K (.ref f) = true) (hb : Binds X.K fd ps []) (hdb : (x == ("__debug__" : Str)) = false := by decide) :
    PEd X (.Call (.Name x p) [] [] pos) (tCall (lift dsp) [] E0 tNil) (dCall dsp aNil) := ⟨pe_call0 F hr hg hm hk hb .nil pass0 hdb, sd_call (pac_nil (X := X)).s⟩
end
/-! ### a def by its body -/
def startd (n : Nat) (svs : List SV) : Denv := svs.map some ++ List.replicate (n - svs.length) none
theorem pairedLen {α β : Type} {R : α → β → Prop} : ∀ {l : List α} {m : List β}, Paired R l m → l.length = m.length
  | _, _, .nil => rfl
  | _, _, .cons _ t => by rw [List.length_cons, List.length_cons, pairedLen t]
theorem pairedGet {α β : Type} {R : α → β → Prop} : ∀ {l : List α} {m : List β} {i : Nat} {y : β}, Paired R l m → m[i]? = some y → ∃ x, l[i]? = some x ∧ R x y
  | _, _, _, _, .nil, e => by simp at e
  | _, _, 0, _, .cons r _, e => by
    simp at e
    subst e
    exact ⟨_, rfl, r⟩
  | _, _, i + 1, y, .cons _ t, e => by
    obtain ⟨u, h1, h2⟩ := pairedGet (i := i) (y := y) t (by simpa using e)
    exact ⟨u, by simpa using h1, h2⟩
theorem start_den {F H : Hp} {fp : Addr → Prop} {vs : List V} {svs : List SV} {N : List Str} (e : Ex F H) (hb : ∀ b, fp b → F b = none ∧ BagAt F H b) (r : Paired (ArgOk fp F) vs svs) : Den (mkB H F fp) F H (L2.start N vs) (startd N.length svs) := by
  have hl := pairedLen r
  have key : ∀ (i : Nat) sv, (startd N.length svs)[i]? = some (some sv) → ∃ v, (L2.start N vs)[i]? = some (some v) ∧ ArgOk fp F v sv := fun i sv h => by
    unfold startd at h
    unfold L2.start
    by_cases hi : i < svs.length
    · rw [List.getElem?_append_left (by simpa using hi), List.getElem?_map] at h
      rw [List.getElem?_append_left (by simpa [hl] using hi), List.getElem?_map]
      cases e1 : svs[i]? with
      | none =>
        rw [e1] at h
        cases h
      | some s =>
        rw [e1] at h
        cases h
        obtain ⟨v, h1, h2⟩ := pairedGet r e1
        exact ⟨v, by rw [h1]; rfl, h2⟩
    · rw [List.getElem?_append_right (by simpa using hi), List.getElem?_replicate] at h
      split at h <;> cases h
  refine ⟨Grow.start e hb, ?_, fun i sv h => ?_, fun i j ds es l h _ _ _ => ?_, fun i j C C' p fs gs h _ => ?_⟩
  · unfold startd L2.start
    rw [List.length_append, List.length_map, List.length_replicate, List.length_append, List.length_map, List.length_replicate, hl]
  · obtain ⟨v, h1, h2⟩ := key i sv h
    refine ⟨v, h1, ?_⟩
    cases sv with
    | dat d => exact h2
    | bag => exact h2
    | own ds => exact h2.elim
    | obj C p fs => exact h2.elim
    | tab P q => exact h2.elim
    | raw u => exact h2
  · obtain ⟨v, _, h2⟩ := key i _ h
    exact h2.elim
  · obtain ⟨v, _, h2⟩ := key i _ h
    exact h2.elim
section
variable {P : Program} {w : World} {K : PySem.W.Frag} {mg : Str → Option Value} {base : Heap}
theorem fun_d {x qual : Str} {st : Stmt} {f : Addr} {fd : FuncData} {N ps : List Str} {k : Nat} {dsp : DSp} {t : DS} (F : Fun K x qual st f fd) (S : FnScope N ps (defScope st)) (len : ∀ svs R, dsp svs R → svs.length = ps.length)
    (hb : ∀ (cdv : Value) (A : Around) (outer : List Env) (s : Shared) (H : Hp) (E : XK), Room k (A.deeper (envOfC qual (defScope st) s.heap.objs.size f cdv)) → ∃ ts, PSsd (cxOf CX0 P w K mg base N qual (defScope st) f cdv A outer s H E).nox (defBody st) ts t)
    (rd : ∀ svs R, dsp svs R → t { nx := fun _ => R (.dat .none), rt := R } (startd N.length svs)) : FnOk P w K mg base CX0 (k + 1) f fd ps (lift dsp) := by
  refine F.ok S (fun vs H Q E h => ?_) (fun cdv A outer s H vs Q E hr h => ?_)
  · obtain ⟨F', fp, svs, R, _, r, _, q, _⟩ := h
    rw [pairedLen r]
    exact len svs R q
  · obtain ⟨F', fp, svs, R, e, r, hb', q, kk⟩ := h
    obtain ⟨ts, ht⟩ := hb cdv A outer s H E hr
    exact ⟨ts, ht.ps, ht.s (mkB H F' fp) F' H _ _ _ { nx := fun _ => R (.dat .none), rt := R } (start_den e hb' r) ⟨fun F2 H2 σ2 env2 e2 n2 q2 => kk _ (.dat .none) F2 H2 q2 n2.g Dt.non, fun F2 H2 v r e2 g2 r2 q2 => kk v r F2 H2 q2 g2 r2, fun _ _ _ _ _ _ z => z.elim, fun _ _ _ _ _ _ z => z.elim, fun _ _ _ _ _ _ _ _ _ z => z.elim⟩ (rd svs R q)⟩
end

/-! ### the bag: a draw -/
def spTake : DSp := fun svs R => ∃ m : Int, svs = [.bag, .dat (.int m)] ∧ 0 < m ∧ ∀ r : Int, 0 ≤ r → r < m → R (.dat (.int r))
def rLenQ (K : PySem.W.Frag) : List V → Hp → VK → Prop := fun xs H Q => ∃ p ys, xs = [.ref p] ∧ (SqL K H p ys ∨ SqT K H p ys) ∧ Q (.int ys.length) H
def tTake (K : PySem.W.Frag) : TS := tSeq (tAsg (tOp (rI0 fun i j => .int (i + j)) (tOp (rIxL K) (tVar 0) (tC (.int 1))) (tC (.int 1))) (gSub (tVar 0) (tC (.int 1)) rSetL))
  (tRet (tOp (rI (fun _ j => 0 < j) fun i j => .int (i % j)) (tOp (rIxL K) (tOp (rIxL K) (tVar 0) (tC (.int 0))) (tOp (rI (fun _ j => 0 < j) fun i j => .int (i % j)) (tOp (rIxL K) (tVar 0) (tC (.int 1))) (tCB (rLenQ K) (tCons (tOp (rIxL K) (tVar 0) (tC (.int 0))) tNil)))) (tVar 1)))
theorem rd_take {K : PySem.W.Frag} {vs : List V} {H : Hp} {Q : VK} {E : XK} (h : lift spTake vs H Q E) : tTake K { nx := fun _ H' => Q .non H', rt := Q } (L2.start ["bag", "many"] vs) H := by
  obtain ⟨F, fp, svs, R, e, r, hb, ⟨m, rfl, hm, hR⟩, k⟩ := h
  obtain ⟨v, u, rfl, ⟨b, rfl, hf⟩, r2⟩ := paired2 r
  cases r2
  obtain ⟨nF, l, n, ns, h1, h2, h3, h4, h5⟩ := hb b hf
  have hbl : b ≠ l := fun z => by
    subst z
    rw [nF] at h3
    cases h3
  have hl : upd H b (.lst [.ref l, .int (n + 1)]) l = some (.lst (ns.map V.int)) := by
    rw [upd_ne hbl.symm]
    exact e _ _ h3
  have hlen : ((ns.map V.int).length : Int) = 400 := by
    rw [List.length_map, h4]
    rfl
  refine ⟨_, rfl, b, _, 1, .int n, rfl, rfl, SqL.of h1, rfl, n, 1, rfl, rfl, _, rfl, b, _, 1, 1, rfl, rfl, h1, rfl, ?_⟩
  have hmod : 0 ≤ (n + 1) % ((ns.map V.int).length : Int) ∧ (n + 1) % ((ns.map V.int).length : Int) < 400 := by
    rw [hlen]
    omega
  obtain ⟨x, hx⟩ : ∃ x, ns[((n + 1) % ((ns.map V.int).length : Int)).toNat]? = some x := ⟨_, List.getElem?_eq_getElem (by omega)⟩
  have hx2 : atI (ns.map V.int) ((n + 1) % ((ns.map V.int).length : Int)) = some (.int x) := by
    refine at_of (j := ((n + 1) % ((ns.map V.int).length : Int)).toNat) (by omega) ?_
    rw [List.getElem?_map, hx]
    rfl
  refine ⟨_, rfl, b, _, 0, .ref l, rfl, rfl, SqL.of upd_same, rfl, _, rfl, b, _, 1, .int (n + 1), rfl, rfl, SqL.of upd_same, rfl, _, rfl, b, _, 0, .ref l, rfl, rfl, SqL.of upd_same, rfl, l, _, rfl, .inl (SqL.of hl), n + 1, _, rfl, rfl, ?_, l, _, _, .int x, rfl, rfl, SqL.of hl, hx2, _, rfl, x, m, rfl, rfl, hm, ?_⟩
  · show (0 : Int) < ((ns.map V.int).length : Int)
    rw [hlen]
    decide
  · refine k _ (.dat (.int (x % m))) F _ (hR _ (Int.emod_nonneg _ (by omega)) (Int.emod_lt_of_pos _ hm)) ⟨Ex.mut e nF, Ex.refl _, fun a o ha _ h => ?_, fun _ _ _ h => h, fun b' hb' => ?_, fun b' hb' => ⟨(hb b' hb').1, ?_⟩, fun _ z => z.elim, fun _ _ z => z.elim, trivial, fun _ _ _ _ => trivial⟩ (.int _)
    · rw [upd_ne (fun z => ha (by rw [z]; exact hf))]
      exact h
    · by_cases hbb : b' = b
      · subst hbb
        exact ⟨l, n + 1, ns, upd_same, by omega, h3, h4, h5⟩
      · refine (hb b' hb').2.mono (Ex.refl _) fun o ho => ?_
        rw [upd_ne hbb]
        exact ho
    · obtain ⟨l', n', ns', p, _⟩ := (hb b' hb').2
      exact ⟨_, p⟩
end Pd

set_option maxRecDepth 100000
set_option maxHeartbeats 4000000
/-! ### enumerate of a tuple -/
namespace PySem
open Sem (wp)
open AutoSeq1 (wpAny_loadPart')
theorem pd_enum_newT (l : Addr) (items : Array Value) (n : Nat) (dct : Option Addr) (sl : Array (Option Value)) :
    Meets (Builtin.«enumerate.__new__» ⟨[.type "enumerate", .ref l], []⟩) (fun _ R s => s.heap.get? l = some { cls := .type "tuple", dict := dct, data := .seq items n, slots := sl } ∧
      R (.ok (.ret (.ref (s.heap.push { cls := .type "tuple_iterator", data := .fields #[.ref l, .int 0 0] }).objs.size)))
        { s with heap := (s.heap.push { cls := .type "tuple_iterator", data := .fields #[.ref l, .int 0 0] }).push { cls := .type "enumerate", data := .fields #[.none, .bool false, .ref s.heap.objs.size, rawInt 0, .none, .none] } }) :=
  .of_wp fun prog w A R s h => by
    obtain ⟨hp, g, d, tk, os⟩ := s; obtain ⟨hl, h⟩ := h
    have hsub := sub_enumerate
    have hL : Heap.IsTuple (Shared.heap ⟨hp, g, d, tk, os⟩) l items := ⟨_, hl, rfl, n, rfl⟩
    wp_walk using wpAny_loadPart' hl
    refine wpAny_stack_any fun st => wpAny_pure ?_
    split
    · rename_i c _ _ _ _ _
      cases (c == Value.type "enumerate")
      · wp_walk using wpAny_loadPart' hl, wpAny_pyIter_tuple hL
        exact ⟨_, rfl, h⟩
      · wp_walk using wpAny_loadPart' hl, wpAny_pyIter_tuple hL
        exact ⟨_, rfl, h⟩
    · wp_walk using wpAny_loadPart' hl, wpAny_pyIter_tuple hL
      exact ⟨_, rfl, h⟩
section
variable {prog : Program} {w : World} {A : Around} {E : Value → Shared → Prop} {s : Shared}
theorem pd_call_enumT {l : Addr} {items : Array Value} {Q : Value → Shared → Prop} (hL : s.heap.IsTuple l items)
    (h : ∀ h', IsEnum h' (s.heap.objs.size + 1) s.heap.objs.size 0 .none → h'.IsTupleIter s.heap.objs.size l 0 → h'.objs.size = s.heap.objs.size + 2 →
      (∀ b o, s.heap.get? b = some o → h'.get? b = some o) → Q (.ref (s.heap.objs.size + 1)) { s with heap := h' }) :
    wpAny (model prog w) A (call (.type "enumerate") [.ref l]) Q E s := by
  obtain ⟨⟨c, dct, dt, sl⟩, hl, hc, n, hd⟩ := hL
  replace hc : c = .type "tuple" := hc
  replace hd : dt = .seq items n := hd
  subst hc hd
  refine callType_new F.called_enumerate (by decide) (F.typeCall_enumerate_1 _) (F.newCall_enumerate_1 _) (fun obj => F.args_object_init_2 obj _) F.entry_enumerate_new
    (pd_enum_newT l items n dct sl) ⟨hl, ?_⟩
  have hz : (s.heap.push { cls := .type "tuple_iterator", data := .fields #[.ref l, .int 0 0] }).objs.size = s.heap.objs.size + 1 := Heap.size_push ..
  show _ ∧ _
  rw [hz]
  have he : IsEnum ((s.heap.push { cls := .type "tuple_iterator", data := .fields #[.ref l, .int 0 0] }).push
      { cls := .type "enumerate", data := .fields #[.none, .bool false, .ref s.heap.objs.size, rawInt 0, .none, .none] }) (s.heap.objs.size + 1) s.heap.objs.size 0 .none := by
    have := Heap.get?_push_size (s.heap.push { cls := .type "tuple_iterator", data := .fields #[.ref l, .int 0 0] })
      (o := { cls := .type "enumerate", data := .fields #[.none, .bool false, .ref s.heap.objs.size, rawInt 0, .none, .none] }) rfl
    rw [hz] at this; exact this
  refine ⟨⟨_, he, rfl⟩, h _ he ⟨_, Heap.get?_push_of_some _ (Heap.get?_push_size _ rfl), rfl, rfl⟩ (by rw [Heap.size_push, hz]) fun b o x => Heap.get?_push_of_some _ (Heap.get?_push_of_some _ x)⟩
end
end PySem
namespace Pd
open PySem PySem.Spec PyProof.Rows L2
open Evl (Ex)
abbrev St := L2.St
def IteT (K : PySem.W.Frag) (a : Addr) : It :=
  ⟨fun i H => ∃ (xs : List V) (x : V), SqT K H a xs ∧ xs[i]? = some x, fun i H v H' => ∃ T x, v = .ref T ∧ H T = none ∧ H' = upd H T (.tup [.int (i : Nat), x]) ∧ ∀ xs, SqT K H a xs → xs[i]? = some x, fun i H => ∃ xs : List V, SqT K H a xs ∧ xs.length = i⟩
theorem turn_enumT {P : Program} {w : World} {K : PySem.W.Frag} {elts : List Expr} {kk : Nat} {tpos : Pos} (a e it : Addr) (hae : a ≠ e) (hai : a ≠ it) :
    Turn P w K (.Tuple elts kk tpos) (IteT K a) [e, it] e (fun i h => (∃ old, IsEnum h e it ((i : Nat) : Int) old) ∧ h.IsTupleIter it a i ∧ e ≠ it) where
  mem := by simp
  obj := fun i h st b hb => by
    obtain ⟨⟨old, he⟩, ⟨o, ho, hc, hd⟩, _⟩ := st
    have e' : b = e ∨ b = it := by simpa using hb
    rcases e' with z | z
    · rw [z]; exact ⟨_, he, fun v q => nomatch q⟩
    · rw [z]; exact ⟨o, ho, fun v q => by rw [hd] at q; cases q⟩
  keep := fun i h h' st k => let ⟨⟨old, he⟩, hi, hne⟩ := st; ⟨⟨old, k e (by simp) _ he⟩, hi.at fun o q => k it (by simp) o q, hne⟩
  item := by
    intro X hP hw hK hc i pins s σ H E I hf st hg
    subst hP hw hK
    obtain ⟨⟨old, he⟩, hit, hne⟩ := st
    obtain ⟨xs, x, hq, hx⟩ := hg
    obtain ⟨its, rv, p, hz⟩ := I.tuple hq
    obtain ⟨u, hu, ru⟩ := rv.get hx
    have hel : e < s.heap.objs.size := Heap.lt_size he
    have hil : it < s.heap.objs.size := by obtain ⟨_, q, _⟩ := hit; exact Heap.lt_size q
    have hlt : i < its.toArray.size := by
      have := (List.getElem?_eq_some_iff.mp hu).1
      simpa using this
    refine wpAny_pyNext_enum_itemD (Draws.tuple (A := X.A.in1) (I.ok.hd hc) it a hai its.toArray) he ⟨hit, p⟩ hlt hne (by
      intro z
      have : e = it ∨ e = a := by simpa using z
      rcases this with z | z
      · exact hne z
      · exact hae z.symm) fun x' h' tk hP ho hit' hT hsz hk => ?_
    have ex' : u = x' := by
      have h1 : its.toArray[i]? = some u := by simpa using hu
      rw [h1] at hP
      exact Option.some.inj hP
    subst ex'
    refine ⟨_, rfl, wpAny_letOwnedTupleGo_enum (s := { s with heap := h', toks := tk + 1 }) ho fun h'' he' sb => ?_⟩
    have hT2 : h''.get? s.heap.objs.size = some { cls := .type "tuple", data := .seq #[.int i tk, u] } := (sb.2 _ (Nat.ne_of_gt hel)).trans hT
    have new : ObjOk X.prog X.w (upd H s.heap.objs.size (.tup [.int (i : Nat), x])) h'' s.heap.objs.size (.tup [.int (i : Nat), x]) :=
      ⟨by show 2 ≤ sizeLine; decide, [.int i tk, u], .cons ⟨_, rfl⟩ (.cons ru .nil), ⟨_, hT2, rfl, _, rfl⟩⟩
    have I1 : Inv X pins σ (upd H s.heap.objs.size (.tup [.int (i : Nat), x])) { s with heap := h'', toks := tk + 1 } :=
      I.turnedNew (ch := [e, it]) (fun b ob hb q => (sb.2 b (fun z => hb (by simp [z]))).trans (hk b ob (fun z => hb (by simp [z])) (fun z => hb (by simp [z])) q)) hf (Nat.le_refl _) new
    refine ⟨.ref s.heap.objs.size, _, I1, rfl, ⟨_, x, rfl, I.hok.fresh (Nat.le_refl _), rfl, fun ys hy => by rw [I.tuple_inj hy hq]; exact hx⟩, ⟨⟨u, ?_⟩, hit'.1.at fun o q => (sb.2 it (Ne.symm hne)).trans q, hne⟩, fun b hb => ?_⟩
    · have e1 : ((i + 1 : Nat) : Int) = (i : Int) + 1 := by omega
      rw [e1]; exact he'
    · have hb' : b < s.heap.objs.size := by
        have e' : b = e ∨ b = it := by simpa using hb
        rcases e' with z | z
        · rw [z]; exact hel
        · rw [z]; exact hil
      rw [upd_ne (Nat.ne_of_lt hb')]
      exact (hf b hb).1
  done := by
    intro X hP hw hK hc i pins s σ H E I hf st hg
    subst hP hw hK
    obtain ⟨⟨old, he⟩, hit, hne⟩ := st
    obtain ⟨xs, hq, hx⟩ := hg
    obtain ⟨its, rv, p, hz⟩ := I.tuple hq
    obtain ⟨f0, f1, f2, f3, f4, f5⟩ := hf it (by simp)
    have hl := rv.length
    have hn : its.toArray.size = i := by
      simp
      omega
    exact wpAny_pyNext_enum_endD (Draws.tuple (A := X.A.in1) (I.ok.hd hc) it a hai its.toArray) he (by rw [hn]; exact ⟨hit, p⟩) fun h' eb => ⟨rfl, I.turned (t' := s.toks) (fun b o hb q => eb b o hb q) f0 f1 f3 f4 f5⟩
  self := fun A i s Q E st h => let ⟨⟨_, he⟩, _⟩ := st; wpAny_pyIter_enum he h
def iEnumT (K : PySem.W.Frag) (ta : TA) : TI := fun σ H R => ta σ H fun vs H1 => ∃ a xs, vs = [.ref a] ∧ ((SqL K H1 a xs ∧ R (Ite K a) H1) ∨ (SqT K H1 a xs ∧ R (IteT K a) H1))
theorem pi_enumA {X : Cx} {e : Expr} {ta : TA} {p pos tpos : Pos} {elts : List Expr} {kk : Nat} (hg : Gl X "enumerate") (hm : X.mg "enumerate" = none) (ha : PA X [e] ta) (hs : starEach [e] X.env = [(false, eval e X.env)] := by rfl) :
    PI X (.Tuple elts kk tpos) (.Call (.Name "enumerate" p) [e] [] pos) (iEnumT X.K ta) := by
  refine ⟨fun pins s σ H R I h => ?_⟩
  refine Call_ (ld_blt I hg hm boot_enumerate (PyProof.Rows.callWith_type1 (thn (ha.run pos pins s σ H _ I h) fun us s1 ⟨vs, H1, I1, r1, q1⟩ => ?_) hs rfl))
  obtain ⟨a, xs, ex, q1⟩ := q1
  subst ex
  cases r1 with
  | cons r rr =>
    cases rr
    cases r
    have fin : ∀ b, b = s1.heap.objs.size + 1 ∨ b = s1.heap.objs.size → FpOk X pins H1 b := fun b e' => by
      have hle : s1.heap.objs.size ≤ b := by
        rcases e' with z | z
        · rw [z]; exact Nat.le_add_right _ _
        · rw [z]; exact Nat.le_refl _
      exact I1.fpOk hle (I1.hok.fresh hle)
    rcases q1 with ⟨hq, q⟩ | ⟨hq, q⟩
    · obtain ⟨its, rv, p', hz⟩ := I1.list hq
      refine call_enumerate_list p'.isList fun h' he hit hsz hk => wpAny_pyIter_enum he ?_
      have I2 : Inv X pins σ H1 { s1 with heap := h' } := I1.kept (t' := s1.toks) hk
      exact ⟨s1.heap.objs.size + 1, [s1.heap.objs.size + 1, s1.heap.objs.size], _, _, H1, rfl, I2, turn_enum a (s1.heap.objs.size + 1) s1.heap.objs.size, ⟨⟨.none, he⟩, hit, Nat.succ_ne_self _⟩, fun b hb => fin b (by simpa using hb), q⟩
    · obtain ⟨its, rv, p', hz⟩ := I1.tuple hq
      have hal : a < s1.heap.objs.size := p'.lt
      refine pd_call_enumT p' fun h' he hit hsz hk => wpAny_pyIter_enum he ?_
      have I2 : Inv X pins σ H1 { s1 with heap := h' } := I1.kept (t' := s1.toks) hk
      exact ⟨s1.heap.objs.size + 1, [s1.heap.objs.size + 1, s1.heap.objs.size], _, _, H1, rfl, I2, turn_enumT a (s1.heap.objs.size + 1) s1.heap.objs.size (Nat.ne_of_lt (Nat.lt_succ_of_lt hal)) (Nat.ne_of_lt hal), ⟨⟨.none, he⟩, hit, Nat.succ_ne_self _⟩, fun b hb => fin b (by simpa using hb), q⟩
end Pd

set_option maxRecDepth 100000
set_option maxHeartbeats 4000000
namespace Pd
open PySem L2
open Evl (Ex)
open PyProof.Rows (envOfC)
/-! ### list.count of flat things -/
section
variable {X : Cx}
def rCntF (K : PySem.W.Frag) : V → List V → Hp → VK → Prop := fun x xs H Q => ∃ (p : Addr) (ys : List V) (y : V), x = .ref p ∧ xs = [y] ∧ SqL K H p ys ∧ flatV y = true ∧ ys.all flatV = true ∧ Q (.int (ys.countP fun z => eqV z y : Nat)) H
theorem count_eqU {x : V} : ∀ {xs : List V} {us : List Value}, Vals xs us → xs.all flatV = true → us.countP (eqU x) = xs.countP fun y => eqV y x
  | _, _, .nil, _ => rfl
  | y :: xs, u :: us, .cons r t, f => by
    rw [List.all_cons, Bool.and_eq_true] at f
    rw [List.countP_cons, List.countP_cons, eqU_of r f.1, count_eqU t f.2]
theorem mt_countF : MtR X "list.count" (rCntF X.K) := by
  intro pins s σ H x xs v us Q I rx rxs h
  obtain ⟨p, ys, y, rfl, rfl, hs, fy, fs, q⟩ := h
  cases rx
  cases rxs with
  | cons ru rr =>
    cases rr
    obtain ⟨its, rv, ⟨⟨cls, dd, data, sl⟩, n, ho, hc, hdn, hd⟩, hlen⟩ := I.list hs
    simp only at hc hd
    subst hc hd
    refine PySem.call_meets PySem.F.slot_list_count ⟨_, ho, rfl⟩ PySem.F.entry_list_count (PySem.F.args_list_count_2 _ _)
      (SeqAt.list_countAt p its.toArray n dd sl _ (eqU y)) ⟨ho, fun w hw => mem_eqAt ru fy rv fs w (by simpa using hw), ?_⟩
    have ec : its.toArray.toList.countP (eqU y) = ys.countP fun z => eqV z y := by
      simpa using count_eqU rv fs
    refine ⟨.int (ys.countP fun z => eqV z y : Nat), H, I.tok _, ⟨s.toks, ?_⟩, q⟩
    show Value.int ((its.toArray.toList.countP (eqU y) : Nat) : Int) s.toks = Value.int ((ys.countP fun z => eqV z y : Nat) : Int) s.toks
    rw [ec]
end
def optD : Option Int → PyData
  | none => .none
  | some i => .int i
def optV : Option Int → V
  | none => .non
  | some i => .int i
theorem dt_opt {F : Hp} {v : V} {o : Option Int} (h : Dt F v (optD o)) : v = optV o := by
  cases o with
  | none => cases h; rfl
  | some i => cases h; rfl
theorem dta_opts {F : Hp} : ∀ {vs : List V} {os : List (Option Int)}, DtA F vs (os.map optD) → vs = os.map optV
  | _, [], h => by cases h; rfl
  | _, o :: os, h => by
    cases h with
    | cons h1 h2 =>
      rw [dt_opt h1, dta_opts h2]
      rfl
theorem flat_opt (o : Option Int) : flatV (optV o) = true := by cases o <;> rfl
theorem flat_opts : ∀ os : List (Option Int), (os.map optV).all flatV = true
  | [] => rfl
  | o :: os => by
    rw [List.map_cons, List.all_cons, flat_opt, flat_opts os]
    rfl
theorem eqV_opt (a b : Option Int) : eqV (optV a) (optV b) = decide (a = b) := by
  cases a <;> cases b
  · rfl
  · rfl
  · rfl
  · rename_i x y
    show (x == y) = decide (some x = some y)
    rw [Bool.eq_iff_iff]
    simp
theorem count_opts (o : Option Int) : ∀ os : List (Option Int), (os.map optV).countP (fun z => eqV z (optV o)) = os.count o
  | [] => rfl
  | a :: os => by
    rw [List.map_cons, List.countP_cons, count_opts o os, List.count_cons, eqV_opt]
    congr 1
    by_cases h : a = o
    · simp [h]
    · simp [h]
def dCnt (da db : DE) : DE := fun env Q => da env fun d => ∃ os : List (Option Int), d = .list (os.map optD) ∧ db env fun y => ∃ o : Option Int, y = optD o ∧ Q (.int (os.count o : Nat))
section
variable {X : Cx} {a b c e : Expr} {es : List Expr} {ta tb te tc : TE} {tA tB' : TT} {da db dc dd : DE} {dn dm : DN} {dt du : DT} {pos apos cpos : Pos} {tA1 : TA}
theorem ped_count (ha : PEr X a ta da) (hb : PEr X b tb db)
    (hbase : attributeBase a "count" X.env (eval a X.env) = eval a X.env := by rfl)
    (hfew : ((backTo cpos (starEach [b] X.env)).all (fun x => !x.1) && (backToKw cpos (keywordEach [] X.env)).all (fun x => x.1.isSome)
      && decide ([b].length + ([] : List Keyword).length + (if ([] : List Keyword).isEmpty then 0 else 1) < 30)) = true := by rfl)
    (hline : (apos.endLine == cpos.line) = true := by rfl) (hs : starEach [b] X.env = (false, eval b X.env) :: starEach [] X.env := by rfl) (hplain : (backTo cpos (starEach [] X.env)).any (·.1) = false := by rfl) :
    PEd X (.Call (.Attribute a "count" apos) [b] [] cpos) (tBM X.K "list" (rCntF X.K) ta (tCons tb tNil)) (dCnt da db) := ⟨pe_bm PySem.F.plainAttrs_list PySem.F.slot_list_count PySem.F.type_list_count mt_countF ha.pe (pa_cons hb.pe pa_nil hs) hbase hfew hline hs hplain, fun B F H σ env Q Qv n q k =>
  ha.s B F H σ env _ _ n q fun v d F1 H1 ⟨os, ed, q1⟩ e1 n1 r1 => by
    subst ed
    obtain ⟨l, vs, rfl, h1, h2⟩ := (r1.rb n1).list n1.g.fh
    refine ⟨.inl ⟨rfl, vs, SqL.of h1⟩, hb.s B F1 H1 σ env _ _ n1 q1 fun w f F2 H2 ⟨o, ef, q2⟩ e2 n2 r2 => ?_⟩
    subst ef
    obtain ⟨l', vs', el, h1', h2'⟩ := ((r1.up e2).rb n2).list n2.g.fh
    cases el
    have ev := dta_opts h2'
    subst ev
    have ew : w = optV o := by
      rcases r2 with r2 | ⟨_, _, _, _, z⟩
      · exact dt_opt r2
      · cases o <;> cases z
    subst ew
    refine ⟨_, _, _, rfl, rfl, SqL.of h1', flat_opt o, flat_opts os, ?_⟩
    rw [count_opts]
    exact k _ _ _ _ q2 (e1.trans e2) n2 (.int _)⟩
/-! ### tests that chain -/
theorem ptd_chain {op op' : CmpOp} {r r' : R2} {o o' : PyData → PyData → (PyData → Prop) → Prop} (ho : OpR X (compareOp op) r) (hd : OpD r o) (ho' : OpR X (compareOp op') r') (hd' : OpD r' o') (ha : PEr X a ta da) (hb : PEr X b tb db) (hc : PEr X c tc dc)
    (hm : lastMarks [op, op'] [b, c] = false := by with_unfolding_all rfl) : PTd X (.Compare a [op, op'] [b, c] pos) (tTest (tChain r r' ta tb tc)) (dTest (dChain o o' da db dc)) := ⟨pt_chain ho ho' ha.pe hb.pe hc.pe hm, st_test (sd_chain hd hd' ha.s hb.s hc.s)⟩
/-! ### a slice of a list or a tuple, frozen -/
def dSl (da : DE) (lo hi : DO) : DE := fun env Q => da env fun d => lo env fun l => hi env fun u => match d with
  | .list ds => Q (.list (cutD ds l u))
  | .tuple ds => Q (.tuple (cutD ds l u))
  | _ => False
def rSlB (K : PySem.W.Frag) : V → Option Int → Option Int → Hp → VK → Prop := fun x lo hi H Q => rSlL K x lo hi H Q ∨ rSlA K x lo hi H Q
variable {lo hi : Option Expr} {tl th : TO} {dl dh : DO} {p2 : Pos}
theorem ped_sl (ha : PEr X a ta da) (hl : POd X lo tl dl) (hh : POd X hi th dh) : PEd X (.Subscript a (.Slice lo hi none p2) pos) (tSl (rSlB X.K) ta tl th) (dSl da dl dh) := ⟨pe_slice (SlR.or sl_list sl_tupA) ha.pe hl.po hh.po, fun B F H σ env Q Qv n q k =>
  ha.s B F H σ env _ _ n q fun v d F1 H1 q1 e1 n1 r1 => hl.s B F1 H1 σ env _ _ n1 q1 fun l F2 H2 q2 e2 n2 => hh.s B F2 H2 σ env _ _ n2 q2 fun u F3 H3 q3 e3 n3 => by
    have e13 := e1.trans (e2.trans e3)
    cases d with
    | list ds =>
      obtain ⟨a', vs, rfl, h1, h2⟩ := ((r1.up (e2.trans e3)).rb n3).list n3.g.fh
      refine .inl ⟨a', vs, rfl, SqL.of h1, fun p hp => ?_⟩
      have g : Gro F3 H3 (upd F3 p (.lst (cutV vs l u))) (upd H3 p (.lst (cutV vs l u))) := .new hp
      exact k _ _ _ _ q3 (e13.trans (g.ex n3.g.fh)) (n3.gro g) (.lst upd_same ((h2.cut l u).up (g.ex n3.g.fh)))
    | tuple ds =>
      obtain ⟨a', vs, rfl, h1, h2⟩ := ((r1.up (e2.trans e3)).rb n3).tuple
      refine .inr ⟨a', vs, rfl, SqT.of (n3.g.fh _ _ h1), fun h0 => ?_, fun h0 p hp => ?_⟩
      · have q3' : Q (.tuple (cutD ds l u)) := q3
        rw [cut_all h2 h0] at q3'
        exact k _ _ _ _ q3' e13 n3 (.tup h1 h2)
      · have g : Gro F3 H3 (upd F3 p (.tup (cutV vs l u))) (upd H3 p (.tup (cutV vs l u))) := .new hp
        exact k _ _ _ _ q3 (e13.trans (g.ex n3.g.fh)) (n3.gro g) (.tup upd_same ((h2.cut l u).up (g.ex n3.g.fh)))
    | _ => exact q3.elim⟩
/-! ### enumerate of a list or a tuple -/
def itEn (dn : DN) : DN := fun env Q => dn env fun ds' => ∃ d ds, ds' = [d] ∧ seqD d = some ds ∧ Q (enumD 0 ds)
theorem pid_enum {p tpos : Pos} {elts : List Expr} {kk : Nat} (hg : Gl X "enumerate") (hm : X.mg "enumerate" = none) (h : PAf X [a] tA1 dn) (hs : starEach [a] X.env = [(false, eval a X.env)] := by rfl) : PId X (.Tuple elts kk tpos) (.Call (.Name "enumerate" p) [a] [] pos) (iEnumT X.K tA1) (itEn dn) := ⟨pi_enumA hg hm h.pa hs, fun B F H σ env Q R n q k =>
  h.s B F H σ env _ _ n q fun vs ds F' H' ⟨d', ds', ed, hd', q'⟩ e' n' r' => by
    subst ed
    cases r' with
    | cons r1 r2 =>
      cases r2
      cases r1 with
      | @lst l ws dss h1 h2 =>
        cases hd'
        refine ⟨l, ws, rfl, .inl ⟨SqL.of (n'.g.fh _ _ h1), k _ _ F' H' q' e' n' fun F2 H2 e2 eh => ⟨⟨ws, SqL.of (eh _ _ (e2 _ _ h1)), ?_⟩, fun i d hi => ?_⟩⟩⟩
        · rw [enumD_len, h2.len]
          exact Nat.le_refl _
        · rw [enumD_get] at hi
          cases hd : ds'[i]? with
          | none =>
            rw [hd] at hi
            cases hi
          | some z =>
            rw [hd] at hi
            cases hi
            obtain ⟨v, hv, tv⟩ := (h2.up e2).get hd
            refine ⟨⟨ws, v, SqL.of (eh _ _ (e2 _ _ h1)), hv⟩, fun x H'' ⟨T, y, ex, hT, eH, hy⟩ => ?_⟩
            have := hy ws (SqL.of (eh _ _ (e2 _ _ h1)))
            rw [hv] at this
            cases this
            subst ex
            subst eH
            have g : Gro F2 H2 (upd F2 T (.tup [.int (i : Nat), v])) (upd H2 T (.tup [.int (i : Nat), v])) := .new hT
            refine ⟨_, g, .tup upd_same (.cons ?_ (.cons (tv.up (g.ex eh)) .nil))⟩
            rw [Nat.zero_add]
            exact .int _
      | @tup l ws dss h1 h2 =>
        cases hd'
        refine ⟨l, ws, rfl, .inr ⟨SqT.of (n'.g.fh _ _ h1), k _ _ F' H' q' e' n' fun F2 H2 e2 eh => ⟨⟨ws, SqT.of (eh _ _ (e2 _ _ h1)), ?_⟩, fun i d hi => ?_⟩⟩⟩
        · rw [enumD_len, h2.len]
        · rw [enumD_get] at hi
          cases hd : ds'[i]? with
          | none =>
            rw [hd] at hi
            cases hi
          | some z =>
            rw [hd] at hi
            cases hi
            obtain ⟨v, hv, tv⟩ := (h2.up e2).get hd
            refine ⟨⟨ws, v, SqT.of (eh _ _ (e2 _ _ h1)), hv⟩, fun x H'' ⟨T, y, ex, hT, eH, hy⟩ => ?_⟩
            have := hy ws (SqT.of (eh _ _ (e2 _ _ h1)))
            rw [hv] at this
            cases this
            subst ex
            subst eH
            have g : Gro F2 H2 (upd F2 T (.tup [.int (i : Nat), v])) (upd H2 T (.tup [.int (i : Nat), v])) := .new hT
            refine ⟨_, g, .tup upd_same (.cons ?_ (.cons (tv.up (g.ex eh)) .nil))⟩
            rw [Nat.zero_add]
            exact .int _
      | _ => cases hd'⟩

/-! ### the statements' front -/
variable {st : Stmt} {sts sts2 : List Stmt} {ts us : TS} {d u : DS} {g : TG} {gs : TGs} {dg : DG} {dgs : DGs} {vs vs1 vs2 : List Nat} {wi : TI} {it : DN}
theorem qs_expr (h : PEd X e te dd) (hs : swapsWith e none pos.line X.env = pure false := by rfl) : PSd X (.Expr e pos) (tDrop te) (dDrop dd) := psd_expr h (ps_expr h.pe hs)
theorem qs_ret (h : PEd X e te dd) : PSd X (.Return (some e) pos) (tRet te) (dRet dd) := psd_ret h (ps_ret h.pe)
theorem qs_retN (h : PEn X e te dn) : PSd X (.Return (some e) pos) (tRet te) (dRetN dn) := psd_retN h (ps_ret h.pe)
theorem qs_retO (i : Nat) (h : PE X e (tVar i)) : PSd X (.Return (some e) pos) (tRet (tVar i)) (dRetO i) := psd_retO i (ps_ret h)
theorem qs_ret0 : PSd X (.Return none pos) tRetN dRet0 := psd_ret0 ps_retN
theorem qs_if (hc : PTd X c tA dt) (h1 : PSsd X sts ts d) (h2 : PSsd X sts2 us u) : PSd X (.If c sts sts2 pos) (tIfS tA ts us) (dIfS dt d u) := psd_if hc h1 h2 (ps_if hc.pt h1.ps h2.ps)
theorem qs_for {tg iter : Expr} {body : List Stmt} (hp : PassesOwn (model X.prog X.w) X.A X.env X.xe) (hc : X.calm = true) (hi : PId X tg iter wi it) (hg : PGd X tg g dg vs) (hb : PSsd X body ts d) (hs : ∀ x, foldedSetIterable iter X.env x = pure x := by intro _; rfl) : PSd X (.For tg iter body [] pos) (tFor wi g ts) (dFor it dg d) := psd_for hi hg hb (ps_for hp hc hi.pi hg.pg hb.ps hs)
theorem qs_while {body : List Stmt} (hp : PassesOwn (model X.prog X.w) X.A X.env X.xe) (hc : PTd X c tA dt) (hb : PSsd X body ts d) : PSd X (.While c body [] pos) (tWhile tA ts) (dWhile dt d) := psd_while hc hb (ps_while hp hc.pt hb.ps)
theorem qs_set {i : Nat} {x : Str} {pos' : Pos} (hN : X.N.Nodup) (hi : X.N[i]? = some x) (hx : Loc X.env.scope x) (he : PEd X e te dd) (hs : swapsWith e (some (.Name x pos')) pos.line X.env = pure false := by rfl) (hf : X.fn x = true ∨ X.env.scope.names.lookup x = some .local := by first | exact .inl rfl | exact .inr rfl | assumption) :
    PSd X (.Assign [.Name x pos'] e pos) (tAsg te (gName i)) (dAsgG dd (gdName i)) := psd_asg he (sg_name i) (ps_set hN hi hx he.pe hs hf)
theorem qs_setN {i : Nat} {x : Str} {pos' : Pos} (hN : X.N.Nodup) (hi : X.N[i]? = some x) (hx : Loc X.env.scope x) (he : PEn X e te dn) (hs : swapsWith e (some (.Name x pos')) pos.line X.env = pure false := by rfl) (hf : X.fn x = true ∨ X.env.scope.names.lookup x = some .local := by first | exact .inl rfl | exact .inr rfl | assumption) :
    PSd X (.Assign [.Name x pos'] e pos) (tAsg te (gName i)) (dAsgN dn i) := psd_asgN he (ps_set hN hi hx he.pe hs hf)
theorem qs_asg {tg : Expr} (he : PEd X e te dd) (hg : PGd X tg g dg vs) (hs : swapsWithSole [tg] e pos.line X.env = pure false := by rfl) (hw : swappedStores [tg] e X.env = pure none := by rfl)
    (h1 : (assignEach [tg] X.env).map (·.2) = [assign tg X.env] := by rfl) : PSd X (.Assign [tg] e pos) (tAsg te g) (dAsgG dd dg) := psd_asg he hg.s (ps_asg he.pe hg.pg hs hw h1)
theorem qg_name {i : Nat} {x : Str} (hN : X.N.Nodup) (hi : X.N[i]? = some x) (hx : Loc X.env.scope x) (hf : X.fn x = true ∨ X.env.scope.names.lookup x = some .local := by first | exact .inl rfl | exact .inr rfl | assumption) : PGd X (.Name x pos) (gName i) (gdName i) [i] := pgd_name i (pg_name hN hi hx hf)
theorem qg_cons (h1 : PGd X e g dg vs1) (h2 : PGsd X es gs dgs vs2) (hs : (assignEach (e :: es) X.env).map (·.2) = assign e X.env :: (assignEach es X.env).map (·.2) := by rfl) : PGsd X (e :: es) (gCons g gs) (gdCons dg dgs) (vs1 ++ vs2) := ⟨pgs_cons h1.pg h2.pg hs, sgs_cons h1.s h2.s⟩
theorem qg_tup {k n : Nat} (hc : X.calm = true) (h : PGsd X es gs dgs vs) (hn : (assignEach es X.env).length = n := by rfl) (hst : (assignEach es X.env).findIdx? (·.1) = none := by rfl) : PGd X (.Tuple es k pos) (gTup X.K n gs) (gdTup n dgs) vs := ⟨pg_tup hc h.pg hn hst, sg_tup h.s⟩
theorem qs_app {i : Nat} {o : Expr} (ho : PE X o (tVar i)) (h : PEd X e te dd)
    (hbase : attributeBase o "append" X.env (eval o X.env) = eval o X.env := by rfl)
    (hfew : ((backTo cpos (starEach [e] X.env)).all (fun x => !x.1) && (backToKw cpos (keywordEach [] X.env)).all (fun x => x.1.isSome)
      && decide ([e].length + ([] : List Keyword).length + (if ([] : List Keyword).isEmpty then 0 else 1) < 30)) = true := by rfl)
    (hline : (apos.endLine == cpos.line) = true := by rfl) (hs : starEach [e] X.env = (false, eval e X.env) :: starEach [] X.env := by rfl) (hplain : (backTo cpos (starEach [] X.env)).any (·.1) = false := by rfl)
    (hsw : swapsWith (.Call (.Attribute o "append" apos) [e] [] cpos) none pos.line X.env = pure false := by rfl) :
    PSd X (.Expr (.Call (.Attribute o "append" apos) [e] [] cpos) pos) (tDrop (tBM X.K "list" rAppend (tVar i) (tCons te tNil))) (dApp i dd) := psd_app h (ps_expr (pe_bm PySem.F.plainAttrs_list PySem.F.slot_list_append PySem.F.type_list_append mt_append ho (pa_cons h.pe pa_nil hs) hbase hfew hline hs hplain) hsw)
theorem qs_setI {i : Nat} {o x : Expr} {ti : TE} {di : DE} {p : Pos} (ho : PE X o (tVar i)) (hi : PEd X x ti di) (h : PEd X e te dd) (hp : PSet X rSetL → PS X (.Assign [.Subscript o x p] e pos) (tAsg te (gSub (tVar i) ti rSetL))) : PSd X (.Assign [.Subscript o x p] e pos) (tAsg te (gSub (tVar i) ti rSetL)) (dSetI i di dd) := psd_setI h hi (hp set_list)
/-! y = [comprehension] -/
section
variable {elt tg iter : Expr} {ifs : List Expr} {scope : Scope} {own : List (Str × Nat)} {spos : Pos} {vs' : List Nat} {tt : TT}
theorem qs_lc {i : Nat} {y : Str} {py : Pos} (hc : X.calm = true) (hN : X.N.Nodup) (hy : X.N[i]? = some y) (hyl : X.env.scope.names.lookup y = some .local)
    (hsw : swapsWith (.ListComp elt [⟨tg, iter, ifs, 0⟩] scope pos) (some (.Name y py)) spos.line X.env = pure true) (hi : PId X tg iter wi it) (ok : BlkOk X.N X.env.scope scope own)
    (hg : ∀ (s : Shared) (H : Hp) (C : Addr) (cl : List (Str × Addr)) (fp : List Addr), PGd (X.blk s H scope (compEnvC scope cl C X.env) fp) tg g dg vs') (hv : ∀ i ∈ vs', i ∈ own.map (·.2)) (ht : ∀ (s : Shared) (H : Hp) (C : Addr) (cl : List (Str × Addr)) (fp : List Addr), PTsd (X.blk s H scope (compEnvC scope cl C X.env) fp) ifs tt dt)
    (he : ∀ (s : Shared) (H : Hp) (C : Addr) (cl : List (Str × Addr)) (fp : List Addr), PEd (X.blk s H scope (compEnvC scope cl C X.env) fp) elt te dd) (hs : ∀ x, foldedSetIterable iter X.env x = pure x := by intro _; rfl) :
    PSd X (.Assign [.Name y py] (.ListComp elt [⟨tg, iter, ifs, 0⟩] scope pos) spos) (tAsg (tLc wi g tt te (own.map (·.2))) (gName i)) (dAsgG (dFr (nLc it dg dt dd (own.map (·.2)))) (gdName i)) :=
  ⟨ps_setLc hc hN hy hyl hsw hi.pi ok (fun s H C cl fp => (hg s H C cl fp).pg) (fun s H C cl fp => (ht s H C cl fp).pt) (fun s H C cl fp => (he s H C cl fp).pe) hs,
    ss_asgF (sn_lc hi.s (hg ({} : Shared) (fun _ => none) 0 [] []).s hv (ht ({} : Shared) (fun _ => none) 0 [] []).s (he ({} : Shared) (fun _ => none) 0 [] []).s)⟩
theorem qs_lcN {i : Nat} {y : Str} {py : Pos} (hc : X.calm = true) (hN : X.N.Nodup) (hy : X.N[i]? = some y) (hyl : X.env.scope.names.lookup y = some .local)
    (hsw : swapsWith (.ListComp elt [⟨tg, iter, ifs, 0⟩] scope pos) (some (.Name y py)) spos.line X.env = pure true) (hi : PId X tg iter wi it) (ok : BlkOk X.N X.env.scope scope own)
    (hg : ∀ (s : Shared) (H : Hp) (C : Addr) (cl : List (Str × Addr)) (fp : List Addr), PGd (X.blk s H scope (compEnvC scope cl C X.env) fp) tg g dg vs') (hv : ∀ i ∈ vs', i ∈ own.map (·.2)) (ht : ∀ (s : Shared) (H : Hp) (C : Addr) (cl : List (Str × Addr)) (fp : List Addr), PTsd (X.blk s H scope (compEnvC scope cl C X.env) fp) ifs tt dt)
    (he : ∀ (s : Shared) (H : Hp) (C : Addr) (cl : List (Str × Addr)) (fp : List Addr), PEd (X.blk s H scope (compEnvC scope cl C X.env) fp) elt te dd) (hs : ∀ x, foldedSetIterable iter X.env x = pure x := by intro _; rfl) :
    PSd X (.Assign [.Name y py] (.ListComp elt [⟨tg, iter, ifs, 0⟩] scope pos) spos) (tAsg (tLc wi g tt te (own.map (·.2))) (gName i)) (dAsgN (nLc it dg dt dd (own.map (·.2))) i) :=
  ⟨ps_setLc hc hN hy hyl hsw hi.pi ok (fun s H C cl fp => (hg s H C cl fp).pg) (fun s H C cl fp => (ht s H C cl fp).pt) (fun s H C cl fp => (he s H C cl fp).pe) hs,
    ss_asgN (sn_lc hi.s (hg ({} : Shared) (fun _ => none) 0 [] []).s hv (ht ({} : Shared) (fun _ => none) 0 [] []).s (he ({} : Shared) (fun _ => none) 0 [] []).s)⟩
end
/-! a, b = x, [] and the like: lists of one's own on the right -/
def dParDE (i j : Nat) (t : DE) : DS := fun D env => t env fun d => D.nx ((env.set i (some (.dat d))).set j (some (.own [])))
def dParNE (i j : Nat) (t : DN) : DS := fun D env => t env fun ds => D.nx ((env.set i (some (.own ds))).set j (some (.own [])))
theorem psd_parDE {i j : Nat} (h : Sd te dd) (hp : PS X st (tPar i j (tCons te (tCons (tLst tNil) tNil)))) : PSd X st (tPar i j (tCons te (tCons (tLst tNil) tNil))) (dParDE i j dd) := ⟨hp, fun B F H σ env D Dd n k q =>
  h B F H σ env _ _ n q fun v d F' H' q' e' n' t' => ⟨Nat.zero_le _, fun p hp => by
    have n2 := n'.setD (i := i) t'
    obtain ⟨f1, f2⟩ := Fresh.of n2 hp DtA.nil
    exact ⟨_, _, rfl, k.nx F' _ _ _ e' (f2.setN f1) q'⟩⟩⟩
theorem psd_parNE {i j : Nat} (h : Sn te dn) (hp : PS X st (tPar i j (tCons te (tCons (tLst tNil) tNil)))) : PSd X st (tPar i j (tCons te (tCons (tLst tNil) tNil))) (dParNE i j dn) := ⟨hp, fun B F H σ env D Dd n k q =>
  h B F H σ env _ _ n q fun l vs ds F' H' q' e' n' f => ⟨Nat.zero_le _, fun p hp => by
    have n2 := n'.setN (i := i) f
    obtain ⟨f1, f2⟩ := Fresh.of n2 hp DtA.nil
    exact ⟨_, _, rfl, k.nx F' _ _ _ e' (f2.setN f1) q'⟩⟩⟩
end
end Pd

set_option maxRecDepth 100000
set_option maxHeartbeats 4000000
/-! The script's cells, bags of draws, and a law that goes through its bags. -/
namespace Pd
open PySem L2
open Evl (Ex)
open PyProof.Rows (envOfC)

/-! ### a cell of the script -/
def spCell (K : PySem.W.Frag) : Sp := fun vs H Q _ => ∃ (a : Addr) (ns : List Int) (k : Int), vs = [.ref a, .int k] ∧ SqL K H a (ns.map V.int) ∧ 0 ≤ k ∧ ∀ c : Int, Q (.int c) H
def tCell (K : PySem.W.Frag) : TS := tSeq (tIfS (tTest (tOp (rI0 fun i j => .bl (decide (i < j))) (tVar 1) (tCB (rLenQ K) (tCons (tVar 0) tNil)))) (tRet (tOp (rIxL K) (tVar 0) (tVar 1))) tNext) (tRet (tC (.int 0)))
theorem rd_cell {K : PySem.W.Frag} {vs : List V} {H : Hp} {Q : VK} {E : XK} (h : spCell K vs H Q E) : tCell K { nx := fun _ H' => Q .non H', rt := Q } (L2.start ["script", "k"] vs) H := by
  obtain ⟨a, ns, k, rfl, hS, h0, q⟩ := h
  refine ⟨_, rfl, _, rfl, a, _, rfl, .inl hS, k, _, rfl, rfl, _, rfl, ?_⟩
  refine ite2 (fun hk => ?_) (fun _ => q 0)
  have hk' : k < ((ns.map V.int).length : Int) := of_decide_eq_true hk
  rw [List.length_map] at hk'
  have hlt : k.toNat < ns.length := by omega
  refine ⟨_, rfl, _, rfl, a, _, k, .int ns[k.toNat], rfl, rfl, hS, at_of (j := k.toNat) (by omega) ?_, q _⟩
  rw [List.getElem?_map, List.getElem?_eq_getElem hlt]
  rfl

/-! ### draws: plain data -/
def spDraws : DSp := fun svs R => ∃ c : Int, svs = [.dat (.int c), .dat (.int 400), .dat (.int 1000)] ∧ ∀ ns : List Int, ns.length = 400 → (∀ x ∈ ns, 0 ≤ x ∧ x < 1000) → R (.new (ns.map .int))

/-! ### a bag, bags -/
def NewBag (H H' : Hp) (b : Addr) : Prop := H b = none ∧ ∃ (l : Addr) (ns : List Int), H l = none ∧ l ≠ b ∧ H' b = some (.lst [.ref l, .int 0]) ∧ H' l = some (.lst (ns.map V.int)) ∧ ns.length = 400 ∧ ∀ x ∈ ns, 0 ≤ x ∧ x < 1000
def spBag (K : PySem.W.Frag) : Sp := fun vs H Q _ => ∃ (a : Addr) (ns : List Int) (k : Int), vs = [.ref a, .int k] ∧ SqL K H a (ns.map V.int) ∧ 0 ≤ k ∧ ∀ (b : Addr) (H' : Hp), Ex H H' → NewBag H H' b → Q (.ref b) H'
def tBag (K : PySem.W.Frag) : TS := tRet (tLst (tCons (tCall (lift spDraws) [] E0 (tCons (tCall (spCell K) [] E0 (tCons (tVar 0) (tCons (tVar 1) tNil))) (tCons (tC (.int 400)) (tCons (tC (.int 1000)) tNil)))) (tCons (tC (.int 0)) tNil)))
theorem rd_bag {K : PySem.W.Frag} {vs : List V} {H : Hp} {Q : VK} {E : XK} (h : spBag K vs H Q E) : tBag K { nx := fun _ H' => Q .non H', rt := Q } (L2.start ["script", "k"] vs) H := by
  obtain ⟨a, ns, k, rfl, hS, h0, q⟩ := h
  refine ⟨_, rfl, _, rfl, a, ns, k, rfl, hS, h0, fun c => ?_⟩
  refine ⟨fun _ => none, fun _ => False, [.dat (.int c), .dat (.int 400), .dat (.int 1000)], fun r => ∃ ns : List Int, ns.length = 400 ∧ (∀ x ∈ ns, 0 ≤ x ∧ x < 1000) ∧ r = .new (ns.map .int), (fun _ _ z => nomatch z), .cons (Dt.int c) (.cons (Dt.int 400) (.cons (Dt.int 1000) .nil)), fun _ z => False.elim z, ⟨c, rfl, fun ns h1 h2 => ⟨ns, h1, h2, rfl⟩⟩, ?_⟩
  rintro v r F' H' ⟨ms, h1, h2, rfl⟩ g ⟨l, vs, rfl, hl, hF, hl', hd⟩
  have ev := hd.ints
  subst ev
  refine ⟨by show 2 ≤ sizeLine; decide, fun b hb => ?_⟩
  have e1 : Ex H H' := fun x o hx => g.keep x o (fun z => z) (fun z => z) hx
  have hlb : l ≠ b := ne_of_none hl' hb
  refine q b _ (e1.trans (Ex.new hb)) ⟨Ex.none e1 hb, l, ms, hl, hlb, upd_same, ?_, h1, h2⟩
  rw [upd_ne hlb]
  exact hl'
def BagsAt (H H' : Hp) (bs : List Addr) : Prop := bs.Nodup ∧ ∀ b ∈ bs, NewBag H H' b
def spBags (K : PySem.W.Frag) : Sp := fun vs H Q _ => ∃ (a : Addr) (ns : List Int) (lim : Int), vs = [.ref a, .int lim] ∧ SqL K H a (ns.map V.int) ∧ 0 ≤ lim ∧ lim ≤ 63 ∧ ∀ (D : Addr) (bs : List Addr) (H' : Hp), Ex H H' → H' D = some (.lst (bs.map V.ref)) → D ∉ bs → BagsAt H H' bs → Q (.ref D) H'
def rMax2Q : List V → Hp → VK → Prop := fun xs H Q => ∃ i j, xs = [.int i, .int j] ∧ Q (.int (if j > i then j else i)) H
def rMin2Q : List V → Hp → VK → Prop := fun xs H Q => ∃ i j, xs = [.int i, .int j] ∧ Q (.int (if j < i then j else i)) H
def tBags (K : PySem.W.Frag) : TS := tRet (tLc (iRng1 (tCons (tCB rMax2Q (tCons (tC (.int 1)) (tCons (tCB rMin2Q (tCons (tVar 1) (tCons (tCB (rLenQ K) (tCons (tVar 0) tNil)) tNil))) tNil))) tNil)) (gName 2) tYes (tCall (spBag K) [] E0 (tCons (tVar 0) (tCons (tVar 2) tNil))) [2])
theorem NewBag.up {H H' H'' : Hp} {b : Addr} (h : NewBag H H' b) (e : Ex H' H'') : NewBag H H'' b := by
  obtain ⟨h1, l, ns, h2, h3, h4, h5, h6, h7⟩ := h
  exact ⟨h1, l, ns, h2, h3, e _ _ h4, e _ _ h5, h6, h7⟩
theorem NewBag.some {H H' : Hp} {b : Addr} (h : NewBag H H' b) : ∃ o, H' b = some o := by
  obtain ⟨h1, l, ns, h2, h3, h4, h5, h6, h7⟩ := h
  exact ⟨_, h4⟩
theorem rd_bags {K : PySem.W.Frag} {vs : List V} {H : Hp} {Q : VK} {E : XK} (h : spBags K vs H Q E) : tBags K { nx := fun _ H' => Q .non H', rt := Q } (L2.start ["script", "limit", "k"] vs) H := by
  obtain ⟨a, ns, lim, rfl, hS, h0, h63, q⟩ := h
  refine ⟨_, rfl, _, rfl, a, _, rfl, .inl hS, lim, _, rfl, 1, _, rfl, _, rfl, ?_, ?_, fun D hD => ?_⟩
  · split <;> split <;> omega
  · split <;> split <;> omega
  · refine lc_range (lo := 0) (fun i H' => ∃ bs : List Addr, Ex H H' ∧ H' D = some (.lst (bs.map V.ref)) ∧ bs.length = i ∧ D ∉ bs ∧ bs.Nodup ∧ ∀ b ∈ bs, NewBag H H' b) ⟨[], Ex.new hD, upd_same, rfl, by simp, List.nodup_nil, by simp⟩ ?_ ?_
    · rintro i H' hi ⟨bs, e, hD', hl, nD, nd, all⟩
      refine ⟨rfl, ?_⟩
      refine ⟨_, rfl, _, rfl, a, ns, _, rfl, Evl.ex_l e hS, by omega, fun b H2 e2 nb => ?_⟩
      have nbD : D ≠ b := ne_of_none hD' nb.1
      have hD2 : H2 D = Option.some (.lst (bs.map V.ref)) := e2 _ _ hD'
      have hi' : i < 63 := by
        have : (i : Nat) < _ := hi
        split at this <;> (try split at this) <;> omega
      refine ⟨_, hD2, ?_, bs ++ [b], (e.trans e2).mut hD, ?_, ?_, ?_, ?_, ?_⟩
      · rw [List.length_map, hl]
        exact Nat.lt_of_lt_of_le hi' (by decide)
      · rw [upd_same, List.map_append]
        rfl
      · rw [List.length_append, hl]
        rfl
      · rw [List.mem_append, not_or]
        exact ⟨nD, by simpa using nbD⟩
      · rw [List.nodup_append]
        refine ⟨nd, by simp, fun x hx y hy => ?_⟩
        have : y = b := by simpa using hy
        subst this
        obtain ⟨o, ho⟩ := (all x hx).some
        exact ne_of_none ho nb.1
      · intro x hx
        have up : ∀ {x : Addr} {H1 : Hp}, NewBag H1 H2 x → H1 D = none ∨ (∃ u, H1 D = Option.some u) → Ex H H1 → x ≠ D → NewBag H (upd H2 D (.lst (bs.map V.ref ++ [.ref b]))) x := by
          rintro x H1 ⟨h1, l, ms, h2, h3, h4, h5, h6, h7⟩ hD1 e1 hxD
          have hlD : l ≠ D := by
            intro z
            subst z
            rw [hD2] at h5
            have := (HO.lst.inj (Option.some.inj h5))
            cases bs with
            | nil =>
              have hz := congrArg List.length this
              rw [List.length_map, List.length_map, h6] at hz
              cases hz
            | cons x xs =>
              cases ms with
              | nil => cases this
              | cons m ms =>
                rw [List.map_cons, List.map_cons] at this
                cases this
          refine ⟨Ex.none e1 h1, l, ms, Ex.none e1 h2, h3, ?_, ?_, h6, h7⟩
          · rw [upd_ne hxD]
            exact h4
          · rw [upd_ne hlD]
            exact h5
        rcases List.mem_append.mp hx with hx | hx
        · exact up ((all x hx).up e2) (.inl hD) (Ex.refl H) (fun z => nD (z ▸ hx))
        · have : x = b := by simpa using hx
          subst this
          exact up nb (.inr ⟨_, hD'⟩) e nbD.symm
    · rintro H' ⟨bs, e, hD', hl, nD, nd, all⟩
      exact q D bs H' e hD' nD ⟨nd, all⟩

/-! ### a law that goes through its bags -/
def spLaw (K : PySem.W.Frag) : Sp := fun vs H Q _ => ∃ (a : Addr) (ns : List Int), vs = [.ref a] ∧ SqL K H a (ns.map V.int) ∧ ns.length ≤ 63 ∧ ∀ H', Q (.bl true) H'
def isTrue' : RVd → Prop := fun r => r = .dat (.bool true)
def blank (n : Nat) : Denv := List.replicate n none
def tLawFor (K : PySem.W.Frag) (lim : Int) (j : Nat) (tb : TS) : TS := tFor (iList K (tCall (spBags K) [] E0 (tCons (tVar 0) (tCons (tC (.int lim)) tNil)))) (gName j) tb
theorem rd_law0 {K : PySem.W.Frag} {N : List Str} {lim : Int} {j : Nat} {tb us : TS} {db dr : DS} (hb : Ss tb db) (hr : Ss us dr) (hj : j < N.length) (h0 : 0 ≤ lim) (h63 : lim ≤ 63)
    (rb : db { nx := fun env' => env'.length = N.length, ct := fun env' => env'.length = N.length, rt := isTrue' } ((blank N.length).set j (some .bag))) (rr : dr { nx := fun _ => False, rt := isTrue' } (blank N.length))
    {vs : List V} {H : Hp} {Q : VK} {E : XK} (h : spLaw K vs H Q E) (hN : 1 ≤ N.length) : tSeq (tLawFor K lim j tb) us { nx := fun _ H' => Q .non H', rt := Q } (L2.start N vs) H := by
  obtain ⟨a, ns, rfl, hS, hl, q⟩ := h
  have hst : (L2.start N [V.ref a])[0]? = some (some (V.ref a)) := by
    unfold L2.start
    rfl
  have hlen : (L2.start N [V.ref a]).length = N.length := by
    unfold L2.start
    rw [List.length_append, List.length_map, List.length_replicate]
    show 1 + (N.length - 1) = N.length
    omega
  refine ⟨_, hst, a, ns, lim, rfl, hS, h0, h63, fun D bs H1 e1 hD nD ⟨nd, all⟩ => ⟨D, rfl, ⟨_, SqL.of hD⟩, ?_⟩⟩
  have dec : ∀ x : Addr, x ∈ bs ∨ x ∉ bs := fun x => Classical.em _
  have retOk : ∀ {B : Bs} {F' H' : Hp} {v : V} {r : RVd}, ROk B F' H' v r → isTrue' r → Q v H' := by
    rintro B F' H' v r h1 rfl
    cases h1
    exact q H'
  refine for_list (K := K) (a := D) (xs := bs.map V.ref) (fun i σ H' => σ.length = N.length ∧ ∃ F, Ex F H' ∧ F D = some (.lst (bs.map V.ref)) ∧ ∀ k b, i ≤ k → bs[k]? = some b → F b = none ∧ BagAt F H' b) ?_ ?_ ?_ ?_
  · refine ⟨hlen, fun x => if x ∈ bs then none else H1 x, fun x o hx => ?_, ?_, fun k b _ hk => ?_⟩
    · have hx : (if x ∈ bs then none else H1 x) = some o := hx
      by_cases hm : x ∈ bs
      · rw [if_pos hm] at hx
        cases hx
      · rw [if_neg hm] at hx
        exact hx
    · show (if D ∈ bs then none else H1 D) = _
      rw [if_neg nD]
      exact hD
    · have hm : b ∈ bs := List.mem_of_getElem? hk
      refine ⟨if_pos hm, ?_⟩
      obtain ⟨h1, l, ms, h2, h3, h4, h5, h6, h7⟩ := all b hm
      refine ⟨l, 0, ms, h4, Int.le_refl 0, ?_, h6, h7⟩
      have hlm : l ∉ bs := fun z => by
        obtain ⟨_, l', ms', _, _, p4, _⟩ := all l z
        rw [h5] at p4
        have := HO.lst.inj (Option.some.inj p4)
        cases ms with
        | nil => cases this
        | cons m ms =>
          rw [List.map_cons] at this
          cases this
      show (if l ∈ bs then none else H1 l) = _
      rw [if_neg hlm]
      exact h5
  · rintro i σ H' _ ⟨_, F, e, hF, _⟩
    exact SqL.of (e _ _ hF)
  · rintro i x σ H' hi ⟨hl', F, e, hF, bags⟩
    obtain ⟨b, hb', rfl⟩ : ∃ b, bs[i]? = some b ∧ x = V.ref b := by
      rw [List.getElem?_map] at hi
      cases hz : bs[i]? with
      | none =>
        rw [hz] at hi
        cases hi
      | some b =>
        rw [hz] at hi
        cases hi
        exact ⟨b, rfl, rfl⟩
    obtain ⟨fb, bb⟩ := bags i b (Nat.le_refl i) hb'
    show tb _ (σ.set j (some (V.ref b))) H'
    have den : Den (mkB H' F fun x => x = b) F H' (σ.set j (some (V.ref b))) ((blank N.length).set j (some .bag)) := by
      refine ⟨Grow.start e fun x hx => by
        subst hx
        exact ⟨fb, bb⟩, ?_, fun k sv hk => ?_, fun k k' ds es l hk _ _ _ => ?_, fun k k' C C' p fs gs hk _ => ?_⟩
      · rw [List.length_set, List.length_set, hl']
        unfold blank
        rw [List.length_replicate]
      · rcases get_set hk with ⟨rfl, _, rfl⟩ | ⟨_, hk⟩
        · exact ⟨.ref b, List.getElem?_set_self (by rw [hl']; exact hj), b, rfl, rfl⟩
        · unfold blank at hk
          rw [List.getElem?_replicate] at hk
          split at hk <;> cases hk
      · rcases get_set hk with ⟨_, _, z⟩ | ⟨_, hk⟩
        · cases z
        · unfold blank at hk
          rw [List.getElem?_replicate] at hk
          split at hk <;> cases hk
      · rcases get_set hk with ⟨_, _, z⟩ | ⟨_, hk⟩
        · cases z
        · unfold blank at hk
          rw [List.getElem?_replicate] at hk
          split at hk <;> cases hk
    have nxt : ∀ {F' H2 : Hp} {σ' : St} {env' : Denv}, Den (mkB H' F fun x => x = b) F' H2 σ' env' → env'.length = N.length → σ'.length = N.length ∧ ∃ F, Ex F H2 ∧ F D = some (.lst (bs.map V.ref)) ∧ ∀ k b, i + 1 ≤ k → bs[k]? = some b → F b = none ∧ BagAt F H2 b := by
      intro F' H2 σ' env' n' hle
      refine ⟨n'.len ▸ hle, F', n'.g.fh, n'.g.bf _ _ hF, fun k c hk hc => ?_⟩
      obtain ⟨p1, p2⟩ := bags k c (by omega) hc
      have hcb : c ≠ b := fun z => by
        subst z
        have := nd_ix nd hb' hc
        omega
      obtain ⟨l, n, ms, b1, b2, b3, b4, b5⟩ := p2
      exact ⟨n'.g.nofr c _ b1 p1, l, n, ms, n'.g.keep c _ hcb (fun z => z) b1, b2, n'.g.bf _ _ b3, b4, b5⟩
    exact hb _ F H' _ _ _ { nx := fun env' => env'.length = N.length, ct := fun env' => env'.length = N.length, rt := isTrue' } den ⟨fun F' H2 σ' env' _ n' hle => nxt n' hle, fun F' H2 v r _ _ h1 h2 => retOk h1 h2, fun _ _ _ _ _ _ z => False.elim z, fun F' H2 σ' env' _ n' hle => nxt n' hle, fun _ _ _ _ _ _ _ _ _ z => False.elim z⟩ rb
  · rintro σ H' ⟨hl', F, e, hF, _⟩
    refine hr (mkB H' F fun _ => False) F H' σ (blank N.length) _ { nx := fun _ => False, rt := isTrue' } ⟨Grow.start e fun _ z => False.elim z, ?_, fun k sv hk => ?_, fun k k' ds es l hk _ _ _ => ?_, fun k k' C C' p fs gs hk _ => ?_⟩ ⟨fun _ _ _ _ _ _ z => False.elim z, fun F' H2 v r _ _ h1 h2 => retOk h1 h2, fun _ _ _ _ _ _ z => False.elim z, fun _ _ _ _ _ _ z => False.elim z, fun _ _ _ _ _ _ _ _ _ z => False.elim z⟩ rr
    · unfold blank
      rw [List.length_replicate, hl']
    · unfold blank at hk
      rw [List.getElem?_replicate] at hk
      split at hk <;> cases hk
    · unfold blank at hk
      rw [List.getElem?_replicate] at hk
      split at hk <;> cases hk
    · unfold blank at hk
      rw [List.getElem?_replicate] at hk
      split at hk <;> cases hk
def spLawT (K : PySem.W.Frag) (P : Addr) : Sp := fun vs H Q E => H P = some (.tbl #[]) ∧ spLaw K vs H Q E
theorem rd_lawT0 {K : PySem.W.Frag} {N : List Str} {lim : Int} {j : Nat} {tb us : TS} {db dr : DS} (hb : Ss tb db) (hr : Ss us dr) (hj : j < N.length) (h0 : 0 ≤ lim) (h63 : lim ≤ 63)
    (P : Addr) (q : Str) (h0j : 0 ≠ j)
    (rb : db { nx := fun env' => env'.length = N.length ∧ env'[0]? = some (some (.tab P q)), ct := fun env' => env'.length = N.length ∧ env'[0]? = some (some (.tab P q)), rt := isTrue' } (((blank N.length).set 0 (some (.tab P q))).set j (some .bag))) (rr : dr { nx := fun _ => False, rt := isTrue' } (blank N.length))
    {vs : List V} {H : Hp} {Q : VK} {E : XK} (h : spLawT K P vs H Q E) (hN : 1 ≤ N.length) : tSeq (tLawFor K lim j tb) us { nx := fun _ H' => Q .non H', rt := Q } (L2.start N vs) H := by
  obtain ⟨hP, a, ns, rfl, hS, hl, qq⟩ := h
  have hst : (L2.start N [V.ref a])[0]? = some (some (V.ref a)) := by
    unfold L2.start
    rfl
  have hlen : (L2.start N [V.ref a]).length = N.length := by
    unfold L2.start
    rw [List.length_append, List.length_map, List.length_replicate]
    show 1 + (N.length - 1) = N.length
    omega
  refine ⟨_, hst, a, ns, lim, rfl, hS, h0, h63, fun D bs H1 e1 hD nD ⟨nd, all⟩ => ⟨D, rfl, ⟨_, SqL.of hD⟩, ?_⟩⟩
  have dec : ∀ x : Addr, x ∈ bs ∨ x ∉ bs := fun x => Classical.em _
  have retOk : ∀ {B : Bs} {F' H' : Hp} {v : V} {r : RVd}, ROk B F' H' v r → isTrue' r → Q v H' := by
    rintro B F' H' v r h1 rfl
    cases h1
    exact qq H'
  refine for_list (K := K) (a := D) (xs := bs.map V.ref) (fun i σ H' => σ.length = N.length ∧ (∃ v, σ[0]? = some (some v)) ∧ ∃ F, LamX.TabS H' P q ∧ F P = none ∧ Ex F H' ∧ F D = some (.lst (bs.map V.ref)) ∧ ∀ k b, i ≤ k → bs[k]? = some b → F b = none ∧ BagAt F H' b) ?_ ?_ ?_ ?_
  · have nP : P ∉ bs := fun z => by
      obtain ⟨p1, _⟩ := all P z
      rw [hP] at p1
      cases p1
    have tP := (LamX.TabS.nil (q := q) hP).ext e1
    refine ⟨hlen, ⟨_, hst⟩, fun x => if x ∈ P :: bs then none else H1 x, tP, if_pos List.mem_cons_self, fun x o hx => ?_, ?_, fun k b _ hk => ?_⟩
    · have hx : (if x ∈ P :: bs then none else H1 x) = some o := hx
      by_cases hm : x ∈ P :: bs
      · rw [if_pos hm] at hx
        cases hx
      · rw [if_neg hm] at hx
        exact hx
    · show (if D ∈ P :: bs then none else H1 D) = _
      rw [if_neg (fun z => (List.mem_cons.mp z).elim (fun z => by
        rw [z, e1 _ _ hP] at hD
        cases hD) nD)]
      exact hD
    · have hm : b ∈ bs := List.mem_of_getElem? hk
      refine ⟨if_pos (List.mem_cons_of_mem _ hm), ?_⟩
      obtain ⟨h1, l, ms, h2, h3, h4, h5, h6, h7⟩ := all b hm
      refine ⟨l, 0, ms, h4, Int.le_refl 0, ?_, h6, h7⟩
      have hlm : l ∉ bs := fun z => by
        obtain ⟨_, l', ms', _, _, p4, _⟩ := all l z
        rw [h5] at p4
        have := HO.lst.inj (Option.some.inj p4)
        cases ms with
        | nil => cases this
        | cons m ms =>
          rw [List.map_cons] at this
          cases this
      show (if l ∈ P :: bs then none else H1 l) = _
      rw [if_neg (fun z => (List.mem_cons.mp z).elim (fun z => by
        rw [z, e1 _ _ hP] at h5
        cases h5) hlm)]
      exact h5
  · rintro i σ H' _ ⟨_, _, F, _, _, e, hF, _⟩
    exact SqL.of (e _ _ hF)
  · rintro i x σ H' hi ⟨hl', ⟨v0, hv0⟩, F, tP, fP, e, hF, bags⟩
    obtain ⟨b, hb', rfl⟩ : ∃ b, bs[i]? = some b ∧ x = V.ref b := by
      rw [List.getElem?_map] at hi
      cases hz : bs[i]? with
      | none =>
        rw [hz] at hi
        cases hi
      | some b =>
        rw [hz] at hi
        cases hi
        exact ⟨b, rfl, rfl⟩
    obtain ⟨fb, bb⟩ := bags i b (Nat.le_refl i) hb'
    show tb _ (σ.set j (some (V.ref b))) H'
    have den : Den ⟨fun x => if x = P then none else H' x, F, fun x => x = b, fun _ => False, fun a y => a = P ∧ y = q, yesI⟩ F H' (σ.set j (some (V.ref b))) (((blank N.length).set 0 (some (.tab P q))).set j (some .bag)) := by
      have nbP : b ≠ P := fun z => by
        obtain ⟨l, n, ms, b1, _⟩ := bb
        obtain ⟨ps, p1, _⟩ := tP
        rw [z, p1] at b1
        cases b1
      have at_ : ∀ x o, (if x = P then none else H' x) = some o → H' x = some o := fun x o h => by
        by_cases hx : x = P
        · rw [if_pos hx] at h
          cases h
        · rw [if_neg hx] at h
          exact h
      have g0 : Grow ⟨fun x => if x = P then none else H' x, F, fun x => x = b, fun _ => False, fun a y => a = P ∧ y = q, yesI⟩ F H' := ⟨e, Ex.refl F, fun x o _ _ h => at_ x o h, fun x o _ h => h, fun x hx => by
        subst hx
        exact bb, fun x hx => by
        subst hx
        obtain ⟨l, n, ms, b1, _⟩ := bb
        exact ⟨fb, _, (if_neg nbP).trans b1⟩, fun _ z => z.elim, fun a y ⟨h1, h2⟩ => by
        subst h1 h2
        exact ⟨tP, fP, if_pos rfl⟩, trivial, fun _ _ _ _ => trivial⟩
      have old : ∀ (k : Nat) sv, ((blank N.length).set 0 (some (SV.tab P q)))[k]? = some (some sv) → k = 0 ∧ sv = .tab P q := fun k sv hk => by
        rcases get_set hk with ⟨rfl, _, rfl⟩ | ⟨_, hk⟩
        · exact ⟨rfl, rfl⟩
        · unfold blank at hk
          rw [List.getElem?_replicate] at hk
          split at hk <;> cases hk
      refine ⟨g0, ?_, fun k sv hk => ?_, fun k k' ds es l hk _ _ _ => ?_, fun k k' C C' p fs gs hk _ => ?_⟩
      · rw [List.length_set, List.length_set, List.length_set, hl']
        unfold blank
        rw [List.length_replicate]
      · rcases get_set hk with ⟨rfl, _, rfl⟩ | ⟨_, hk⟩
        · exact ⟨.ref b, List.getElem?_set_self (by rw [hl']; exact hj), b, rfl, rfl⟩
        · obtain ⟨rfl, rfl⟩ := old k sv hk
          exact ⟨v0, by rw [List.getElem?_set_ne h0j.symm]; exact hv0, ⟨rfl, rfl⟩, fun _ z => z.2⟩
      · rcases get_set hk with ⟨_, _, z⟩ | ⟨_, hk⟩
        · cases z
        · cases (old k _ hk).2
      · rcases get_set hk with ⟨_, _, z⟩ | ⟨_, hk⟩
        · cases z
        · cases (old k _ hk).2
    have nxt : ∀ {F' H2 : Hp} {σ' : St} {env' : Denv}, Den ⟨fun x => if x = P then none else H' x, F, fun x => x = b, fun _ => False, fun a y => a = P ∧ y = q, yesI⟩ F' H2 σ' env' → env'.length = N.length ∧ env'[0]? = some (some (.tab P q)) → σ'.length = N.length ∧ (∃ v, σ'[0]? = some (some v)) ∧ ∃ F, LamX.TabS H2 P q ∧ F P = none ∧ Ex F H2 ∧ F D = some (.lst (bs.map V.ref)) ∧ ∀ k b, i + 1 ≤ k → bs[k]? = some b → F b = none ∧ BagAt F H2 b := by
      intro F' H2 σ' env' n' ⟨hle, h0e⟩
      obtain ⟨v1, hv1, _⟩ := n'.slot 0 _ h0e
      obtain ⟨tP', fP', _⟩ := n'.g.tab P q ⟨rfl, rfl⟩
      refine ⟨n'.len ▸ hle, ⟨v1, hv1⟩, F', tP', fP', n'.g.fh, n'.g.bf _ _ hF, fun k c hk hc => ?_⟩
      obtain ⟨p1, p2⟩ := bags k c (by omega) hc
      have hcb : c ≠ b := fun z => by
        subst z
        have := nd_ix nd hb' hc
        omega
      obtain ⟨l, n, ms, b1, b2, b3, b4, b5⟩ := p2
      have ncP : c ≠ P := fun z => by
        obtain ⟨ps, p1, _⟩ := tP
        rw [z, p1] at b1
        cases b1
      have b1' : (if c = P then none else H' c) = some (.lst [.ref l, .int n]) := (if_neg ncP).trans b1
      exact ⟨n'.g.nofr c _ b1' p1, l, n, ms, n'.g.keep c _ hcb (fun z => z) b1', b2, n'.g.bf _ _ b3, b4, b5⟩
    exact hb _ F H' _ _ _ { nx := fun env' => env'.length = N.length ∧ env'[0]? = some (some (.tab P q)), ct := fun env' => env'.length = N.length ∧ env'[0]? = some (some (.tab P q)), rt := isTrue' } den ⟨fun F' H2 σ' env' _ n' hle => nxt n' hle, fun F' H2 v r _ _ h1 h2 => retOk h1 h2, fun _ _ _ _ _ _ z => False.elim z, fun F' H2 σ' env' _ n' hle => nxt n' hle, fun _ _ _ _ _ _ _ _ _ z => False.elim z⟩ rb
  · rintro σ H' ⟨hl', _, F, _, _, e, hF, _⟩
    refine hr (mkB H' F fun _ => False) F H' σ (blank N.length) _ { nx := fun _ => False, rt := isTrue' } ⟨Grow.start e fun _ z => False.elim z, ?_, fun k sv hk => ?_, fun k k' ds es l hk _ _ _ => ?_, fun k k' C C' p fs gs hk _ => ?_⟩ ⟨fun _ _ _ _ _ _ z => False.elim z, fun F' H2 v r _ _ h1 h2 => retOk h1 h2, fun _ _ _ _ _ _ z => False.elim z, fun _ _ _ _ _ _ z => False.elim z, fun _ _ _ _ _ _ _ _ _ z => False.elim z⟩ rr
    · unfold blank
      rw [List.length_replicate, hl']
    · unfold blank at hk
      rw [List.getElem?_replicate] at hk
      split at hk <;> cases hk
    · unfold blank at hk
      rw [List.getElem?_replicate] at hk
      split at hk <;> cases hk
    · unfold blank at hk
      rw [List.getElem?_replicate] at hk
      split at hk <;> cases hk
theorem rd_law {K : PySem.W.Frag} (N : List Str) (n : Nat) (hn : N.length = n) (lim : Int) (j : Nat) {tb us : TS} {db dr : DS} (hb : Ss tb db) (hr : Ss us dr) (hj : j < n) (h0 : 0 ≤ lim) (h63 : lim ≤ 63) (hN : 1 ≤ n)
    (rb : db { nx := fun env' => env'.length = n, ct := fun env' => env'.length = n, rt := isTrue' } ((blank n).set j (some .bag))) (rr : dr { nx := fun _ => False, rt := isTrue' } (blank n))
    {vs : List V} {H : Hp} {Q : VK} {E : XK} (h : spLaw K vs H Q E) : tSeq (tFor (iList K (tCall (spBags K) [] E0 (tCons (tVar 0) (tCons (tC (.int lim)) tNil)))) (gName j) tb) us { nx := fun _ H' => Q .non H', rt := Q } (L2.start N vs) H := by
  subst hn
  exact rd_law0 hb hr hj h0 h63 rb rr h hN
theorem rd_lawT {K : PySem.W.Frag} (N : List Str) (n : Nat) (hn : N.length = n) (lim : Int) (j : Nat) {tb us : TS} {db dr : DS} (hb : Ss tb db) (hr : Ss us dr) (hj : j < n) (h0 : 0 ≤ lim) (h63 : lim ≤ 63) (hN : 1 ≤ n)
    (P : Addr) (q : Str) (h0j : 0 ≠ j)
    (rb : db { nx := fun env' => env'.length = n ∧ env'[0]? = some (some (.tab P q)), ct := fun env' => env'.length = n ∧ env'[0]? = some (some (.tab P q)), rt := isTrue' } (((blank n).set 0 (some (.tab P q))).set j (some .bag))) (rr : dr { nx := fun _ => False, rt := isTrue' } (blank n))
    {vs : List V} {H : Hp} {Q : VK} {E : XK} (h : spLawT K P vs H Q E) : tSeq (tFor (iList K (tCall (spBags K) [] E0 (tCons (tVar 0) (tCons (tC (.int lim)) tNil)))) (gName j) tb) us { nx := fun _ H' => Q .non H', rt := Q } (L2.start N vs) H := by
  subst hn
  exact rd_lawT0 hb hr hj h0 h63 P q h0j rb rr h hN
end Pd

set_option maxRecDepth 100000
set_option maxHeartbeats 4000000
namespace Pd
open PySem L2
open Evl (Ex)
open PyProof.Rows (envOfC)
theorem un65 {k : Nat} {A : Around} (r : Room k A) : A.units + 65 < cLine := by
  have := r.un
  omega
section
variable {X : Cx} {a b c e : Expr} {es : List Expr} {ta tb te tc : TE} {tA tB' : TT} {da db dc dd : DE} {dn dm : DN} {dt du : DT} {pos apos cpos : Pos} {tA1 : TA}
theorem rs_setI {i : Nat} {o x : Expr} {ti : TE} {di : DE} {p : Pos} (ho : PE X o (tVar i)) (hi : PEd X x ti di) (h : PEd X e te dd)
    (ha : ∀ v, assign (.Subscript o x p) X.env v = (do
      let ov ← holding [v] (eval o X.env)
      let iv ← holding [v, ov] (eval x X.env)
      standAt p
      holding [v, ov, iv] (setItem ov iv v)
      release [v, ov, iv] []) := by intro _; rfl)
    (hs : swapsWithSole [.Subscript o x p] e pos.line X.env = pure false := by rfl) (hw : swappedStores [.Subscript o x p] e X.env = pure none := by rfl)
    (h1 : (assignEach [.Subscript o x p] X.env).map (·.2) = [assign (.Subscript o x p) X.env] := by rfl) :
    PSd X (.Assign [.Subscript o x p] e pos) (tAsg te (gSub (tVar i) ti rSetL)) (dSetI i di dd) := psd_setI h hi (ps_asg h.pe (pg_sub ho hi.pe set_list ha) hs hw h1)
section
variable {i j : Nat} {x y : Str} {px py pt : Pos} {kt k2 pt2}
theorem rs_par (hc : X.calm = true) (hN : X.N.Nodup) (hi : X.N[i]? = some x) (hj : X.N[j]? = some y) (hij : i ≠ j)
    (hx : X.env.scope.names.lookup x = some .local) (hy : X.env.scope.names.lookup y = some .local) (h : PAf X [a, b] tA1 dn)
    (hw : swappedStores [.Tuple [.Name x px, .Name y py] kt pt] (.Tuple [a, b] k2 pt2) X.env = pure (some [x, y]))
    (hs : swapsWithSole [.Tuple [.Name x px, .Name y py] kt pt] (.Tuple [a, b] k2 pt2) pos.line X.env = pure false := by rfl) :
    PSd X (.Assign [.Tuple [.Name x px, .Name y py] kt pt] (.Tuple [a, b] k2 pt2) pos) (tPar i j tA1) (dPar i j dn) := psd_par h (ps_par hc hN hi hj hij hx hy h.pa hw hs)
theorem rs_parDE {lp : Pos} (hc : X.calm = true) (hN : X.N.Nodup) (hi : X.N[i]? = some x) (hj : X.N[j]? = some y) (hij : i ≠ j)
    (hx : X.env.scope.names.lookup x = some .local) (hy : X.env.scope.names.lookup y = some .local) (h : PEd X a ta da)
    (hw : swappedStores [.Tuple [.Name x px, .Name y py] kt pt] (.Tuple [a, .List [] lp] k2 pt2) X.env = pure (some [x, y]))
    (hs : swapsWithSole [.Tuple [.Name x px, .Name y py] kt pt] (.Tuple [a, .List [] lp] k2 pt2) pos.line X.env = pure false := by rfl)
    (h1 : starEach [a, .List [] lp] X.env = (false, eval a X.env) :: starEach [.List [] lp] X.env := by rfl) (h2 : starEach [.List [] lp] X.env = (false, eval (.List [] lp) X.env) :: starEach [] X.env := by rfl) :
    PSd X (.Assign [.Tuple [.Name x px, .Name y py] kt pt] (.Tuple [a, .List [] lp] k2 pt2) pos) (tPar i j (tCons ta (tCons (tLst tNil) tNil))) (dParDE i j da) := psd_parDE h.s (ps_par hc hN hi hj hij hx hy (pa_cons h.pe (pa_cons (pe_lst pa_nil) pa_nil h2) h1) hw hs)
theorem rs_parNE {lp : Pos} (hc : X.calm = true) (hN : X.N.Nodup) (hi : X.N[i]? = some x) (hj : X.N[j]? = some y) (hij : i ≠ j)
    (hx : X.env.scope.names.lookup x = some .local) (hy : X.env.scope.names.lookup y = some .local) (h : PEn X a ta dn)
    (hw : swappedStores [.Tuple [.Name x px, .Name y py] kt pt] (.Tuple [a, .List [] lp] k2 pt2) X.env = pure (some [x, y]))
    (hs : swapsWithSole [.Tuple [.Name x px, .Name y py] kt pt] (.Tuple [a, .List [] lp] k2 pt2) pos.line X.env = pure false := by rfl)
    (h1 : starEach [a, .List [] lp] X.env = (false, eval a X.env) :: starEach [.List [] lp] X.env := by rfl) (h2 : starEach [.List [] lp] X.env = (false, eval (.List [] lp) X.env) :: starEach [] X.env := by rfl) :
    PSd X (.Assign [.Tuple [.Name x px, .Name y py] kt pt] (.Tuple [a, .List [] lp] k2 pt2) pos) (tPar i j (tCons ta (tCons (tLst tNil) tNil))) (dParNE i j dn) := psd_parNE h.s (ps_par hc hN hi hj hij hx hy (pa_cons h.pe (pa_cons (pe_lst pa_nil) pa_nil h2) h1) hw hs)
end
end
theorem ren_count {K : PySem.W.Frag} {X : Cx} {a b : Expr} {ta tb : TE} {da db : DE} {apos cpos : Pos} (hK : X.K = K) (ha : PEr X a ta da) (hb : PEr X b tb db)
    (hbase : attributeBase a "count" X.env (eval a X.env) = eval a X.env := by rfl)
    (hfew : ((backTo cpos (starEach [b] X.env)).all (fun x => !x.1) && (backToKw cpos (keywordEach [] X.env)).all (fun x => x.1.isSome)
      && decide ([b].length + ([] : List Keyword).length + (if ([] : List Keyword).isEmpty then 0 else 1) < 30)) = true := by rfl)
    (hline : (apos.endLine == cpos.line) = true := by rfl) (hs : starEach [b] X.env = (false, eval b X.env) :: starEach [] X.env := by rfl) (hplain : (backTo cpos (starEach [] X.env)).any (·.1) = false := by rfl) :
    PEd X (.Call (.Attribute a "count" apos) [b] [] cpos) (tBM K "list" (rCntF K) ta (tCons tb tNil)) (dCnt da db) := by
  subst hK
  exact ped_count ha hb hbase hfew hline hs hplain
/-! ### comprehensions, the slots written out -/
section
variable {X : Cx} {elt tg iter : Expr} {ifs : List Expr} {scope : Scope} {pos spos : Pos} {wi : TI} {it : DN} {g : TG} {dg : DG} {vs' : List Nat} {tt : TT} {dt : DT} {te : TE} {dd : DE}
theorem ren_lc (own : List (Str × Nat)) {vs : List Nat} (hvs : own.map (·.2) = vs) (hc : X.calm = true) (hN : X.N.Nodup) (hi : PId X tg iter wi it) (ok : BlkOk X.N X.env.scope scope own)
    (hg : ∀ (s : Shared) (H : Hp) (C : Addr) (cl : List (Str × Addr)) (fp : List Addr), PGd (X.blk s H scope (compEnvC scope cl C X.env) fp) tg g dg vs') (hv : ∀ i ∈ vs', i ∈ vs) (ht : ∀ (s : Shared) (H : Hp) (C : Addr) (cl : List (Str × Addr)) (fp : List Addr), PTsd (X.blk s H scope (compEnvC scope cl C X.env) fp) ifs tt dt)
    (he : ∀ (s : Shared) (H : Hp) (C : Addr) (cl : List (Str × Addr)) (fp : List Addr), PEd (X.blk s H scope (compEnvC scope cl C X.env) fp) elt te dd) (hs : ∀ x, foldedSetIterable iter X.env x = pure x := by intro _; rfl) :
    PEn X (.ListComp elt [⟨tg, iter, ifs, 0⟩] scope pos) (tLc wi g tt te vs) (nLc it dg dt dd vs) := by
  subst hvs
  exact pen_lc hc hN hi ok hg hv ht he hs
theorem rs_lc {i : Nat} {y : Str} {py : Pos} (own : List (Str × Nat)) {vs : List Nat} (hvs : own.map (·.2) = vs) (hc : X.calm = true) (hN : X.N.Nodup) (hy : X.N[i]? = some y) (hyl : X.env.scope.names.lookup y = some .local)
    (hsw : swapsWith (.ListComp elt [⟨tg, iter, ifs, 0⟩] scope pos) (some (.Name y py)) spos.line X.env = pure true) (hi : PId X tg iter wi it) (ok : BlkOk X.N X.env.scope scope own)
    (hg : ∀ (s : Shared) (H : Hp) (C : Addr) (cl : List (Str × Addr)) (fp : List Addr), PGd (X.blk s H scope (compEnvC scope cl C X.env) fp) tg g dg vs') (hv : ∀ i ∈ vs', i ∈ vs) (ht : ∀ (s : Shared) (H : Hp) (C : Addr) (cl : List (Str × Addr)) (fp : List Addr), PTsd (X.blk s H scope (compEnvC scope cl C X.env) fp) ifs tt dt)
    (he : ∀ (s : Shared) (H : Hp) (C : Addr) (cl : List (Str × Addr)) (fp : List Addr), PEd (X.blk s H scope (compEnvC scope cl C X.env) fp) elt te dd) (hs : ∀ x, foldedSetIterable iter X.env x = pure x := by intro _; rfl) :
    PSd X (.Assign [.Name y py] (.ListComp elt [⟨tg, iter, ifs, 0⟩] scope pos) spos) (tAsg (tLc wi g tt te vs) (gName i)) (dAsgG (dFr (nLc it dg dt dd vs)) (gdName i)) := by
  subst hvs
  exact qs_lc hc hN hy hyl hsw hi ok hg hv ht he hs
theorem rs_lcN {i : Nat} {y : Str} {py : Pos} (own : List (Str × Nat)) {vs : List Nat} (hvs : own.map (·.2) = vs) (hc : X.calm = true) (hN : X.N.Nodup) (hy : X.N[i]? = some y) (hyl : X.env.scope.names.lookup y = some .local)
    (hsw : swapsWith (.ListComp elt [⟨tg, iter, ifs, 0⟩] scope pos) (some (.Name y py)) spos.line X.env = pure true) (hi : PId X tg iter wi it) (ok : BlkOk X.N X.env.scope scope own)
    (hg : ∀ (s : Shared) (H : Hp) (C : Addr) (cl : List (Str × Addr)) (fp : List Addr), PGd (X.blk s H scope (compEnvC scope cl C X.env) fp) tg g dg vs') (hv : ∀ i ∈ vs', i ∈ vs) (ht : ∀ (s : Shared) (H : Hp) (C : Addr) (cl : List (Str × Addr)) (fp : List Addr), PTsd (X.blk s H scope (compEnvC scope cl C X.env) fp) ifs tt dt)
    (he : ∀ (s : Shared) (H : Hp) (C : Addr) (cl : List (Str × Addr)) (fp : List Addr), PEd (X.blk s H scope (compEnvC scope cl C X.env) fp) elt te dd) (hs : ∀ x, foldedSetIterable iter X.env x = pure x := by intro _; rfl) :
    PSd X (.Assign [.Name y py] (.ListComp elt [⟨tg, iter, ifs, 0⟩] scope pos) spos) (tAsg (tLc wi g tt te vs) (gName i)) (dAsgN (nLc it dg dt dd vs) i) := by
  subst hvs
  exact qs_lcN hc hN hy hyl hsw hi ok hg hv ht he hs
end
def forBody (st : Stmt) : List Stmt := match st with
  | .For _ _ body _ _ => body
  | _ => []
def lawLoop (st : Stmt) : List Stmt := forBody ((defBody st).getD 0 (.Pass ⟨0, 0, 0, 0⟩))
def lawRest (st : Stmt) : List Stmt := (defBody st).drop 1
/-! ### simp facts -/
theorem dForL_nil {g : DG} {tb : DS} {D : DEnds} {env : Denv} : dForL g tb [] D env = D.nx env := rfl
theorem dForL_cons {g : DG} {tb : DS} {D : DEnds} {env : Denv} {d : PyData} {ds : List PyData} : dForL g tb (d :: ds) D env = g d env fun env' => tb { D with nx := dForL g tb ds D, ct := dForL g tb ds D, bk := D.nx } env' := rfl
theorem lcL_nil {g : DG} {tt : DT} {te : DE} {env : Denv} {Q : List PyData → Prop} : lcL g tt te env [] Q = Q [] := rfl
theorem lcL_cons {g : DG} {tt : DT} {te : DE} {env : Denv} {d : PyData} {ds : List PyData} {Q : List PyData → Prop} : lcL g tt te env (d :: ds) Q = g d env fun env' => tt env' fun b => if b = true then te env' fun y => lcL g tt te env ds fun ys => Q (y :: ys) else lcL g tt te env ds Q := rfl
theorem shp_int (i : Int) : SeqAt.shaped (.int i) = true := by simp [SeqAt.shaped, PyData.canLay0, PyData.depth]
theorem shp_none : SeqAt.shaped .none = true := by simp [SeqAt.shaped, PyData.canLay0, PyData.depth]
theorem shp_bool (b : Bool) : SeqAt.shaped (.bool b) = true := by simp [SeqAt.shaped, PyData.canLay0, PyData.depth]
/- data of a depth at most n, without texts and dicts -/
mutual
def plainN : Nat → PyData → Bool
  | _, .none => true
  | _, .bool _ => true
  | _, .int _ => true
  | n + 1, .list ds => plainA n ds
  | n + 1, .tuple ds => plainA n ds
  | _, _ => false
def plainA : Nat → List PyData → Bool
  | _, [] => true
  | n, d :: ds => plainN n d && plainA n ds
end
mutual
theorem plain_ok : ∀ (n : Nat) (d : PyData), plainN n d = true → d.canLay0 = true ∧ d.depth ≤ n
  | n, .none, _ => ⟨by simp [PyData.canLay0], by simp [PyData.depth]⟩
  | n, .bool _, _ => ⟨by simp [PyData.canLay0], by simp [PyData.depth]⟩
  | n, .int _, _ => ⟨by simp [PyData.canLay0], by simp [PyData.depth]⟩
  | n, .str _, h => by cases n <;> simp [plainN] at h
  | n, .dict _, h => by cases n <;> simp [plainN] at h
  | 0, .list _, h => by simp [plainN] at h
  | 0, .tuple _, h => by simp [plainN] at h
  | n + 1, .list ds, h => by
    obtain ⟨h1, h2⟩ := plain_okA n ds (by simpa [plainN] using h)
    exact ⟨by simpa [PyData.canLay0] using h1, by simp only [PyData.depth]; omega⟩
  | n + 1, .tuple ds, h => by
    obtain ⟨h1, h2⟩ := plain_okA n ds (by simpa [plainN] using h)
    exact ⟨by simpa [PyData.canLay0] using h1, by simp only [PyData.depth]; omega⟩
theorem plain_okA : ∀ (n : Nat) (ds : List PyData), plainA n ds = true → PyData.canLayAll0 ds = true ∧ PyData.depthAll ds ≤ n
  | n, [], _ => ⟨by simp [PyData.canLayAll0], by simp [PyData.depthAll]⟩
  | n, d :: ds, h => by
    have h' : plainN n d = true ∧ plainA n ds = true := by simpa [plainA] using h
    obtain ⟨h1, h2⟩ := plain_ok n d h'.1
    obtain ⟨h3, h4⟩ := plain_okA n ds h'.2
    exact ⟨by simp only [PyData.canLayAll0, h1, h3, Bool.and_self], by simp only [PyData.depthAll]; omega⟩
end
theorem shp_of {d : PyData} (h : plainN 60 d = true) : SeqAt.shaped d = true := by
  obtain ⟨h1, h2⟩ := plain_ok 60 d h
  unfold SeqAt.shaped
  rw [h1, Bool.true_and]
  exact decide_eq_true (by omega)
theorem plainA_all {n : Nat} : ∀ {ds : List PyData}, (∀ d ∈ ds, plainN n d = true) → plainA n ds = true
  | [], _ => by simp [plainA]
  | d :: ds, h => by
    simp only [plainA, h d List.mem_cons_self, plainA_all fun x hx => h x (List.mem_cons_of_mem _ hx), Bool.and_self]
theorem shp_list {ds : List PyData} (h : ∀ d ∈ ds, plainN 59 d = true) : SeqAt.shaped (.list ds) = true := shp_of (by simp only [plainN]; exact plainA_all h)
theorem shp_tuple {ds : List PyData} (h : ∀ d ∈ ds, plainN 59 d = true) : SeqAt.shaped (.tuple ds) = true := shp_of (by simp only [plainN]; exact plainA_all h)
theorem shp_ints (ns : List Int) : SeqAt.shaped (.list (ns.map .int)) = true := shp_list fun d hd => by
  obtain ⟨n, _, rfl⟩ := List.mem_map.mp hd
  rfl
theorem shp_opt (o : Option Int) : SeqAt.shaped (optD o) = true := by
  cases o
  · exact shp_none
  · exact shp_int _
theorem eqv_int (i j : Int) : PyData.eqv (.int i) (.int j) = decide (i = j) := by
  rw [Bool.eq_iff_iff]
  simp [PyData.eqv]
theorem eqv_opt (a b : Option Int) : PyData.eqv (optD a) (optD b) = decide (a = b) := by
  cases a <;> cases b <;> rw [Bool.eq_iff_iff] <;> simp [PyData.eqv, optD]
theorem eqvAll_ints : ∀ ns ms : List Int, PyData.eqvAll (ns.map .int) (ms.map .int) = decide (ns = ms)
  | [], [] => by simp [PyData.eqvAll]
  | [], m :: ms => by simp [PyData.eqvAll]
  | n :: ns, [] => by simp [PyData.eqvAll]
  | n :: ns, m :: ms => by
    rw [List.map_cons, List.map_cons, PyData.eqvAll, eqvAll_ints ns ms, eqv_int, Bool.eq_iff_iff]
    simp
theorem eqv_ints (ns ms : List Int) : PyData.eqv (.list (ns.map .int)) (.list (ms.map .int)) = decide (ns = ms) := by
  rw [PyData.eqv, eqvAll_ints]
/-- a taker, a row -/
def tkD (t : Int × Int) : PyData := .tuple [.int t.1, .int t.2]
def rowD (rs : List (Int × Int)) : PyData := .tuple (rs.map tkD)
theorem eqv_tk (a b : Int × Int) : PyData.eqv (tkD a) (tkD b) = decide (a = b) := by
  obtain ⟨a1, a2⟩ := a
  obtain ⟨b1, b2⟩ := b
  rw [Bool.eq_iff_iff]
  simp [tkD, PyData.eqv, PyData.eqvAll]
theorem eqvAll_tks : ∀ ns ms : List (Int × Int), PyData.eqvAll (ns.map tkD) (ms.map tkD) = decide (ns = ms)
  | [], [] => by simp [PyData.eqvAll]
  | [], m :: ms => by simp [PyData.eqvAll]
  | n :: ns, [] => by simp [PyData.eqvAll]
  | n :: ns, m :: ms => by
    rw [List.map_cons, List.map_cons, PyData.eqvAll, eqvAll_tks ns ms, eqv_tk, Bool.eq_iff_iff]
    simp
theorem eqv_row (ns ms : List (Int × Int)) : PyData.eqv (rowD ns) (rowD ms) = decide (ns = ms) := by
  rw [rowD, rowD, PyData.eqv, eqvAll_tks]
theorem plain_tk (n : Nat) (t : Int × Int) : plainN (n + 1) (tkD t) = true := by simp [tkD, plainN, plainA]
theorem shp_tks (ns : List (Int × Int)) : SeqAt.shaped (.list (ns.map tkD)) = true := shp_list fun d hd => by
  obtain ⟨n, _, rfl⟩ := List.mem_map.mp hd
  exact plain_tk 58 n
theorem shp_row (ns : List (Int × Int)) : SeqAt.shaped (rowD ns) = true := shp_tuple fun d hd => by
  obtain ⟨n, _, rfl⟩ := List.mem_map.mp hd
  exact plain_tk 58 n
theorem shp_tk (t : Int × Int) : SeqAt.shaped (tkD t) = true := shp_of (plain_tk 59 t)
/-! ### the readings' equations, for simp -/
section
variable {i j : Int} {xs ys ds r : List PyData} {d : PyData} {b : Bool} {Q : PyData → Prop} {Qn : List PyData → Prop} {env : Denv} {Qe : Denv → Prop} {g : DG} {gs : DGs} {n : Nat} {v : SV}
theorem q_gnil : gdNil [] env Qe = Qe env := by simp [gdNil]
theorem q_gcons : gdCons g gs (d :: r) env Qe = g d env fun env' => gs r env' Qe := propext ⟨fun ⟨d', r', e, h⟩ => by
  cases e
  exact h, fun h => ⟨d, r, rfl, h⟩⟩
theorem q_gtup : gdTup n gs (.tuple ds) env Qe = (ds.length = n ∧ gs ds env Qe) := by simp [gdTup]
theorem q_neg : negD (.int i) Q = Q (.int (-i)) := rfl
theorem q_add : addD (.int i) (.int j) Q = Q (.int (i + j)) := rfl
theorem q_addl : addD (.list xs) (.list ys) Q = (xs.length + ys.length ≤ 1000000 ∧ Q (.list (xs ++ ys))) := rfl
theorem q_addt : addD (.tuple xs) (.tuple ys) Q = (xs.length + ys.length ≤ 1000000 ∧ Q (.tuple (xs ++ ys))) := rfl
theorem q_sub : subD (.int i) (.int j) Q = Q (.int (i - j)) := rfl
theorem q_mul : mulD (.int i) (.int j) Q = (mulOk i j ∧ Q (.int (i * j))) := rfl
theorem q_mull : mulD (.list xs) (.int j) Q = (0 ≤ j ∧ j ≤ 1000 ∧ xs.length ≤ 1000 ∧ Q (.list (List.replicate j.toNat xs).flatten)) := rfl
theorem q_mult : mulD (.tuple xs) (.int j) Q = (2 ≤ j ∧ j ≤ 1000 ∧ xs.length ≤ 1000 ∧ xs ≠ [] ∧ Q (.tuple (List.replicate j.toNat xs).flatten)) := rfl
theorem q_fdiv : fdivD (.int i) (.int j) Q = ((0 < j ∧ j.natAbs < 2 ^ 1000) ∧ Q (.int (i / j))) := rfl
theorem q_mod : modD (.int i) (.int j) Q = (0 < j ∧ Q (.int (i % j))) := rfl
theorem q_pow : powD (.int i) (.int j) Q = ((0 ≤ j ∧ j ≤ 1000 ∧ i.natAbs < 2 ^ 64) ∧ Q (.int (i ^ j.toNat))) := rfl
theorem q_lt : ltD (.int i) (.int j) Q = Q (.bool (decide (i < j))) := rfl
theorem q_le : leD (.int i) (.int j) Q = Q (.bool (decide (i ≤ j))) := rfl
theorem q_gt : gtD (.int i) (.int j) Q = Q (.bool (decide (j < i))) := rfl
theorem q_ge : geD (.int i) (.int j) Q = Q (.bool (decide (j ≤ i))) := rfl
theorem q_isnn : isNone .none = true := rfl
theorem q_isni : isNone (.int i) = false := rfl
theorem q_isnb : isNone (.bool b) = false := rfl
theorem q_isnt : isNone (.tuple xs) = false := rfl
theorem q_isnl : isNone (.list xs) = false := rfl
theorem q_lenl : lenD [.list ds] Q = Q (.int ds.length) := rfl
theorem q_lent : lenD [.tuple ds] Q = Q (.int ds.length) := rfl
theorem q_inti : intD [.int i] Q = Q (.int i) := rfl
theorem q_intb : intD [.bool b] Q = Q (.int (if b = true then 1 else 0)) := rfl
theorem q_max2 : max2D [.int i, .int j] Q = Q (.int (max i j)) := rfl
theorem q_min2 : min2D [.int i, .int j] Q = Q (.int (min i j)) := rfl
theorem q_listl : listN [.list ds] Qn = Qn ds := rfl
theorem q_listt : listN [.tuple ds] Qn = Qn ds := rfl
theorem q_tuplel : tupleD [.list ds] Q = Q (.tuple ds) := rfl
theorem q_tuplet : tupleD [.tuple ds] Q = Q (.tuple ds) := rfl
theorem q_seql : seqD (.list ds) = some ds := rfl
theorem q_seqt : seqD (.tuple ds) = some ds := rfl
theorem q_rvd : (RVd.dat d).d = d := rfl
theorem q_rvn : (RVd.new ds).d = .list ds := rfl
theorem q_catn : catN (.list xs) (.list ys) Qn = (xs.length + ys.length ≤ 1000000 ∧ Qn (xs ++ ys)) := rfl
theorem q_ixl : ixD (.list ds) (.int i) Q = ∃ z, atI ds i = some z ∧ Q z := rfl
theorem q_ixt : ixD (.tuple ds) (.int i) Q = ∃ z, atI ds i = some z ∧ Q z := rfl
theorem q_dropd : dropO (some (.dat d) :: env) = some (.dat d) :: dropO env := rfl
theorem q_dropb : dropO (some .bag :: env) = some .bag :: dropO env := rfl
theorem q_dropo : dropO (some (.own ds) :: env) = none :: dropO env := rfl
theorem q_dropn : dropO (none :: env) = none :: dropO env := rfl
theorem q_drope : dropO [] = [] := rfl
def enQ (ds' : List PyData) (Q : List PyData → Prop) : Prop := ∃ d ds, ds' = [d] ∧ seqD d = some ds ∧ Q (enumD 0 ds)
theorem q_en {dn : DN} : itEn dn env Qn = dn env fun ds' => enQ ds' Qn := rfl
theorem q_en1 : enQ [d] Qn = ∃ ds, seqD d = some ds ∧ Qn (enumD 0 ds) := propext ⟨fun ⟨d', ds, e, h⟩ => by
  cases e
  exact ⟨ds, h⟩, fun ⟨ds, h⟩ => ⟨d, ds, rfl, h⟩⟩
theorem q_seqr {rs : List (Int × Int)} : seqD (rowD rs) = some (rs.map tkD) := rfl
theorem q_lenr {rs : List (Int × Int)} : lenD [rowD rs] Q = Q (.int rs.length) := by
  show Q (.int ((rs.map tkD).length : Nat)) = _
  rw [List.length_map]
theorem q_ixr {rs : List (Int × Int)} : ixD (rowD rs) (.int i) Q = ∃ z, atI (rs.map tkD) i = some z ∧ Q z := rfl
def setQ (ds : List PyData) (x : PyData) (P : Nat → Prop) : Prop := ∃ k j, x = .int k ∧ ixN ds.length k = some j ∧ P j
theorem q_setI {i : Nat} {ti te : DE} {D : DEnds} : dSetI i ti te D env = te env fun d => ∃ ds, env[i]? = some (some (.own ds)) ∧ ti env fun x => setQ ds x fun j => D.nx (env.set i (some (.own (ds.set j d)))) := rfl
theorem q_setQ {P : Nat → Prop} : setQ ds (.int i) P = ∃ j, ixN ds.length i = some j ∧ P j := propext ⟨fun ⟨k, j, e, h⟩ => by
  cases e
  exact ⟨j, h⟩, fun ⟨j, h⟩ => ⟨i, j, rfl, h⟩⟩
theorem q_take {m : Int} {R : RVd → Prop} : spTake [.bag, .dat (.int m)] R = (0 < m ∧ ∀ r : Int, 0 ≤ r → r < m → R (.dat (.int r))) := propext ⟨fun ⟨m', e, h⟩ => by
  cases e
  exact h, fun h => ⟨m, rfl, h⟩⟩
/-- the item in the middle -/
theorem at_mid {α : Type} (pre : List α) (c : α) (cs : List α) : atI (pre ++ c :: cs) (pre.length : Int) = some c := atI_nat (by simp)
theorem at_midI (pre : List Int) (c : Int) (cs : List Int) {n : Nat} (h : pre.length = n) : atI ((pre ++ c :: cs).map PyData.int) (n : Int) = some (.int c) := by
  rw [List.map_append, List.map_cons, ← h]
  have := at_mid (pre.map PyData.int) (.int c) (cs.map PyData.int)
  rw [List.length_map] at this
  exact this
theorem set_midI (pre : List Int) (c c' : Int) (cs : List Int) {n : Nat} (h : pre.length = n) : ((pre ++ c :: cs).map PyData.int).set n (.int c') = (pre ++ c' :: cs).map PyData.int := by
  rw [← List.map_set]
  congr 1
  rw [← h, List.set_append_right _ _ (Nat.le_refl _)]
  simp
theorem optD_inj : ∀ {os os' : List (Option Int)}, os.map optD = os'.map optD → os = os'
  | [], [], _ => rfl
  | [], _ :: _, h => by cases h
  | _ :: _, [], h => by cases h
  | a :: os, b :: os', h => by
    rw [List.map_cons, List.map_cons] at h
    injection h with h1 h2
    have : a = b := by
      cases a <;> cases b <;> cases h1 <;> rfl
    rw [this, optD_inj h2]
theorem cntL {os : List (Option Int)} {P : List (Option Int) → Prop} : (∃ os' : List (Option Int), os.map optD = os'.map optD ∧ P os') = P os := propext ⟨fun ⟨os', e, h⟩ => by
  rw [optD_inj e]
  exact h, fun h => ⟨os, rfl, h⟩⟩
theorem cntQ_some {P : Option Int → Prop} : (∃ o : Option Int, PyData.int i = optD o ∧ P o) = P (some i) := propext ⟨fun ⟨o, e, h⟩ => by
  cases o with
  | none => cases e
  | some j =>
    cases e
    exact h, fun h => ⟨some i, rfl, h⟩⟩
theorem cntQ_none {P : Option Int → Prop} : (∃ o : Option Int, PyData.none = optD o ∧ P o) = P none := propext ⟨fun ⟨o, e, h⟩ => by
  cases o with
  | none => exact h
  | some j => exact (by cases e), fun h => ⟨none, rfl, h⟩⟩
theorem tkD_inj {a b : Int × Int} (h : tkD a = tkD b) : a = b := by
  obtain ⟨a1, a2⟩ := a
  obtain ⟨b1, b2⟩ := b
  unfold tkD at h
  injection h with h
  injection h with h1 h2
  injection h2 with h2 h3
  injection h1 with h1
  injection h2 with h2
  dsimp only at h1 h2
  rw [h1, h2]
theorem tks_inj : ∀ {as bs : List (Int × Int)}, as.map tkD = bs.map tkD → as = bs
  | [], [], _ => rfl
  | [], _ :: _, h => by cases h
  | _ :: _, [], h => by cases h
  | a :: as, b :: bs, h => by
    rw [List.map_cons, List.map_cons] at h
    injection h with h1 h2
    rw [tkD_inj h1, tks_inj h2]
theorem rowD_inj {as bs : List (Int × Int)} (h : rowD as = rowD bs) : as = bs := tks_inj (PyData.tuple.inj h)
theorem exRow {rs : List (Int × Int)} {P : List (Int × Int) → Prop} : (∃ rs', rowD rs = rowD rs' ∧ P rs') = P rs := propext ⟨fun ⟨rs', e, h⟩ => by
  rw [rowD_inj e]
  exact h, fun h => ⟨rs, rfl, h⟩⟩
theorem exTk {t : Int × Int} {P : Int × Int → Prop} : (∃ t', tkD t = tkD t' ∧ P t') = P t := propext ⟨fun ⟨t', e, h⟩ => by
  rw [tkD_inj e]
  exact h, fun h => ⟨t, rfl, h⟩⟩
theorem rowD_nil : PyData.tuple [] = rowD [] := rfl
end
end Pd

set_option maxRecDepth 100000
set_option maxHeartbeats 4000000
/-! ### t[::-1] of a tuple -/
namespace HT
open PySem PySem.Spec PyProof.Rows
section
variable {prog : Program} {w : World} {A : Around} {E : Value → Shared → Prop} {s : Shared}
theorem pd_adjust_rev (n : Nat) : Builtin.Slice.sliceAdjust none none (-1) (n : Int) = ((n : Int) - 1, -1) := by
  unfold Builtin.Slice.sliceAdjust
  rfl
theorem pd_places_rev (n : Nat) : Builtin.Slice.slicePlaces ((n : Int) - 1) (-1) (-1) = n := by
  unfold Builtin.Slice.slicePlaces
  have h1 : ¬ ((-1 : Int) > 0) := by decide
  simp only [h1, if_false]
  split
  · rw [show (- -1 : Int) = 1 by decide, Int.ediv_one]
    omega
  · omega
theorem pd_sliceApplied_rev {sl : Addr} {vl vu vs : Value} {n : Nat} {Q : Int × Int × Nat → Shared → Prop} (hs : s.heap.IsSliceOf sl vl vu vs) (pl : IsPart vl none) (pu : IsPart vu none) (ps : IsPart vs (some (-1)))
    (h : Q ((n : Int) - 1, -1, n) s) : wpAny (model prog w) A (Builtin.Slice.sliceApplied (.ref sl) (pure (n : Int))) Q E s := by
  obtain ⟨os, hos, hcs, hds⟩ := id hs
  unfold Builtin.Slice.sliceApplied Builtin.Slice.sliceFields
  refine wpAny_bind (wpAny_bind (wpAny_field hos hds (x := vl) rfl (wpAny_bind (wpAny_field hos hds (x := vu) rfl (wpAny_bind (wpAny_field hos hds (x := vs) rfl (wpAny_pure ?_)))))))
  refine wpAny_bind (slicePart_ ps ?_)
  show wpAny _ _ (if ((-1 : Int) == 0) = true then _ else _) _ _ s
  rw [if_neg (by decide)]
  refine wpAny_bind (slicePart_ pl (wpAny_bind (slicePart_ pu (wpAny_bind (wpAny_pure ?_)))))
  show wpAny _ _ (match Builtin.Slice.sliceAdjust none none (-1) (n : Int) with | (lo, hi) => pure (lo, (-1 : Int), Builtin.Slice.slicePlaces lo hi (-1))) _ _ s
  rw [pd_adjust_rev]
  show wpAny _ _ (pure ((n : Int) - 1, (-1 : Int), Builtin.Slice.slicePlaces ((n : Int) - 1) (-1) (-1))) _ _ s
  rw [pd_places_rev]
  exact wpAny_pure h
theorem pd_pick_rev (xs : Array Value) : ((List.range xs.size).filterMap fun (m : Nat) => xs[((xs.size : Int) - 1 + (m : Int) * (-1)).toNat]?).toArray = xs.toList.reverse.toArray := by
  have e : (fun (m : Nat) => xs[((xs.size : Int) - 1 + (m : Int) * (-1)).toNat]?) = fun m => xs[xs.size - 1 - m]? := by
    funext m
    have : ((xs.size : Int) - 1 + (m : Int) * (-1)).toNat = xs.size - 1 - m := by omega
    rw [this]
  rw [e]
  have h1 : (List.range xs.size).filterMap (fun m => xs[xs.size - 1 - m]?) = ((List.range xs.size).map fun k => xs.size - 1 - k).filterMap (xs[·]?) := by
    rw [List.filterMap_map]
    rfl
  rw [h1, PySem.W.krv_range, List.filterMap_reverse, PySem.W.krv_all]
theorem pd_getItem_tuple_rev {t sl : Addr} {items : Array Value} {vl vu vs : Value} {Q : Value → Shared → Prop} (ht : IsTup s.heap t items) (hs : s.heap.IsSliceOf sl vl vu vs) (pl : IsPart vl none) (pu : IsPart vu none) (ps : IsPart vs (some (-1)))
    (h : Q (.ref s.heap.objs.size) { s with heap := s.heap.push { cls := .type "tuple", data := .seq items.toList.reverse.toArray } })
    (hsz : items.size ≤ sizeLine) : wpAny (model prog w) A (getItem (.ref t) (.ref sl)) Q E s := by
  have htake : sizeOk (.seq items.toList.reverse.toArray) := by
    show items.toList.reverse.toArray.size ≤ sizeLine
    rw [List.size_toArray, List.length_reverse, Array.length_toList]
    exact hsz
  obtain ⟨os, hos, hcs, hds⟩ := id hs
  have hTs : s.TypeIs (.ref sl) "slice" := ⟨os, hos, hcs⟩
  unfold getItem
  try with_reducible refine wpAny_holding ?_
  first | refine wpAny_bind (wpAny_pure ?_) | skip
  refine wpAny_bind (wpAny_sequenceKey ht.typeIs (by decide) ?_)
  refine wpAny_bind (wpAny_callSpecial?_slot (name := Str.ofString "__getitem__") ht.typeIs PyProof.Rows.slot_tuple_getitem
    (wpAny_call_entry PyProof.Rows.slot_tuple_getitem ht.typeIs entry_tuple_getitem ?_ (args_tuple_getitem _ _)))
  show wpAny _ _ (Builtin.Tuple.tupleItemsOf (.ref t) >>= _) _ _ s
  refine wpAny_bind (tupleItemsOf_ ht ?_)
  refine wpAny_bind (wpAny_typeOf hTs ?_)
  rw [if_pos (by decide)]
  refine wpAny_bind (pd_sliceApplied_rev hs pl pu ps ?_)
  show wpAny _ _ (if (((items.size : Int) - 1 == 0 && (-1 : Int) == 1 && items.size == items.size) = true) then _ else _) _ _ s
  rw [if_neg (by
    intro q
    rw [Bool.and_eq_true, Bool.and_eq_true] at q
    exact absurd q.1.2 (by decide)), pd_pick_rev]
  first
    | exact wpAny_bind (m := Builtin.Tuple.tupleExact _) (wpAny_newObj_type (wpAny_pure ⟨_, rfl, wpAny_pure h⟩) htake)
    | exact wpAny_bind (m := Builtin.Tuple.tupleExact _) (wpAny_newObj_type (wpAny_bind (wpAny_pure (wpAny_pure ⟨_, rfl, wpAny_pure h⟩))) htake)
    | exact wpAny_bind (wpAny_bind (m := Builtin.Tuple.tupleExact _) (wpAny_newObj_type (wpAny_pure (wpAny_pure ⟨_, rfl, wpAny_pure h⟩)) htake))
    | exact wpAny_bind (wpAny_bind (m := Builtin.Tuple.tupleExact _) (wpAny_newObj_type (wpAny_pure ⟨_, rfl, wpAny_pure h⟩) htake))
end
end HT
namespace Pd
open PySem PySem.Spec PyProof.Rows L2
open Evl (Ex)
def tRevA (K : PySem.W.Frag) (te : TE) : TE := fun σ H Q => te σ H fun x H1 => (∃ a xs, x = .ref a ∧ SqL K H1 a xs ∧ ∀ p, H1 p = none → Q (.ref p) (upd H1 p (.lst xs.reverse))) ∨ (∃ a xs, x = .ref a ∧ SqT K H1 a xs ∧ ∀ p, H1 p = none → Q (.ref p) (upd H1 p (.tup xs.reverse)))
theorem pe_revA {X : Cx} {e : Expr} {te : TE} {k : Nat} {p1 p2 p3 pos : Pos} (he : PE X e te) : PE X (.Subscript e (.Slice none none (some (.UnaryOp .USub (.Constant (.int 1) k p1) p2)) p3) pos) (tRevA X.K te) := by
  refine ⟨fun pins s σ H Q I h => ?_⟩
  refine Subscript_ (thn (he.run pins s σ H _ I h) fun v s1 ⟨x, H1, I1, r1, q1⟩ => ?_)
  have hst : PO X (some (.UnaryOp .USub (.Constant (.int 1) k p1) p2)) (tPart (tUn (rU fun i => .int (-i)) (tC (.int 1)))) := po_some (pe_un un_neg pe_int)
  refine wpAny_Slice (thn (po_none.run pins s1 σ H1 (fun o H2 => o = none ∧ H2 = H1) I1 ⟨rfl, rfl⟩) fun vl s2 ⟨l, H2, I2, pl, el, e2⟩ => ?_)
  subst el e2
  refine thn (po_none.run pins s2 σ H2 (fun o H3 => o = none ∧ H3 = H2) I2 ⟨rfl, rfl⟩) fun vu s3 ⟨u, H3, I3, pu, eu, e3⟩ => ?_
  subst eu e3
  refine thn (hst.run pins s3 σ H3 (fun o H4 => o = some (-1) ∧ H4 = H3) I3 ⟨1, rfl, -1, rfl, rfl, rfl⟩) fun vs s4 ⟨o, H4, I4, ps, eo, e4⟩ => ?_
  subst eo e4
  have I5 : Inv X pins σ H4 { s4 with heap := s4.heap.push { cls := .type "slice", data := .fields #[vl, vu, vs] } } := I4.kept (t' := s4.toks) fun b ob q => Heap.get?_push_of_some _ q
  rcases q1 with ⟨a, xs, ex, hx, q⟩ | ⟨a, xs, ex, hx, q⟩
  · subst ex
    cases r1
    obtain ⟨its, r, ht, hz⟩ := I5.list hx
    have hlen := r.length
    show wpAny (model X.prog X.w) X.A (subscriptTail e (.Slice none none (some (.UnaryOp .USub (.Constant (.int 1) k p1) p2)) p3) (.ref a) (.ref s4.heap.objs.size)) (EP X pins σ Q) X.xe { s4 with heap := s4.heap.push { cls := .type "slice", data := .fields #[vl, vu, vs] } }
    refine tail_any (ops := [.ref a, .ref s4.heap.objs.size]) ht.isList.typeIs (PySem.slot_list_getitem.lookup) ?_ (by with_unfolding_all rfl)
    refine wpAny_getItem_list_slice ht.isList (Heap.IsSliceOf.new _ vl vu vs) pl pu ps (by decide) ?_ (by rw [List.size_toArray]; omega)
    rw [PySem.W.krv_pick]
    refine ⟨.ref _, _, I5.laid (t' := s4.toks) (o := .lst xs.reverse) (fun b ob q => Heap.get?_push_of_some _ q) (Nat.le_refl _) ?_, rfl, q _ (I5.hok.fresh (Nat.le_refl _))⟩
    exact ⟨by rw [List.length_reverse]; exact hz, _, 0, r.reverse, Heap.get?_push_size _ rfl⟩
  · subst ex
    cases r1
    obtain ⟨its, r, ht, hz⟩ := I5.tuple hx
    have hlen := r.length
    show wpAny (model X.prog X.w) X.A (subscriptTail e (.Slice none none (some (.UnaryOp .USub (.Constant (.int 1) k p1) p2)) p3) (.ref a) (.ref s4.heap.objs.size)) (EP X pins σ Q) X.xe { s4 with heap := s4.heap.push { cls := .type "slice", data := .fields #[vl, vu, vs] } }
    refine tail_any (ops := [.ref a, .ref s4.heap.objs.size]) ht.typeIs (PyProof.Rows.slot_tuple_getitem.lookup) ?_ (by with_unfolding_all rfl)
    refine HT.pd_getItem_tuple_rev ht (Heap.IsSliceOf.new _ vl vu vs) pl pu ps ?_ (by rw [List.size_toArray]; omega)
    refine ⟨.ref _, _, I5.laid (t' := s4.toks) (o := .tup xs.reverse) (fun b ob q => Heap.get?_push_of_some _ q) (Nat.le_refl _) ?_, rfl, q _ (I5.hok.fresh (Nat.le_refl _))⟩
    exact ⟨by rw [List.length_reverse]; exact hz, _, r.reverse, ⟨_, Heap.get?_push_size _ rfl, rfl, _, rfl⟩⟩
def revD : PyData → (PyData → Prop) → Prop
  | .list ds, Q => Q (.list ds.reverse)
  | .tuple ds, Q => Q (.tuple ds.reverse)
  | _, _ => False
theorem ped_rev {X : Cx} {a : Expr} {ta : TE} {da : DE} {k : Nat} {p1 p2 p3 pos : Pos} (ha : PEr X a ta da) : PEd X (.Subscript a (.Slice none none (some (.UnaryOp .USub (.Constant (.int 1) k p1) p2)) p3) pos) (tRevA X.K ta) (d1 revD da) := ⟨pe_revA ha.pe, fun B F H σ env Q Qv n q k =>
  ha.s B F H σ env _ _ n q fun v d F1 H1 q1 e1 n1 r1 => by
    cases d with
    | list ds =>
      obtain ⟨a', vs, rfl, h1, h2⟩ := (r1.rb n1).list n1.g.fh
      refine .inl ⟨a', vs, rfl, SqL.of h1, fun p hp => ?_⟩
      have g : Gro F1 H1 (upd F1 p (.lst vs.reverse)) (upd H1 p (.lst vs.reverse)) := .new hp
      exact k _ _ _ _ q1 (e1.trans (g.ex n1.g.fh)) (n1.gro g) (.lst upd_same (h2.rev.up (g.ex n1.g.fh)))
    | tuple ds =>
      obtain ⟨a', vs, rfl, h1, h2⟩ := (r1.rb n1).tuple
      refine .inr ⟨a', vs, rfl, SqT.of (n1.g.fh _ _ h1), fun p hp => ?_⟩
      have g : Gro F1 H1 (upd F1 p (.tup vs.reverse)) (upd H1 p (.tup vs.reverse)) := .new hp
      exact k _ _ _ _ q1 (e1.trans (g.ex n1.g.fh)) (n1.gro g) (.tup upd_same (h2.rev.up (g.ex n1.g.fh)))
    | _ => exact q1.elim⟩
theorem q_revl {ds : List PyData} {Q : PyData → Prop} : revD (.list ds) Q = Q (.list ds.reverse) := rfl
theorem q_revt {ds : List PyData} {Q : PyData → Prop} : revD (.tuple ds) Q = Q (.tuple ds.reverse) := rfl
theorem q_revr {rs : List (Int × Int)} {Q : PyData → Prop} : revD (rowD rs) Q = Q (rowD rs.reverse) := by
  show Q (.tuple (rs.map tkD).reverse) = Q (.tuple (rs.reverse.map tkD))
  rw [List.map_reverse]
end Pd

set_option maxRecDepth 100000
set_option maxHeartbeats 4000000
namespace Pd
open PySem L2
open Evl (Ex)
open PyProof.Rows (envOfC)
/-! ### a, b, c = x, y, z -/
section
variable {X : Cx} {a b c e : Expr} {es : List Expr} {ta tb te tc : TE} {da db dc dd : DE} {dn dm : DN} {dt du : DT} {pos apos cpos : Pos} {tA1 : TA}
variable {i j l : Nat} {x y z : Str} {px py pz pt : Pos} {kt k2 pt2}
theorem rs_par3 (hc : X.calm = true) (hN : X.N.Nodup) (hi : X.N[i]? = some x) (hj : X.N[j]? = some y) (hl : X.N[l]? = some z) (hij : i ≠ j) (hil : i ≠ l) (hjl : j ≠ l)
    (hx : X.env.scope.names.lookup x = some .local) (hy : X.env.scope.names.lookup y = some .local) (hz : X.env.scope.names.lookup z = some .local) (h : PAf X [a, b, c] tA1 dn)
    (hw : swappedStores [.Tuple [.Name x px, .Name y py, .Name z pz] kt pt] (.Tuple [a, b, c] k2 pt2) X.env = pure (some [x, y, z]))
    (hs : swapsWithSole [.Tuple [.Name x px, .Name y py, .Name z pz] kt pt] (.Tuple [a, b, c] k2 pt2) pos.line X.env = pure false := by rfl) :
    PSd X (.Assign [.Tuple [.Name x px, .Name y py, .Name z pz] kt pt] (.Tuple [a, b, c] k2 pt2) pos) (tPar3 i j l tA1) (dPar3 i j l dn) := psd_par3 h (ps_par3 hc hN hi hj hl hij hil hjl hx hy hz h.pa hw hs)
/-! ### list(range(n)), tuple(range(n)) -/
theorem dta_rg {F : Hp} (n : Int) : DtA F (rgV 0 n) (rngD 0 n.toNat) := by
  have e1 : rgV 0 n = ((List.range n.toNat).map fun i => ((0 : Int) + (i : Nat))).map V.int := by
    unfold rgV
    rw [List.map_map, Int.sub_zero]
    rfl
  have e2 : rngD 0 n.toNat = ((List.range n.toNat).map fun i => ((0 : Int) + (i : Nat))).map PyData.int := by
    unfold rngD
    rw [List.map_map]
    rfl
  rw [e1, e2]
  exact DtA.of_ints _
def nListRg (da : DE) : DN := fun env Q => da env fun d => ∃ n : Int, d = .int n ∧ (0 ≤ n ∧ n ≤ 100000) ∧ Q (rngD 0 n.toNat)
def dTupRg (da : DE) : DE := fun env Q => da env fun d => ∃ n : Int, d = .int n ∧ (0 ≤ n ∧ n ≤ 100000) ∧ Q (.tuple (rngD 0 n.toNat))
theorem pen_list_rg {p p2 pos2 : Pos} (hc : X.calm = true) (hg : Gl X "list") (hm : X.mg "list" = none) (hg2 : Gl X "range") (hm2 : X.mg "range" = none) (ha : PEd X a ta da) (na : starEach [a] X.env = (false, eval a X.env) :: starEach [] X.env := by rfl)
    (na2 : starEach [.Call (.Name "range" p2) [a] [] pos2] X.env = (false, eval (.Call (.Name "range" p2) [a] [] pos2) X.env) :: starEach [] X.env := by rfl) :
    PEn X (.Call (.Name "list" p) [.Call (.Name "range" p2) [a] [] pos2] [] pos) (tLstRg (tRg1 ta)) (nListRg da) := ⟨pe_listRg hc hg hm (prg_1 hg2 hm2 ha.pe na) na2, fun B F H σ env Q Qv n q k =>
  ha.s B F H σ env _ _ n q fun v d F1 H1 ⟨m, ed, ⟨m0, m1⟩, q1⟩ e1 n1 r1 => by
    subst ed
    cases r1
    refine ⟨m, rfl, RgOk.of_le (Int.le_refl 0) (by omega) (by omega) m0, fun p hp => ?_⟩
    obtain ⟨f1, f2⟩ := Fresh.of n1 hp (dta_rg (F := F1) m)
    exact k p _ _ F1 _ q1 e1 f2 f1⟩
theorem ped_tuple_rg {p p2 pos2 : Pos} (hc : X.calm = true) (hg : Gl X "tuple") (hm : X.mg "tuple" = none) (hg2 : Gl X "range") (hm2 : X.mg "range" = none) (ha : PEd X a ta da) (na : starEach [a] X.env = (false, eval a X.env) :: starEach [] X.env := by rfl)
    (na2 : starEach [.Call (.Name "range" p2) [a] [] pos2] X.env = (false, eval (.Call (.Name "range" p2) [a] [] pos2) X.env) :: starEach [] X.env := by rfl) :
    PEd X (.Call (.Name "tuple" p) [.Call (.Name "range" p2) [a] [] pos2] [] pos) (tTupRg (tRg1 ta)) (dTupRg da) := ⟨pe_tupRg hc hg hm (prg_1 hg2 hm2 ha.pe na) na2, fun B F H σ env Q Qv n q k =>
  ha.s B F H σ env _ _ n q fun v d F1 H1 ⟨m, ed, ⟨m0, m1⟩, q1⟩ e1 n1 r1 => by
    subst ed
    cases r1
    refine ⟨m, rfl, RgOk.of_le (Int.le_refl 0) (by omega) (by omega) m0, fun p hp => ?_⟩
    have g : Gro F1 H1 (upd F1 p (.tup (rgV 0 m))) (upd H1 p (.tup (rgV 0 m))) := .new hp
    exact k _ _ _ _ q1 (e1.trans (g.ex n1.g.fh)) (n1.gro g) (.tup upd_same (dta_rg m))⟩
theorem rg_tup {K : PySem.W.Frag} {gs : TGs} {dgs : DGs} {vs : List Nat} {k n : Nat} (hK : X.K = K) (hc : X.calm = true) (h : PGsd X es gs dgs vs) (hn : (assignEach es X.env).length = n := by rfl) (hst : (assignEach es X.env).findIdx? (·.1) = none := by rfl) : PGd X (.Tuple es k pos) (gTup K n gs) (gdTup n dgs) vs := by
  subst hK
  exact qg_tup hc h hn hst
theorem ren_sl {K : PySem.W.Frag} {lo hi : Option Expr} {tl th : St → Hp → (Option Int → Hp → Prop) → Prop} {dl dh : DO} {p2 : Pos} (hK : X.K = K) (ha : PEr X a ta da) (hl : POd X lo tl dl) (hh : POd X hi th dh) : PEd X (.Subscript a (.Slice lo hi none p2) pos) (tSl (rSlB K) ta tl th) (dSl da dl dh) := by
  subst hK
  exact ped_sl ha hl hh
/-! ### own.insert(i, x) -/
def rInsert : V → List V → Hp → VK → Prop := fun x vs H Q => ∃ (l : Addr) (xs : List V) (i : Int) (y : V), x = .ref l ∧ vs = [.int i, y] ∧ H l = some (.lst xs) ∧ xs.length < sizeLine ∧ 0 ≤ i ∧ i < 2 ^ 63 ∧
    Q .non (upd H l (.lst (xs.take i.toNat ++ [y] ++ xs.drop i.toNat)))
def dInsert (i : Nat) (ti te : DE) : DS := fun D env => ∃ ds, env[i]? = some (some (.own ds)) ∧ ti env fun x => te env fun d => ∃ k : Int, x = .int k ∧ (0 ≤ k ∧ k ≤ 100000) ∧ ds.length < 1000000 ∧ D.nx (env.set i (some (.own (ds.take k.toNat ++ [d] ++ ds.drop k.toNat))))
theorem qs_insert {i : Nat} {o : Expr} (ho : PE X o (tVar i)) (ha : PEd X a ta da) (h : PEd X e te dd)
    (hbase : attributeBase o "insert" X.env (eval o X.env) = eval o X.env := by rfl)
    (hfew : ((backTo cpos (starEach [a, e] X.env)).all (fun x => !x.1) && (backToKw cpos (keywordEach [] X.env)).all (fun x => x.1.isSome)
      && decide ([a, e].length + ([] : List Keyword).length + (if ([] : List Keyword).isEmpty then 0 else 1) < 30)) = true := by rfl)
    (hline : (apos.endLine == cpos.line) = true := by rfl) (hs : starEach [a, e] X.env = (false, eval a X.env) :: starEach [e] X.env := by rfl) (hs2 : starEach [e] X.env = (false, eval e X.env) :: starEach [] X.env := by rfl) (hplain : (backTo cpos (starEach [e] X.env)).any (·.1) = false := by rfl)
    (hsw : swapsWith (.Call (.Attribute o "insert" apos) [a, e] [] cpos) none pos.line X.env = pure false := by rfl) :
    PSd X (.Expr (.Call (.Attribute o "insert" apos) [a, e] [] cpos) pos) (tDrop (tBM X.K "list" rInsert (tVar i) (tCons ta (tCons te tNil)))) (dInsert i da dd) :=
  ⟨ps_expr (pe_bm PySem.F.plainAttrs_list PySem.F.slot_list_insert PySem.F.type_list_insert mt_insert ho (pa_cons ha.pe (pa_cons h.pe pa_nil hs2) hs) hbase hfew hline hs hplain) hsw, fun B F H σ env D Dd n k q => by
  obtain ⟨ds, h1, q⟩ := q
  obtain ⟨l, vs, h2, h3, h4, h5, h6⟩ := n.own h1
  refine ⟨_, h2, .inl ⟨rfl, vs, SqL.of h5⟩, ha.s B F H σ env _ _ n q fun w f F1 H1 q1 e1 n1 t1 => h.s B F1 H1 σ env _ _ n1 q1 fun v d F' H' ⟨kk, ek, ⟨k0, k1⟩, hl, q'⟩ e' n' t' => ?_⟩
  subst ek
  cases t1
  obtain ⟨l', ws, p2, p3, p4, p5, p6⟩ := n'.own h1
  rw [h2] at p2
  cases p2
  refine ⟨l, ws, kk, v, rfl, rfl, p5, ?_, k0, by omega, k.nx F' _ σ _ (e1.trans e') (n'.mut h1 h2 (((p6.take _).app (.cons t' .nil)).app (p6.drop _))) q'⟩
  rw [p6.len]
  exact Nat.lt_of_lt_of_le hl (by decide)⟩
end
/-! ### simp facts -/
theorem ints_inj : ∀ {as bs : List Int}, as.map PyData.int = bs.map PyData.int → as = bs
  | [], [], _ => rfl
  | [], _ :: _, h => by cases h
  | _ :: _, [], h => by cases h
  | a :: as, b :: bs, h => by
    rw [List.map_cons, List.map_cons] at h
    injection h with h1 h2
    injection h1 with h1
    rw [h1, ints_inj h2]
theorem exInts {xs : List Int} {P : List Int → Prop} : (∃ ns : List Int, xs.map PyData.int = ns.map PyData.int ∧ P ns) = P xs := propext ⟨fun ⟨ns, e, h⟩ => by
  rw [ints_inj e]
  exact h, fun h => ⟨xs, rfl, h⟩⟩
theorem q_sum {xs : List Int} {Q : PyData → Prop} : sumD [.list (xs.map .int)] Q = Q (.int xs.sum) := propext ⟨fun ⟨ns, e, h⟩ => by
  injection e with e
  injection e with e
  rw [ints_inj e]
  exact h, fun h => ⟨xs, rfl, h⟩⟩
theorem q_min {xs : List Int} {Q : PyData → Prop} : minD [.list (xs.map .int)] Q = (xs ≠ [] ∧ ∀ m, m ∈ xs → (∀ y ∈ xs, m ≤ y) → Q (.int m)) := propext ⟨fun ⟨ns, e, h⟩ => by
  injection e with e
  injection e with e
  rw [ints_inj e]
  exact h, fun h => ⟨xs, rfl, h⟩⟩
theorem q_max {xs : List Int} {Q : PyData → Prop} : maxD [.list (xs.map .int)] Q = (xs ≠ [] ∧ ∀ m, m ∈ xs → (∀ y ∈ xs, y ≤ m) → Q (.int m)) := propext ⟨fun ⟨ns, e, h⟩ => by
  injection e with e
  injection e with e
  rw [ints_inj e]
  exact h, fun h => ⟨xs, rfl, h⟩⟩
/-! slices, items of mapped lists -/
def cutG {α : Type} (xs : List α) (lo hi : Option Int) : List α := (xs.drop (HT.sIx xs.length 0 lo)).take (HT.sIx xs.length xs.length hi - HT.sIx xs.length 0 lo)
theorem cutG_map {α β : Type} (f : α → β) (xs : List α) (lo hi : Option Int) : cutG (xs.map f) lo hi = (cutG xs lo hi).map f := by
  unfold cutG
  rw [List.length_map, ← List.map_drop, ← List.map_take]
theorem cutD_eq (ds : List PyData) (lo hi : Option Int) : cutD ds lo hi = cutG ds lo hi := rfl
theorem cutG_to {α : Type} (ds : List α) (m : Nat) : cutG ds none (some (m : Int)) = ds.take m := by
  unfold cutG
  rw [HT.sIx_none, HT.sIx_nat, List.drop_zero, Nat.sub_zero]
  rcases Nat.le_total m ds.length with h | h
  · rw [Nat.min_eq_left h]
  · rw [Nat.min_eq_right h, List.take_of_length_le (Nat.le_refl _), List.take_of_length_le h]
theorem cutG_from {α : Type} (ds : List α) (m : Nat) : cutG ds (some (m : Int)) none = ds.drop m := by
  unfold cutG
  rw [HT.sIx_none, HT.sIx_nat]
  rcases Nat.le_total m ds.length with h | h
  · rw [Nat.min_eq_left h, List.take_of_length_le (by rw [List.length_drop]; exact Nat.le_refl _)]
  · rw [Nat.min_eq_right h, List.drop_of_length_le (Nat.le_refl _), List.drop_of_length_le h]
    simp
theorem cutG_last {α : Type} (ds : List α) (x : α) : cutG (ds ++ [x]) none (some (-1)) = ds := by
  unfold cutG
  rw [HT.sIx_none, List.drop_zero, Nat.sub_zero]
  have : HT.sIx (ds ++ [x]).length (ds ++ [x]).length (some (-1)) = ds.length := by
    show (if (-1 : Int) < 0 then ((-1 : Int) + ((ds ++ [x]).length : Int)).toNat else min (-1 : Int).toNat (ds ++ [x]).length) = _
    rw [if_pos (by decide), List.length_append, List.length_singleton]
    omega
  rw [this, List.take_left]
def slQ (d : PyData) (l u : Option Int) (Q : PyData → Prop) : Prop := match d with
  | .list ds => Q (.list (cutD ds l u))
  | .tuple ds => Q (.tuple (cutD ds l u))
  | _ => False
theorem q_sl {da : DE} {lo hi : DO} {env : Denv} {Q : PyData → Prop} : dSl da lo hi env Q = da env fun d => lo env fun l => hi env fun u => slQ d l u Q := by
  unfold dSl slQ
  rfl
theorem q_sll {ds : List PyData} {l u : Option Int} {Q : PyData → Prop} : slQ (.list ds) l u Q = Q (.list (cutD ds l u)) := rfl
theorem q_slt {ds : List PyData} {l u : Option Int} {Q : PyData → Prop} : slQ (.tuple ds) l u Q = Q (.tuple (cutD ds l u)) := rfl
theorem q_slr {rs : List (Int × Int)} {l u : Option Int} {Q : PyData → Prop} : slQ (rowD rs) l u Q = Q (rowD (cutG rs l u)) := by
  show Q (.tuple (cutD (rs.map tkD) l u)) = Q (.tuple ((cutG rs l u).map tkD))
  rw [cutD_eq, cutG_map]
theorem atI_map {α β : Type} (f : α → β) (xs : List α) (i : Int) : atI (xs.map f) i = (atI xs i).map f := by
  unfold atI
  rw [List.length_map]
  cases ixN xs.length i with
  | none => rfl
  | some j => exact List.getElem?_map
theorem exAt {α β : Type} {f : α → β} {xs : List α} {i : Int} {Q : β → Prop} : (∃ z, atI (xs.map f) i = some z ∧ Q z) = ∃ t, atI xs i = some t ∧ Q (f t) := propext (by
  rw [atI_map]
  cases atI xs i with
  | none => simp
  | some t => simp)
theorem optD_inj1 {a b : Option Int} (h : optD a = optD b) : a = b := by
  cases a <;> cases b <;> cases h <;> rfl
theorem exOpt {o : Option Int} {P : Option Int → Prop} : (∃ o' : Option Int, optD o = optD o' ∧ P o') = P o := propext ⟨fun ⟨o', e, h⟩ => by
  rw [optD_inj1 e]
  exact h, fun h => ⟨o, rfl, h⟩⟩
theorem q_isno {o : Option Int} : isNone (optD o) = o.isNone := by cases o <;> rfl
def dropX : Option SV → Option SV
  | some (.own _) => none
  | some (.obj _ _ _) => none
  | some (.tab _ _) => none
  | some (.raw _) => none
  | x => x
theorem q_dropc {x : Option SV} {env : Denv} : dropO (x :: env) = dropX x :: dropO env := rfl
theorem q_dropxd {d : PyData} : dropX (some (.dat d)) = some (.dat d) := rfl
theorem q_dropxb : dropX (some .bag) = some .bag := rfl
theorem q_dropxo {ds : List PyData} : dropX (some (.own ds)) = none := rfl
theorem q_dropxn : dropX none = none := rfl
theorem q_dropxr {u : V} : dropX (some (.raw u)) = none := rfl
theorem q_dropxt {P : Addr} {q : Str} : dropX (some (.tab P q)) = none := rfl
theorem q_dropxj {C p : Addr} {fs : List (Str × PyData)} : dropX (some (.obj C p fs)) = none := rfl
def parQ (ds : List PyData) (P : PyData → PyData → Prop) : Prop := ∃ x y, ds = [x, y] ∧ P x y
def parQ3 (ds : List PyData) (P : PyData → PyData → PyData → Prop) : Prop := ∃ x y z, ds = [x, y, z] ∧ P x y z
theorem q_par {i j : Nat} {dn : DN} {D : DEnds} {env : Denv} : dPar i j dn D env = dn env fun ds => parQ ds fun x y => D.nx ((env.set i (some (.dat x))).set j (some (.dat y))) := rfl
theorem q_par3 {i j l : Nat} {dn : DN} {D : DEnds} {env : Denv} : dPar3 i j l dn D env = dn env fun ds => parQ3 ds fun x y z => D.nx (((env.set i (some (.dat x))).set j (some (.dat y))).set l (some (.dat z))) := rfl
theorem q_parQ {x y : PyData} {P : PyData → PyData → Prop} : parQ [x, y] P = P x y := propext ⟨fun ⟨_, _, e, h⟩ => by
  cases e
  exact h, fun h => ⟨x, y, rfl, h⟩⟩
theorem q_parQ3 {x y z : PyData} {P : PyData → PyData → PyData → Prop} : parQ3 [x, y, z] P = P x y z := propext ⟨fun ⟨_, _, _, e, h⟩ => by
  cases e
  exact h, fun h => ⟨x, y, z, rfl, h⟩⟩
theorem q_addr1 {rs : List (Int × Int)} {t : Int × Int} {Q : PyData → Prop} : addD (rowD rs) (.tuple [tkD t]) Q = (rs.length + 1 ≤ 1000000 ∧ Q (rowD (rs ++ [t]))) := by
  show ((rs.map tkD).length + 1 ≤ 1000000 ∧ Q (.tuple (rs.map tkD ++ [tkD t]))) = _
  rw [List.length_map, rowD, List.map_append]
  rfl
theorem q_addrr {rs rs' : List (Int × Int)} {Q : PyData → Prop} : addD (rowD rs) (rowD rs') Q = (rs.length + rs'.length ≤ 1000000 ∧ Q (rowD (rs ++ rs'))) := by
  show ((rs.map tkD).length + (rs'.map tkD).length ≤ 1000000 ∧ Q (.tuple (rs.map tkD ++ rs'.map tkD))) = _
  rw [List.length_map, List.length_map, rowD, List.map_append]
theorem tkD_mk {e c : Int} : PyData.tuple [.int e, .int c] = tkD (e, c) := rfl
theorem q_ixk0 {t : Int × Int} {Q : PyData → Prop} : ixD (tkD t) (.int 0) Q = Q (.int t.1) := propext ⟨fun ⟨z, e, h⟩ => by
  cases e
  exact h, fun h => ⟨_, rfl, h⟩⟩
theorem q_ixk1 {t : Int × Int} {Q : PyData → Prop} : ixD (tkD t) (.int 1) Q = Q (.int t.2) := propext ⟨fun ⟨z, e, h⟩ => by
  cases e
  exact h, fun h => ⟨_, rfl, h⟩⟩
theorem small_of {i : Int} (h1 : -1000000000000000000000000000000000000000000000000000000000000 ≤ i) (h2 : i ≤ 1000000000000000000000000000000000000000000000000000000000000) : i.natAbs < 2 ^ 1000 := by
  have : (1000000000000000000000000000000000000000000000000000000000000 : Nat) < 2 ^ 1000 := by decide
  omega
def rngQ2 (ds : List PyData) (Q : List PyData → Prop) : Prop := ∃ i j : Int, ds = [.int i, .int j] ∧ (-(2 ^ 62) ≤ i ∧ i < 2 ^ 62 ∧ -(2 ^ 62) ≤ j ∧ j < 2 ^ 62) ∧ Q (rngD i (j - i).toNat)
theorem q_rng2 {i j : Int} {Q : List PyData → Prop} : rngQ2 [.int i, .int j] Q = ((-(2 ^ 62) ≤ i ∧ i < 2 ^ 62 ∧ -(2 ^ 62) ≤ j ∧ j < 2 ^ 62) ∧ Q (rngD i (j - i).toNat)) := propext ⟨fun ⟨_, _, e, h⟩ => by
  cases e
  exact h, fun h => ⟨i, j, rfl, h⟩⟩
theorem q_itR2 {dn : DN} {env : Denv} {Q : List PyData → Prop} : itR2 dn env Q = dn env fun ds => rngQ2 ds Q := rfl
theorem eqv_tks (ns ms : List (Int × Int)) : PyData.eqv (.list (ns.map tkD)) (.list (ms.map tkD)) = decide (ns = ms) := by
  rw [PyData.eqv, eqvAll_tks]
theorem q_addr2 {rs : List (Int × Int)} {t u : Int × Int} {Q : PyData → Prop} : addD (rowD rs) (.tuple [tkD t, tkD u]) Q = (rs.length + 2 ≤ 1000000 ∧ Q (rowD (rs ++ [t, u]))) := by
  show ((rs.map tkD).length + 2 ≤ 1000000 ∧ Q (.tuple (rs.map tkD ++ [tkD t, tkD u]))) = _
  rw [List.length_map, rowD, List.map_append]
  rfl
theorem rowD_fold {rs : List (Int × Int)} : PyData.tuple (rs.map tkD) = rowD rs := rfl
theorem at_last {α : Type} (l : List α) (x : α) : atI (l ++ [x]) (-1) = some x := by
  unfold atI
  have : ixN (l ++ [x]).length (-1) = some l.length := by
    unfold ixN
    rw [List.length_append, List.length_singleton]
    have h1 : ¬ (0 : Int) ≤ -1 := by decide
    simp
    omega
  rw [this]
  show (l ++ [x])[l.length]? = some x
  simp
theorem q_lstrg {da : DE} {env : Denv} {Q : List PyData → Prop} : nListRg da env Q = da env fun d => ∃ n : Int, d = .int n ∧ (0 ≤ n ∧ n ≤ 100000) ∧ Q (rngD 0 n.toNat) := rfl
end Pd

set_option maxRecDepth 100000
set_option maxHeartbeats 4000000
/-! ### zip of lists and tuples in any mix -/
namespace Pd
open PySem PySem.Spec PyProof.Rows L2
open Evl (Ex)
def SqK (k : Bool) (K : PySem.W.Frag) (H : Hp) (a : Addr) (xs : List V) : Prop := match k with
  | true => SqT K H a xs
  | false => SqL K H a xs
def ItK (k : Bool) (h : Heap) (it a : Addr) (i : Nat) : Prop := match k with
  | true => h.IsTupleIter it a i
  | false => h.IsListIter it a i
def IsK (k : Bool) (h : Heap) (a : Addr) (its : Array Value) : Prop := match k with
  | true => h.IsTuple a its
  | false => h.IsList a its
def itObj (k : Bool) (a : Addr) : Obj := match k with
  | true => { cls := .type "tuple_iterator", data := .fields #[.ref a, .int 0 0] }
  | false => { cls := .type "list_iterator", data := .fields #[.ref a, .int 0 0] }
theorem drawsK {prog : Program} {w : World} {A : Around} (hh : A.handled = none) (k : Bool) (it t : Addr) (hne : t ≠ it) (items : Array Value) :
    Draws prog w A it [it, t] items.size (fun i v => items[i]? = some v) (fun i h => ItK k h it t i ∧ IsK k h t items) := by
  cases k
  · exact Draws.list hh it t hne items
  · exact Draws.tuple hh it t hne items
theorem beginsK (k : Bool) (l : Addr) (items : Array Value) : Begins (.ref l) (itObj k l) fun h => IsK k h l items := by
  cases k
  · exact begins_list l items
  · exact begins_tuple l items
theorem itK_new {k : Bool} {h : Heap} {it a : Addr} (e : h.get? it = some (itObj k a)) : ItK k h it a 0 := by
  cases k
  · exact ⟨_, e, rfl, rfl⟩
  · exact ⟨_, e, rfl, rfl⟩
theorem itK_at {k : Bool} {h h' : Heap} {it a : Addr} {i : Nat} (x : ItK k h it a i) (e : ∀ o, h.get? it = some o → h'.get? it = some o) : ItK k h' it a i := by
  cases k
  · exact Heap.IsListIter.at x e
  · exact Heap.IsTupleIter.at x e
theorem itK_obj {k : Bool} {h : Heap} {it a : Addr} {i : Nat} (x : ItK k h it a i) : ∃ o, h.get? it = some o ∧ ∀ v, o.data ≠ .cell v := by
  cases k
  · obtain ⟨o, e, _, d⟩ := x
    exact ⟨o, e, fun v q => by rw [d] at q; cases q⟩
  · obtain ⟨o, e, _, d⟩ := x
    exact ⟨o, e, fun v q => by rw [d] at q; cases q⟩
theorem sqK_is {X : Cx} {pins : List (Addr × Obj)} {σ : L2.St} {H : Hp} {s : Shared} (I : Inv X pins σ H s) {k : Bool} {a : Addr} {xs : List V} (h : SqK k X.K H a xs) : ∃ its : List Value, Vals xs its ∧ IsK k s.heap a its.toArray ∧ a < s.heap.objs.size := by
  cases k
  · obtain ⟨its, rv, p, _⟩ := I.list h
    exact ⟨its, rv, p.isList, p.lt⟩
  · obtain ⟨its, rv, p, _⟩ := I.tuple h
    exact ⟨its, rv, p, p.lt⟩
theorem sqK_inj {X : Cx} {pins : List (Addr × Obj)} {σ : L2.St} {H : Hp} {s : Shared} (I : Inv X pins σ H s) {k : Bool} {a : Addr} {xs ys : List V} (h : SqK k X.K H a xs) (h2 : SqK k X.K H a ys) : xs = ys := by
  cases k
  · exact I.list_inj h h2
  · exact I.tuple_inj h h2
def ItzK (K : PySem.W.Frag) (ka kb : Bool) (a b : Addr) : It :=
  ⟨fun i H => ∃ (xs ys : List V) (x y : V), SqK ka K H a xs ∧ SqK kb K H b ys ∧ xs[i]? = some x ∧ ys[i]? = some y,
    fun i H v H' => ∃ T x y, v = V.ref T ∧ H T = none ∧ H' = upd H T (.tup [x, y]) ∧ (∀ xs, SqK ka K H a xs → xs[i]? = some x) ∧ ∀ ys, SqK kb K H b ys → ys[i]? = some y,
    fun i H => ∃ xs ys : List V, SqK ka K H a xs ∧ SqK kb K H b ys ∧ i = min xs.length ys.length⟩
theorem turn_zipK {P : Program} {w : World} {K : PySem.W.Frag} {elts : List Expr} {kk : Nat} {tpos : Pos} {ka kb : Bool} {a b z TI TO i1 i2 : Addr} (S : ZipSep2 z TI TO i1 i2 [i1, a] [i2, b]) (hai : a ≠ i1) (hbi : b ≠ i2) :
    Turn P w K (.Tuple elts kk tpos) (ItzK K ka kb a b) [z, TI, TO, i1, i2] z (fun i h => IsZip h z TI TO .none ∧ IsTupOf2 h TI (.ref i1) (.ref i2) ∧ (∃ x y, IsTupOf2 h TO x y) ∧ ItK ka h i1 a i ∧ ItK kb h i2 b i) where
  mem := by simp
  obj := fun i h st c hc => by
    obtain ⟨hz, hTI, ⟨x, y, hTO⟩, h1, h2⟩ := st
    rcases (show c = z ∨ c = TI ∨ c = TO ∨ c = i1 ∨ c = i2 by simpa using hc) with rfl | rfl | rfl | rfl | rfl
    · exact ⟨_, hz, fun v q => nomatch q⟩
    · exact ⟨_, hTI, fun v q => nomatch q⟩
    · exact ⟨_, hTO, fun v q => nomatch q⟩
    · exact itK_obj h1
    · exact itK_obj h2
  keep := fun i h h' st k => by
    obtain ⟨hz, hTI, ⟨x, y, hTO⟩, h1, h2⟩ := st
    refine ⟨k z (by simp) _ hz, k TI (by simp) _ hTI, ⟨x, y, k TO (by simp) _ hTO⟩, itK_at h1 fun o q => k i1 (by simp) o q, itK_at h2 fun o q => k i2 (by simp) o q⟩
  item := by
    intro X hP hw hK hc i pins s σ H E I hf st hg
    subst hP hw hK
    obtain ⟨hz, hTI, ⟨x0, y0, hTO⟩, h1, h2⟩ := st
    obtain ⟨xs, ys, x, y, hqx, hqy, hx, hy⟩ := hg
    obtain ⟨its, rv, p, _⟩ := sqK_is I hqx
    obtain ⟨its2, rv2, p2, _⟩ := sqK_is I hqy
    obtain ⟨u, hu, ru⟩ := rv.get hx
    obtain ⟨u2, hu2, ru2⟩ := rv2.get hy
    have hzl : z < s.heap.objs.size := Heap.lt_size hz
    have lt1 : i < its.toArray.size := by
      have := (List.getElem?_eq_some_iff.mp hu).1
      simpa using this
    have lt2 : i < its2.toArray.size := by
      have := (List.getElem?_eq_some_iff.mp hu2).1
      simpa using this
    refine wpAny_pyNext_zipD2_item S (drawsK (A := X.A.in1) (I.ok.hd hc) ka i1 a hai its.toArray) (drawsK (A := X.A.in1) (I.ok.hd hc) kb i2 b hbi its2.toArray) hz hTI hTO ⟨h1, p⟩ ⟨h2, p2⟩ lt1 lt2 fun y1 y2 h' tk e1 e2 z' TO' st1 st2 hT hsz hk => ?_
    have ey1 : u = y1 := by
      have q : its.toArray[i]? = some u := by simpa using hu
      rw [q] at e1
      exact Option.some.inj e1
    have ey2 : u2 = y2 := by
      have q : its2.toArray[i]? = some u2 := by simpa using hu2
      rw [q] at e2
      exact Option.some.inj e2
    subst ey1 ey2
    refine ⟨_, rfl, wpAny_letOwnedTupleGo_zip (s := { s with heap := h', toks := tk }) z' fun h'' z'' sb => ?_⟩
    have hT2 : h''.get? s.heap.objs.size = some { cls := .type "tuple", data := .seq #[u, u2] } := (sb.2 _ (Nat.ne_of_gt hzl)).trans hT
    have ok : ObjOk X.prog X.w (upd H s.heap.objs.size (.tup [x, y])) h'' s.heap.objs.size (.tup [x, y]) := ⟨show 2 ≤ sizeLine by decide, [u, u2], .cons ru (.cons ru2 .nil), ⟨_, hT2, rfl, _, rfl⟩⟩
    have kept : ∀ c o, c ∉ [z, TI, TO, i1, i2] → s.heap.get? c = some o → h''.get? c = some o := fun c o hcn q => by
      have n0 : c ≠ z := fun w => hcn (by simp [w])
      have n1 : c ≠ TO := fun w => hcn (by simp [w])
      have n2 : c ≠ i1 := fun w => hcn (by simp [w])
      have n3 : c ≠ i2 := fun w => hcn (by simp [w])
      exact (sb.2 c n0).trans (hk c o n0 n1 n2 n3 q)
    have I1 : Inv X pins σ (upd H s.heap.objs.size (.tup [x, y])) { s with heap := h'', toks := tk } := I.turnedNew (ch := [z, TI, TO, i1, i2]) kept hf (Nat.le_refl _) ok
    refine ⟨.ref s.heap.objs.size, _, I1, rfl, ⟨_, x, y, rfl, I.hok.fresh (Nat.le_refl _), rfl, fun l hl => by rw [sqK_inj I hl hqx]; exact hx, fun l hl => by rw [sqK_inj I hl hqy]; exact hy⟩, ⟨z'', ?_, ⟨u, u2, ?_⟩, ?_, ?_⟩, fun c hcm => ?_⟩
    · exact (sb.2 _ S.TIz).trans (hk _ _ S.TIz S.TITO S.TIi1 S.TIi2 hTI)
    · exact (sb.2 _ S.TOz).trans TO'
    · exact itK_at st1.1 fun o q => (sb.2 _ S.zi1.symm).trans q
    · exact itK_at st2.1 fun o q => (sb.2 _ S.zi2.symm).trans q
    · have hlt : c < s.heap.objs.size := by
        rcases (show c = z ∨ c = TI ∨ c = TO ∨ c = i1 ∨ c = i2 by simpa using hcm) with rfl | rfl | rfl | rfl | rfl
        · exact hzl
        · exact Heap.lt_size hTI
        · exact Heap.lt_size hTO
        · obtain ⟨o, e, _⟩ := itK_obj h1
          exact Heap.lt_size e
        · obtain ⟨o, e, _⟩ := itK_obj h2
          exact Heap.lt_size e
      rw [upd_ne (Nat.ne_of_lt hlt)]
      exact (hf c hcm).1
  done := by
    intro X hP hw hK hc i pins s σ H E I hf st hg
    subst hP hw hK
    obtain ⟨hz, hTI, ⟨x0, y0, hTO⟩, h1, h2⟩ := st
    obtain ⟨xs, ys, hqx, hqy, hend⟩ := hg
    obtain ⟨its, rv, p, _⟩ := sqK_is I hqx
    obtain ⟨its2, rv2, p2, _⟩ := sqK_is I hqy
    have l1 : its.toArray.size = xs.length := by
      rw [rv.length]
      simp
    have l2 : its2.toArray.size = ys.length := by
      rw [rv2.length]
      simp
    refine wpAny_pyNext_zipD2_end S (drawsK (A := X.A.in1) (I.ok.hd hc) ka i1 a hai its.toArray) (drawsK (A := X.A.in1) (I.ok.hd hc) kb i2 b hbi its2.toArray) hz hTI hTO ⟨h1, p⟩ ⟨h2, p2⟩ (by omega) (by omega) (by omega) fun h' tk hk => ⟨rfl, I.turnedL (t' := tk) (ch := [z, TI, TO, i1, i2]) (fun c o hcn q => ?_) hf⟩
    have n0 : c ≠ z := fun w => hcn (by simp [w])
    have n1 : c ≠ TO := fun w => hcn (by simp [w])
    have n2 : c ≠ i1 := fun w => hcn (by simp [w])
    have n3 : c ≠ i2 := fun w => hcn (by simp [w])
    exact hk c o n0 n1 n2 n3 q
  self := fun A i s Q E st h => wpAny_pyIter_zip st.1 h
def iZipK (K : PySem.W.Frag) (ta : TA) : TI := fun σ H R => ta σ H fun vs H1 => ∃ ka kb a b xs ys, vs = [.ref a, .ref b] ∧ SqK ka K H1 a xs ∧ SqK kb K H1 b ys ∧ R (ItzK K ka kb a b) H1
theorem pi_zipK {X : Cx} {e e2 : Expr} {ta : TA} {p pos tpos : Pos} {elts : List Expr} {kk : Nat} (hg : Gl X "zip") (hm : X.mg "zip" = none) (ha : PA X [e, e2] ta)
    (h1 : starEach [e, e2] X.env = (false, eval e X.env) :: starEach [e2] X.env := by rfl) (h2 : (backTo pos (starEach [e2] X.env)).any (·.1) = false := by rfl) :
    PI X (.Tuple elts kk tpos) (.Call (.Name "zip" p) [e, e2] [] pos) (iZipK X.K ta) := ⟨fun pins s σ H R I h => by
  refine Call_ (ld_blt I hg hm PyProof.Rows.boot_zip (PyProof.Rows.callWith_type1 (thn (ha.run pos pins s σ H _ I h) fun us s1 ⟨vs, H1, I1, r1, ka, kb, a, b, xs, ys, ev, hqx, hqy, q⟩ => ?_) h1 h2))
  subst ev
  obtain ⟨u1, u2, rfl, ra, rb⟩ := r1.two
  cases ra
  cases rb
  obtain ⟨its, rv, p1, la⟩ := sqK_is I1 hqx
  obtain ⟨its2, rv2, p2, lb⟩ := sqK_is I1 hqy
  refine zip_begins2 (beginsK ka a its.toArray) (beginsK kb b its2.toArray) p1 p2 fun h' hz hTI hTO g1 g2 hsz hk => wpAny_pyIter_zip hz ?_
  have I2 : Inv X pins σ H1 { s1 with heap := h' } := I1.kept (t' := s1.toks) hk
  refine ⟨s1.heap.objs.size + 4, [s1.heap.objs.size + 4, s1.heap.objs.size + 2, s1.heap.objs.size + 3, s1.heap.objs.size, s1.heap.objs.size + 1], _, _, H1, rfl, I2,
    turn_zipK (zip_sep2 (N := s1.heap.objs.size) (fp1 := [a]) (fp2 := [b]) (fun c hc => ?_) (fun c hc => ?_)) (Nat.ne_of_lt la) (Nat.ne_of_lt (Nat.lt_succ_of_lt lb)), ⟨hz, hTI, ⟨_, _, hTO⟩, itK_new g1, itK_new g2⟩, fun c hc => ?_, q⟩
  · rw [show c = a by simpa using hc]
    exact la
  · rw [show c = b by simpa using hc]
    exact lb
  · have hle : s1.heap.objs.size ≤ c := by
      rcases (show c = s1.heap.objs.size + 4 ∨ c = s1.heap.objs.size + 2 ∨ c = s1.heap.objs.size + 3 ∨ c = s1.heap.objs.size ∨ c = s1.heap.objs.size + 1 by simpa using hc) with z | z | z | z | z <;> rw [z] <;> first | exact Nat.le_refl _ | exact Nat.le_add_right _ _
    exact I1.fpOk hle (I1.hok.fresh hle)⟩
/-- pairs -/
def zipP : List PyData → List PyData → List PyData
  | x :: xs, y :: ys => .tuple [x, y] :: zipP xs ys
  | _, _ => []
theorem zipP_len : ∀ xs ys : List PyData, (zipP xs ys).length = min xs.length ys.length
  | x :: xs, y :: ys => by
    show (zipP xs ys).length + 1 = min (xs.length + 1) (ys.length + 1)
    rw [zipP_len xs ys]
    omega
  | [], ys => by simp [zipP]
  | x :: xs, [] => by simp [zipP]
theorem zipP_get : ∀ {xs ys : List PyData} {i : Nat} {d : PyData}, (zipP xs ys)[i]? = some d → ∃ x y, xs[i]? = some x ∧ ys[i]? = some y ∧ d = .tuple [x, y]
  | x :: xs, y :: ys, 0, d, h => ⟨x, y, rfl, rfl, by simpa [zipP] using h.symm⟩
  | x :: xs, y :: ys, i + 1, d, h => by
    obtain ⟨u, v, h1, h2, h3⟩ := zipP_get (xs := xs) (ys := ys) (i := i) (by simpa [zipP] using h)
    exact ⟨u, v, by simpa using h1, by simpa using h2, h3⟩
  | [], ys, i, d, h => by simp [zipP] at h
  | x :: xs, [], i, d, h => by simp [zipP] at h
def zipQ (ds : List PyData) (Q : List PyData → Prop) : Prop := ∃ x y xs ys, ds = [x, y] ∧ seqD x = some xs ∧ seqD y = some ys ∧ Q (zipP xs ys)
def itZip (dn : DN) : DN := fun env Q => dn env fun ds => zipQ ds Q
theorem dt_seq {K : PySem.W.Frag} {F : Hp} {v : V} {d : PyData} {ds : List PyData} (t : Dt F v d) (h : seqD d = some ds) : ∃ (k : Bool) (a : Addr) (vs : List V), v = .ref a ∧ DtA F vs ds ∧ ∀ H, Ex F H → SqK k K H a vs := by
  cases t with
  | @lst a xs ds' h1 h2 =>
    cases h
    exact ⟨false, a, xs, rfl, h2, fun H e => SqL.of (e _ _ h1)⟩
  | @tup a xs ds' h1 h2 =>
    cases h
    exact ⟨true, a, xs, rfl, h2, fun H e => SqT.of (e _ _ h1)⟩
  | _ => cases h
theorem pid_zip {X : Cx} {a b : Expr} {tA : TA} {dn : DN} {p pos tpos : Pos} {elts : List Expr} {kk : Nat} (hg : Gl X "zip") (hm : X.mg "zip" = none) (h : PAf X [a, b] tA dn)
    (h1 : starEach [a, b] X.env = (false, eval a X.env) :: starEach [b] X.env := by rfl) (h2 : (backTo pos (starEach [b] X.env)).any (·.1) = false := by rfl) :
    PId X (.Tuple elts kk tpos) (.Call (.Name "zip" p) [a, b] [] pos) (iZipK X.K tA) (itZip dn) := ⟨pi_zipK hg hm h.pa h1 h2, fun B F H σ env Q R n q k =>
  h.s B F H σ env _ _ n q fun vs ds F' H' ⟨x, y, xs, ys, ed, hx, hy, q'⟩ e' n' r' => by
    subst ed
    cases r' with
    | cons r1 r2 =>
      cases r2 with
      | cons r2 r3 =>
        cases r3
        obtain ⟨ka, la, va, rfl, da, sa⟩ := dt_seq (K := X.K) r1 hx
        obtain ⟨kb, lb, vb, rfl, db, sb⟩ := dt_seq (K := X.K) r2 hy
        refine ⟨ka, kb, la, lb, va, vb, rfl, sa H' n'.g.fh, sb H' n'.g.fh, k _ _ F' H' q' e' n' fun F2 H2 e2 eh => ⟨⟨va, vb, sa H2 (e2.trans eh), sb H2 (e2.trans eh), ?_⟩, fun i d hi => ?_⟩⟩
        · rw [zipP_len, da.len, db.len]
        · obtain ⟨u, v, hu, hv, rfl⟩ := zipP_get hi
          obtain ⟨wu, gu, tu⟩ := (da.up e2).get hu
          obtain ⟨wv, gv, tv⟩ := (db.up e2).get hv
          refine ⟨⟨va, vb, wu, wv, sa H2 (e2.trans eh), sb H2 (e2.trans eh), gu, gv⟩, fun z H'' ⟨T, y1, y2, ez, hT, eH, q1, q2⟩ => ?_⟩
          have z1 := q1 va (sa H2 (e2.trans eh))
          have z2 := q2 vb (sb H2 (e2.trans eh))
          rw [gu] at z1
          rw [gv] at z2
          cases z1
          cases z2
          subst ez eH
          have g : Gro F2 H2 (upd F2 T (.tup [wu, wv])) (upd H2 T (.tup [wu, wv])) := .new hT
          exact ⟨_, g, .tup upd_same (.cons (tu.up (g.ex eh)) (.cons (tv.up (g.ex eh)) .nil))⟩⟩
theorem q_zip {dn : DN} {env : Denv} {Q : List PyData → Prop} : itZip dn env Q = dn env fun ds => zipQ ds Q := rfl
theorem q_zipQ {x y : PyData} {Q : List PyData → Prop} : zipQ [x, y] Q = ∃ xs, seqD x = some xs ∧ ∃ ys, seqD y = some ys ∧ Q (zipP xs ys) := propext ⟨fun ⟨_, _, xs, ys, e, h1, h2, h⟩ => by
  cases e
  exact ⟨xs, h1, ys, h2, h⟩, fun ⟨xs, h1, ys, h2, h⟩ => ⟨x, y, xs, ys, rfl, h1, h2, h⟩⟩
end Pd

set_option maxRecDepth 100000
set_option maxHeartbeats 4000000
/-! Objects: fields, methods, instances made; expressions that change an object. -/
namespace Pd
open PySem L2
open Evl (Ex)
open PyProof.Rows (envOfC)
abbrev Fls := List (Str × PyData)
def putD (f : Str) (d : PyData) : Fls → Fls
  | [] => [(f, d)]
  | (g, x) :: r => if g = f then (g, d) :: r else (g, x) :: putD f d r
section
variable {F : Hp}
theorem FlOk.put {f : Str} {v : V} {d : PyData} (h : Dt F v d) : ∀ {fv : List (Str × V)} {fs : Fls}, FlOk F fv fs → FlOk F (putF f v fv) (putD f d fs)
  | _, _, .nil => .cons h .nil
  | _, _, .cons (x := x) r t => by
    unfold putF putD
    by_cases e : x = f
    · rw [if_pos e, if_pos e]
      exact .cons h t
    · rw [if_neg e, if_neg e]
      exact .cons r (FlOk.put h t)
theorem FlOk.look {f : Str} {d : PyData} : ∀ {fv : List (Str × V)} {fs : Fls}, FlOk F fv fs → fs.lookup f = some d → ∃ v, fv.lookup f = some v ∧ Dt F v d
  | _, _, .nil, e => by cases e
  | _, _, .cons (x := x) (v := v) (fv := fv) (fs := fs) r t, e => by
    rw [List.lookup_cons] at e ⊢
    cases hx : (f == x) with
    | true =>
      rw [hx] at e
      simp only [] at e ⊢
      cases e
      exact ⟨v, rfl, r⟩
    | false =>
      rw [hx] at e
      exact FlOk.look t e
theorem FlOk.nolook {f : Str} : ∀ {fv : List (Str × V)} {fs : Fls}, FlOk F fv fs → fs.lookup f = none → fv.lookup f = none
  | _, _, .nil, e => rfl
  | _, _, .cons (x := x) (v := v) (fv := fv) (fs := fs) r t, e => by
    rw [List.lookup_cons] at e ⊢
    cases hx : (f == x) with
    | true =>
      rw [hx] at e
      cases e
    | false =>
      rw [hx] at e
      exact FlOk.nolook t e
theorem FlOk.len : ∀ {fv : List (Str × V)} {fs : Fls}, FlOk F fv fs → fv.length = fs.length
  | _, _, .nil => rfl
  | _, _, .cons _ t => by rw [List.length_cons, List.length_cons, FlOk.len t]
end
section
variable {B : Bs} {F H F' H' : Hp} {σ : St} {env : Denv} {C p : Addr} {fs : Fls} {i : Nat}
theorem Den.obj (n : Den B F H σ env) (h : env[i]? = some (some (.obj C p fs))) : σ[i]? = some (some (.ref p)) ∧ (B.op p ∨ B.H p = none) ∧ F p = none ∧ ∃ dx fv, H p = some (.ins C dx fv) ∧ FlOk F fv fs := by
  obtain ⟨v, h1, h2, h3⟩ := n.slot i _ h
  rw [h2] at h1
  exact ⟨h1, h3⟩
/-- the object in slot i has other fields; the rest of the frame's own is as it was -/
theorem Den.objTo (n : Den B F H σ env) (h : env[i]? = some (some (.obj C p fs))) (g : Grow B F' H') (e : Ex F F') (k : ∀ a o, a ≠ p → H a = some o → F a = none → (B.H a = none ∨ B.op a) → H' a = some o ∧ F' a = none)
    {dx : Addr} {fv : List (Str × V)} {fs' : Fls} (hp : H' p = some (.ins C dx fv)) (hF : F' p = none) (hf : FlOk F' fv fs') : Den B F' H' σ (env.set i (some (.obj C p fs'))) := by
  obtain ⟨o1, o2, o3, dx0, fv0, o4, o5⟩ := n.obj h
  have hi : i < env.length := (List.getElem?_eq_some_iff.mp h).1
  refine ⟨g, by rw [List.length_set, n.len], fun j sv hj => ?_, fun j l ds es a q1 q2 q3 q4 => ?_, fun j l C1 C2 q gs hs q1 q2 => ?_⟩
  · rcases get_set hj with ⟨rfl, _, rfl⟩ | ⟨hij, hj0⟩
    · exact ⟨_, o1, rfl, o2, hF, dx, fv, hp, hf⟩
    · obtain ⟨v, p1, p2⟩ := n.slot j sv hj0
      refine ⟨v, p1, ?_⟩
      cases sv with
      | dat d => exact Dt.up p2 e
      | bag => exact p2
      | own ds =>
        obtain ⟨l, ws, r1, r2, r3, r4, r5⟩ := p2
        have : l ≠ p := fun z => by
          subst z
          rw [o4] at r4
          cases r4
        exact ⟨l, ws, r1, r2, (k l _ this r4 r3 (.inl r2)).2, (k l _ this r4 r3 (.inl r2)).1, r5.up e⟩
      | tab P q => exact p2
      | raw u => exact p2
      | obj C' q gs =>
        obtain ⟨r1, r2, r3, dy, gv, r4, r5⟩ := p2
        have : q ≠ p := fun z => by
          subst z
          exact hij (n.sepO i j _ _ _ _ _ h hj0)
        exact ⟨r1, r2, (k q _ this r4 r3 r2.symm).2, dy, gv, (k q _ this r4 r3 r2.symm).1, r5.up e⟩
  · rcases get_set q1 with ⟨_, _, z⟩ | ⟨_, q1⟩
    · cases z
    · rcases get_set q2 with ⟨_, _, z⟩ | ⟨_, q2⟩
      · cases z
      · exact n.sep j l ds es a q1 q2 q3 q4
  · have back : ∀ (j : Nat) C1 gs, (env.set i (some (SV.obj C p fs')))[j]? = some (some (.obj C1 q gs)) → ∃ C2 gs', env[j]? = some (some (.obj C2 q gs')) := fun j C1 gs hq => by
      rcases get_set hq with ⟨rfl, _, z⟩ | ⟨_, hq⟩
      · cases z
        exact ⟨_, _, h⟩
      · exact ⟨_, _, hq⟩
    obtain ⟨_, _, q1⟩ := back j _ _ q1
    obtain ⟨_, _, q2⟩ := back l _ _ q2
    exact n.sepO j l _ _ _ _ _ q1 q2
theorem Den.putO (n : Den B F H σ env) (h : env[i]? = some (some (.obj C p fs))) {dx : Addr} {fv fv' : List (Str × V)} {fs' : Fls} (hH : H p = some (.ins C dx fv)) (hf : FlOk F fv' fs') : Den B F (upd H p (.ins C dx fv')) σ (env.set i (some (.obj C p fs'))) := by
  obtain ⟨o1, o2, o3, _⟩ := n.obj h
  exact n.objTo h (n.g.mutO o2 o3 hH) (Ex.refl _) (fun a o ha h1 h2 _ => ⟨by rw [upd_ne ha]; exact h1, h2⟩) upd_same o3 hf
/-- a new object -/
structure FreshO (B : Bs) (F H : Hp) (env : Denv) (C p : Addr) (fs : Fls) : Prop where
  b : B.H p = none
  f : F p = none
  h : ∃ dx fv, H p = some (.ins C dx fv) ∧ FlOk F fv fs
  ne : ∀ (j : Nat) C' gs, env[j]? ≠ some (some (.obj C' p gs))
theorem Den.setO (n : Den B F H σ env) (h : FreshO B F H env C p fs) : Den B F H (σ.set i (some (.ref p))) (env.set i (some (.obj C p fs))) := by
  refine ⟨n.g, by rw [List.length_set, List.length_set, n.len], fun j sv hj => ?_, fun j k ds es l h1 h2 h3 h4 => ?_, fun j k C1 C2 q gs hs h1 h2 => ?_⟩
  · rcases get_set hj with ⟨rfl, hl, rfl⟩ | ⟨hij, hj⟩
    · exact ⟨.ref p, by rw [List.getElem?_set_self (by rw [← n.len]; exact hl)], rfl, .inr h.b, h.f, h.h⟩
    · obtain ⟨u, h1, h2⟩ := n.slot j sv hj
      exact ⟨u, by rw [List.getElem?_set_ne hij]; exact h1, h2⟩
  · rcases get_set h1 with ⟨_, _, z⟩ | ⟨hij, h1⟩
    · cases z
    · rcases get_set h2 with ⟨_, _, z⟩ | ⟨hik, h2⟩
      · cases z
      · rw [List.getElem?_set_ne hij] at h3
        rw [List.getElem?_set_ne hik] at h4
        exact n.sep j k ds es l h1 h2 h3 h4
  · rcases get_set h1 with ⟨e1, _, z1⟩ | ⟨hij, h1⟩ <;> rcases get_set h2 with ⟨e2, _, z2⟩ | ⟨hik, h2⟩
    · exact e1.symm.trans e2
    · cases z1
      exact absurd h2 (h.ne k _ _)
    · cases z2
      exact absurd h1 (h.ne j _ _)
    · exact n.sepO j k _ _ _ _ _ h1 h2
end
/-! ### fields -/
section
variable {X : Cx} {a b c e o : Expr} {es : List Expr} {ta tb te tc : TE} {da db dc dd : DE} {dn : DN} {pos apos pos' tpos : Pos} {x : Str} {C : Addr} {i : Nat} {f : Str}
def dFld (C : Addr) (i : Nat) (f : Str) : DE := fun env Q => ∃ p fs d, env[i]? = some (some (.obj C p fs)) ∧ fs.lookup f = some d ∧ Q d
theorem ped_fld (cl : Cls X.K C) (na : NoAttr X.K C f) (h : PE X e (tVar i)) (hb : attributeBase e f X.env (eval e X.env) = eval e X.env := by rfl) : PEd X (.Attribute e f pos) (tFld X.K (tVar i) f) (dFld C i f) := ⟨pe_fld h hb, fun B F H σ env Q Qv n q k => by
  obtain ⟨p, fs, d, h1, h2, q⟩ := q
  obtain ⟨o1, o2, o3, dx, fv, o4, o5⟩ := n.obj h1
  obtain ⟨v, l1, l2⟩ := o5.look h2
  exact ⟨_, o1, p, C, dx, fv, v, rfl, o4, cl, na, l1, k v d F H q (Ex.refl _) n l2⟩⟩
def dSetF (C : Addr) (i : Nat) (f : Str) (t : DE) : DS := fun D env => t env fun d => ∃ p fs, env[i]? = some (some (.obj C p fs)) ∧ fs.length < 1000 ∧ D.nx (env.set i (some (.obj C p (putD f d fs))))
theorem qs_fld (cl : Cls X.K C) (na : NoAttr X.K C f) (ho : PE X o (tVar i)) (h : PEd X e te dd) (hs : swapsWith e (some (.Attribute o f pos')) pos.line X.env = pure false := by rfl) : PSd X (.Assign [.Attribute o f pos'] e pos) (sFld X.K (tVar i) te f) (dSetF C i f dd) := ⟨ps_fld ho h.pe hs, fun B F H σ env D Dd n k q =>
  h.s B F H σ env _ _ n q fun v d F' H' ⟨p, fs, h1, hl, q'⟩ e' n' t' => by
    obtain ⟨o1, o2, o3, dx, fv, o4, o5⟩ := n'.obj h1
    exact ⟨_, o1, p, C, dx, fv, rfl, o4, cl, na, by rw [o5.len]; exact hl, k.nx F' _ σ _ e' (n'.putO h1 o4 (o5.put t')) q'⟩⟩
def dAddF (C : Addr) (i : Nat) (f : Str) (t : DE) : DS := fun D env => ∃ p fs, env[i]? = some (some (.obj C p fs)) ∧ fs.length < 1000 ∧ ∃ x : Int, fs.lookup f = some (.int x) ∧ t env fun d => ∃ y : Int, d = .int y ∧ D.nx (env.set i (some (.obj C p (putD f (.int (x + y)) fs))))
theorem qs_addF (cl : Cls X.K C) (na : NoAttr X.K C f) (ho : PE X o (tVar i)) (h : PEd X e te dd) : PSd X (.AugAssign (.Attribute o f tpos) .Add e pos) (sFldAug X.K (tVar i) te rAdd f) (dAddF C i f dd) := ⟨ps_fldaug ho h.pe in_add, fun B F H σ env D Dd n k q => by
  obtain ⟨p, fs, h1, hl, x, h2, q⟩ := q
  obtain ⟨o1, o2, o3, dx, fv, o4, o5⟩ := n.obj h1
  obtain ⟨v, l1, l2⟩ := o5.look h2
  cases l2
  refine ⟨_, o1, p, C, dx, fv, _, rfl, o4, cl, na, l1, h.s B F H σ env _ _ n q fun w d F' H' ⟨y, ed, q'⟩ e' n' t' => ?_⟩
  subst ed
  cases t'
  obtain ⟨_, _, _, dx', fv', p4, p5⟩ := n'.obj h1
  exact ⟨x, y, rfl, rfl, dx', fv', p4, by rw [p5.len]; exact hl, k.nx F' _ σ _ e' (n'.putO h1 p4 (p5.put (.int _))) q'⟩⟩
/-! ### a def's return that tells its object -/
def dRetX (t : DE) : DS := fun D env => t env fun d => D.rx (.dat d) env
theorem qs_retX (h : PEd X e te dd) : PSd X (.Return (some e) pos) (tRet te) (dRetX dd) := ⟨ps_ret h.pe, fun B F H σ env D Dd n k q =>
  h.s B F H σ env _ _ n q fun v d F' H' q' e' n' t' => k.rx F' H' σ env v (.dat d) e' n' t' q'⟩
end
/-! ### methods -/
abbrev MSp := Fls → List SV → (RVd → Fls → Prop) → Prop
def liftM (C : Addr) (dsp : MSp) : Sp := fun vs H Q _ => ∃ (F : Hp) (fp : Addr → Prop) (p dx : Addr) (fv : List (Str × V)) (fs : Fls) (us : List V) (svs : List SV) (R : RVd → Fls → Prop),
  vs = .ref p :: us ∧ Ex F H ∧ Paired (ArgOk fp F) us svs ∧ (∀ b, fp b → F b = none ∧ BagAt F H b) ∧ H p = some (.ins C dx fv) ∧ F p = none ∧ FlOk F fv fs ∧ dsp fs svs R ∧
  ∀ v r fs' dx' fv' F' H', R r fs' → Grow ⟨H, F, fp, fun q => q = p, noT, yesI⟩ F' H' → H' p = some (.ins C dx' fv') → F' p = none → FlOk F' fv' fs' → ROk ⟨H, F, fp, fun q => q = p, noT, yesI⟩ F' H' v r → Q v H'
theorem startM_den {F H : Hp} {fp : Addr → Prop} {C p dx : Addr} {fv : List (Str × V)} {fs : Fls} {vs : List V} {svs : List SV} {N : List Str} (e : Ex F H) (hb : ∀ b, fp b → F b = none ∧ BagAt F H b) (hp : H p = some (.ins C dx fv)) (hF : F p = none) (hf : FlOk F fv fs) (r : Paired (ArgOk fp F) vs svs) :
    Den ⟨H, F, fp, fun q => q = p, noT, yesI⟩ F H (L2.start N (.ref p :: vs)) (startd N.length (.obj C p fs :: svs)) := by
  have hl := pairedLen r
  have key : ∀ (i : Nat) sv, (startd N.length (.obj C p fs :: svs))[i]? = some (some sv) → (i = 0 ∧ sv = .obj C p fs) ∨ ∃ v, (L2.start N (.ref p :: vs))[i]? = some (some v) ∧ ArgOk fp F v sv := fun i sv h => by
    unfold startd at h
    unfold L2.start
    cases i with
    | zero =>
      cases h
      exact .inl ⟨rfl, rfl⟩
    | succ i =>
      right
      rw [List.map_cons, List.cons_append, List.getElem?_cons_succ] at h ⊢
      by_cases hi : i < svs.length
      · rw [List.getElem?_append_left (by simpa using hi), List.getElem?_map] at h
        rw [List.getElem?_append_left (by simpa [hl] using hi), List.getElem?_map]
        cases e1 : svs[i]? with
        | none =>
          rw [e1] at h
          cases h
        | some s =>
          rw [e1] at h
          cases h
          obtain ⟨v, h1, h2⟩ := pairedGet r e1
          exact ⟨v, by rw [h1]; rfl, h2⟩
      · rw [List.getElem?_append_right (by simpa using hi), List.getElem?_replicate] at h
        split at h <;> cases h
  have no : ∀ {v : V} {ds : List PyData}, ¬ ArgOk fp F v (.own ds) := fun h => h
  have noO : ∀ {v : V} {C' q : Addr} {gs : Fls}, ¬ ArgOk fp F v (.obj C' q gs) := fun h => h
  refine ⟨Grow.startO e hb fun q hq => by
    subst hq
    exact ⟨hF, C, dx, fv, hp⟩, ?_, fun i sv h => ?_, fun i j ds es l h _ _ _ => ?_, fun i j C1 C2 q gs hs h1 h2 => ?_⟩
  · unfold startd L2.start
    rw [List.length_append, List.length_map, List.length_replicate, List.length_append, List.length_map, List.length_replicate, List.length_cons, List.length_cons, hl]
  · rcases key i sv h with ⟨rfl, rfl⟩ | ⟨v, h1, h2⟩
    · exact ⟨.ref p, rfl, rfl, .inl rfl, hF, dx, fv, hp, hf⟩
    · refine ⟨v, h1, ?_⟩
      cases sv with
      | dat d => exact h2
      | bag => exact h2
      | own ds => exact (no h2).elim
      | obj C' q gs => exact (noO h2).elim
      | tab P q => exact h2.elim
      | raw u => exact h2
  · rcases key i _ h with ⟨_, z⟩ | ⟨v, _, h2⟩
    · cases z
    · exact (no h2).elim
  · rcases key i _ h1 with ⟨rfl, _⟩ | ⟨v, _, z⟩
    · rcases key j _ h2 with ⟨rfl, _⟩ | ⟨v, _, z⟩
      · rfl
      · exact (noO z).elim
    · exact (noO z).elim
section
variable {P : Program} {w : World} {K : PySem.W.Frag} {mg : Str → Option Value} {base : Heap}
/-- how a method ends: its object told -/
def endM (C p : Addr) (R : RVd → Fls → Prop) : DEnds := { nx := fun env => ∃ fs', env[0]? = some (some (.obj C p fs')) ∧ R (.dat .none) fs', rt := fun _ => False, rx := fun r env => ∃ fs', env[0]? = some (some (.obj C p fs')) ∧ R r fs' }
theorem fun_m {x qual : Str} {st : Stmt} {f C : Addr} {fd : FuncData} {N ps : List Str} {k : Nat} {dsp : MSp} {t : DS} (F : Fun K x qual st f fd) (S : FnScope N ps (defScope st)) (len : ∀ fs svs R, dsp fs svs R → svs.length + 1 = ps.length)
    (hb : ∀ (cdv : Value) (A : Around) (outer : List Env) (s : Shared) (H : Hp) (E : XK), Room k (A.deeper (envOfC qual (defScope st) s.heap.objs.size f cdv)) → ∃ ts, PSsd (cxOf CX0 P w K mg base N qual (defScope st) f cdv A outer s H E).nox (defBody st) ts t)
    (rd : ∀ p fs svs R, dsp fs svs R → t (endM C p R) (startd N.length (.obj C p fs :: svs))) : FnOk P w K mg base CX0 (k + 1) f fd ps (liftM C dsp) := by
  refine F.ok S (fun vs H Q E h => ?_) (fun cdv A outer s H vs Q E hr h => ?_)
  · obtain ⟨F', fp, p, dx, fv, fs, us, svs, R, rfl, _, r, _, _, _, _, q, _⟩ := h
    rw [List.length_cons, pairedLen r]
    exact len fs svs R q
  · obtain ⟨F', fp, p, dx, fv, fs, us, svs, R, rfl, e, r, hb', hp, hF, hf, q, kk⟩ := h
    obtain ⟨ts, ht⟩ := hb cdv A outer s H E hr
    have fin : ∀ {F2 H2 : Hp} {σ2 : St} {env2 : Denv} {v : V} {r : RVd}, Den ⟨H, F', fp, fun q => q = p, noT, yesI⟩ F2 H2 σ2 env2 → ROk ⟨H, F', fp, fun q => q = p, noT, yesI⟩ F2 H2 v r → (∃ fs', env2[0]? = some (some (.obj C p fs')) ∧ R r fs') → Q v H2 := by
      rintro F2 H2 σ2 env2 v r n2 r2 ⟨fs', h1, h2⟩
      obtain ⟨_, _, o3, dx', fv', o4, o5⟩ := n2.obj h1
      exact kk v r fs' dx' fv' F2 H2 h2 n2.g o4 o3 o5 r2
    exact ⟨ts, ht.ps, ht.s ⟨H, F', fp, fun q => q = p, noT, yesI⟩ F' H _ _ _ (endM C p R) (startM_den e hb' hp hF hf r) ⟨fun F2 H2 σ2 env2 e2 n2 q2 => fin (r := .dat .none) n2 Dt.non q2, fun F2 H2 v r e2 g2 r2 q2 => False.elim q2, fun _ _ _ _ _ _ z => z.elim, fun _ _ _ _ _ _ z => z.elim, fun F2 H2 σ2 env2 v r e2 n2 r2 q2 => fin n2 r2 q2⟩ (rd p fs svs R q)⟩
end
/-! ### expressions that change an object -/
abbrev DX := Denv → (PyData → Denv → Prop) → Prop
abbrev DTX := Denv → (Bool → Denv → Prop) → Prop
def Sx (te : TE) (t : DX) : Prop := ∀ B F H σ env Q Qv, Den B F H σ env → t env Q → (∀ v d F' H' env', Q d env' → Ex F F' → Den B F' H' σ env' → Dt F' v d → Qv v H') → te σ H Qv
def Stx (tt : TT) (t : DTX) : Prop := ∀ B F H σ env Q Qv, Den B F H σ env → t env Q → (∀ b F' H' env', Q b env' → Ex F F' → Den B F' H' σ env' → Qv b H') → tt σ H Qv
structure PEx (X : Cx) (e : Expr) (te : TE) (t : DX) : Prop where
  pe : PE X e te
  s : Sx te t
structure PTx (X : Cx) (e : Expr) (tt : TT) (t : DTX) : Prop where
  pt : PT X e tt
  s : Stx tt t
structure PWx (X : Cx) (e : Expr) (tt : TT) (t : DTX) : Prop where
  pw : PW X e tt
  s : Stx tt t
def xD (t : DE) : DX := fun env Q => t env fun d => Q d env
def xT (t : DT) : DTX := fun env Q => t env fun b => Q b env
def x2 (o : PyData → PyData → (PyData → Prop) → Prop) (da : DX) (db : DE) : DX := fun env Q => da env fun x env1 => db env1 fun y => o x y fun z => Q z env1
def xTest (t : DX) : DTX := fun env Q => t env fun d env1 => ∃ k, d = .bool k ∧ Q k env1
def xOr (t u : DTX) : DTX := fun env Q => t env fun c env1 => if c = true then Q true env1 else u env1 Q
def xAnd (t u : DTX) : DTX := fun env Q => t env fun c env1 => if c = true then u env1 Q else Q false env1
def xNot (t : DTX) : DTX := fun env Q => t env fun c env1 => Q (!c) env1
section
variable {X : Cx} {a b c e o : Expr} {es : List Expr} {ta tb te tc : TE} {tA tB' : TT} {da db dc dd : DE} {dx dy : DX} {dt : DT} {du dv : DTX} {dn : DN} {pos apos cpos : Pos} {m : Str} {C : Addr} {i : Nat} {f : Addr} {dA : DA} {tA1 : TA}
theorem PEd.x (h : PEd X e te dd) : PEx X e te (xD dd) := ⟨h.pe, fun B F H σ env Q Qv n q k => h.s B F H σ env _ Qv n q fun v d F' H' q' e' n' r => k v d F' H' env q' e' n' r⟩
theorem PTd.x (h : PTd X e tA dt) : PTx X e tA (xT dt) := ⟨h.pt, fun B F H σ env Q Qv n q k => h.s B F H σ env _ Qv n q fun b F' H' q' e' n' => k b F' H' env q' e' n'⟩
theorem sx_op {r : R2} {o : PyData → PyData → (PyData → Prop) → Prop} (hd : OpD r o) (ha : Sx ta dx) (hb : Sr tb db) : Sx (tOp r ta tb) (x2 o dx db) := fun B F H σ env Q Qv n q k =>
  ha B F H σ env _ _ n q fun v d F1 H1 env1 q1 e1 n1 r1 => hb B F1 H1 σ env1 _ _ n1 q1 fun w f F2 H2 q2 e2 n2 r2 =>
    hd F2 H2 v w d f _ Qv n2.g.fh (.inl (r1.up e2)) (r2.rb n2) q2 fun z f F' H' q' g' t' => k z f F' H' env1 q' ((e1.trans e2).trans (g'.ex n2.g.fh)) (n2.gro g') t'
theorem ptx_cmp {op : CmpOp} {r : R2} {o : PyData → PyData → (PyData → Prop) → Prop} (ho : OpR X (compareOp op) r) (hd : OpD r o) (ha : PEx X a ta dx) (hb : PEr X b tb db) (hm : behindInMarks op b = false := by rfl) : PTx X (.Compare a [op] [b] pos) (tTest (tOp r ta tb)) (xTest (x2 o dx db)) := ⟨pt_cmpR ho ha.pe hb.pe hm, fun B F H σ env Q Qv n q k =>
  sx_op hd ha.s hb.s B F H σ env _ _ n q fun v d F' H' env' ⟨b, e, q'⟩ e' n' t' => by
    subst e
    cases t'
    exact ⟨b, rfl, k b F' H' env' q' e' n'⟩⟩
theorem pwx_or1 (ha : PTx X a tA du) : PWx X (.BoolOp .Or [a] pos) tA du := ⟨pw_or1 ha.pt, ha.s⟩
theorem pwx_or (ha : PTx X a tA du) (hb : PWx X (.BoolOp .Or (b :: es) pos) tB' dv) : PWx X (.BoolOp .Or (a :: b :: es) pos) (tOr tA tB') (xOr du dv) := ⟨pw_or ha.pt hb.pw, fun B F H σ env Q Qv n q k =>
  ha.s B F H σ env _ _ n q fun c F1 H1 env1 q1 e1 n1 => by
    cases c with
    | false => exact hb.s B F1 H1 σ env1 _ _ n1 q1 fun c F2 H2 env2 q2 e2 n2 => k c F2 H2 env2 q2 (e1.trans e2) n2
    | true => exact k _ _ _ _ q1 e1 n1⟩
theorem pwx_and1 (ha : PTx X a tA du) : PWx X (.BoolOp .And [a] pos) tA du := ⟨pw_and1 ha.pt, ha.s⟩
theorem pwx_and (ha : PTx X a tA du) (hb : PWx X (.BoolOp .And (b :: es) pos) tB' dv) : PWx X (.BoolOp .And (a :: b :: es) pos) (tAnd tA tB') (xAnd du dv) := ⟨pw_and ha.pt hb.pw, fun B F H σ env Q Qv n q k =>
  ha.s B F H σ env _ _ n q fun c F1 H1 env1 q1 e1 n1 => by
    cases c with
    | true => exact hb.s B F1 H1 σ env1 _ _ n1 q1 fun c F2 H2 env2 q2 e2 n2 => k c F2 H2 env2 q2 (e1.trans e2) n2
    | false => exact k _ _ _ _ q1 e1 n1⟩
theorem ptx_w (h : PWx X a tA du) : PTx X a tA du := ⟨h.pw.pt, h.s⟩
theorem ptx_not (ha : PTx X a tA du) : PTx X (.UnaryOp .Not a pos) (tNot tA) (xNot du) := ⟨pt_not ha.pt, fun B F H σ env Q Qv n q k => ha.s B F H σ env _ _ n q fun c F1 H1 env1 q1 e1 n1 => k _ _ _ _ q1 e1 n1⟩
variable {sts sts2 : List Stmt} {ts us : TS} {d u : DS}
def dIfX (c : DTX) (t u : DS) : DS := fun D env => c env fun b env1 => if b = true then t D env1 else u D env1
theorem qs_ifX (hc : PTx X c tA du) (h1 : PSsd X sts ts d) (h2 : PSsd X sts2 us u) : PSd X (.If c sts sts2 pos) (tIfS tA ts us) (dIfX du d u) := ⟨ps_if hc.pt h1.ps h2.ps, fun B F H σ env D Dd n k q =>
  hc.s B F H σ env _ _ n q fun b F' H' env' q' e' n' => by
    cases b with
    | true => exact h1.s B F' H' σ env' D Dd n' (k.up e') q'
    | false => exact h2.s B F' H' σ env' D Dd n' (k.up e') q'⟩
def dDropX (t : DX) : DS := fun D env => t env fun _ env1 => D.nx env1
theorem qs_exprX (h : PEx X e te dx) (hs : swapsWith e none pos.line X.env = pure false := by rfl) : PSd X (.Expr e pos) (tDrop te) (dDropX dx) := ⟨ps_expr h.pe hs, fun B F H σ env D Dd n k q =>
  h.s B F H σ env _ _ n q fun v d F' H' env' q' e' n' _ => k.nx F' H' σ env' e' n' q'⟩
def dAsgX (t : DX) (g : DG) : DS := fun D env => t env fun d env1 => g d env1 D.nx
/-- o.m(..) -/
def xMeth (C : Addr) (i : Nat) (m : Str) (dsp : MSp) (da : DA) : DX := fun env Q => ∃ p fs, env[i]? = some (some (.obj C p fs)) ∧ fs.lookup m = none ∧ da env fun svs => dsp fs svs fun r fs' => Q r.d (env.set i (some (.obj C p fs')))
theorem sx_meth {dsp : MSp} {E : XK} (ha : Sc tA1 dA) : Sx (tMeth C m (liftM C dsp) [] E (tVar i) tA1) (xMeth C i m dsp dA) := fun B F H σ env Q Qv n q k => by
  obtain ⟨p, fs, h1, hm, q⟩ := q
  obtain ⟨o1, o2, o3, dx, fv, o4, o5⟩ := n.obj h1
  refine ⟨_, o1, p, dx, fv, rfl, o4, o5.nolook hm, ha B F H σ env _ _ n q fun vs svs F1 H1 q1 e1 n1 r1 => ?_⟩
  obtain ⟨o1', o2', o3', dx', fv', o4', o5'⟩ := n1.obj h1
  refine ⟨F1, B.fp, p, dx', fv', fs, vs, svs, _, by rw [List.append_nil], n1.g.fh, r1, fun b hb => ⟨n1.g.bagNF hb, n1.g.bag b hb⟩, o4', o3', o5', q1, fun v r fs' dx2 fv2 F' H' q' g' hp hF hf r' => ?_⟩
  have gB : Grow B F' H' := n1.g.callO (fun z hz => by
    rw [hz]
    exact o2') g'
  have keep : ∀ a o, a ≠ p → H1 a = some o → F1 a = none → (B.H a = none ∨ B.op a) → H' a = some o ∧ F' a = none := fun a o ha h1 h2 h3 => ⟨g'.keep a o (Den.nfp n1.g h3) ha h1, g'.nofr a o h1 h2⟩
  have n2 : Den B F' H' σ (env.set i (some (.obj C p fs'))) := n1.objTo h1 gB g'.bf keep hp hF hf
  cases r with
  | dat d => exact k v d F' H' _ q' (e1.trans g'.bf) n2 r'
  | new ds =>
    obtain ⟨l, ws, rfl, l1, l2, l3, l4⟩ := r'
    have fr : Fresh B F' H' σ (env.set i (some (.obj C p fs'))) l ws ds := ⟨n1.g.new0 l1, l2, l3, l4, fun j es hj z => by
      rcases get_set hj with ⟨_, _, zz⟩ | ⟨_, hj⟩
      · cases zz
      · obtain ⟨l', ws', p1, p2, p3, p4, p5⟩ := n1.own hj
        rw [z] at p1
        cases p1
        have : H1 l = none := l1
        rw [this] at p4
        cases p4⟩
    obtain ⟨n3, e3, d3⟩ := fr.freeze n2
    exact k _ _ _ _ _ q' ((e1.trans g'.bf).trans e3) n3 d3
variable {k : Nat} {fd : FuncData} {ps : List Str}
theorem pex_meth {dsp : MSp} {pl : Sem Bool} (ho : PE X o (tVar i)) (cl : Cls X.K C) (hm : Meth X.K C m f) (F : FnOk X.prog X.w X.K X.mg X.base CX0 k f fd ps (liftM C dsp)) (hr : Room k X.A) (hb : Binds X.K fd ps []) (ha : PAc X (e :: es) tA1 dA)
    (hst : starEach (e :: es) X.env = (false, eval e X.env) :: starEach es X.env := by rfl) (hpl : (backTo pos (starEach es X.env)).any (·.1) = false := by rfl)
    (ht : eval (.Call (.Attribute o m apos) (e :: es) [] pos) X.env = (do
      let ov ← eval o X.env
      standAt apos.atName
      let (f, first) ← holding [ov] (getMethod ov m pl)
      callWith pos f first (backTo pos (starEach (e :: es) X.env)) (backToKw pos (keywordEach [] X.env))) := by rfl) :
    PEx X (.Call (.Attribute o m apos) (e :: es) [] pos) (tMeth C m (liftM C dsp) [] E0 (tVar i) tA1) (xMeth C i m dsp dA) := ⟨pe_meth ho cl hm F hr hb .nil pass0 ha.pa hst hpl ht, sx_meth ha.s⟩
theorem pex_meth0 {dsp : MSp} {pl : Sem Bool} (ho : PE X o (tVar i)) (cl : Cls X.K C) (hm : Meth X.K C m f) (F : FnOk X.prog X.w X.K X.mg X.base CX0 k f fd ps (liftM C dsp)) (hr : Room k X.A) (hb : Binds X.K fd ps [])
    (ht : eval (.Call (.Attribute o m apos) [] [] pos) X.env = (do
      let ov ← eval o X.env
      standAt apos.atName
      let (f, first) ← holding [ov] (getMethod ov m pl)
      callWith pos f first (backTo pos (starEach [] X.env)) (backToKw pos (keywordEach [] X.env))) := by rfl) :
    PEx X (.Call (.Attribute o m apos) [] [] pos) (tMeth C m (liftM C dsp) [] E0 (tVar i) tNil) (xMeth C i m dsp aNil) := ⟨pe_meth0 ho cl hm F hr hb .nil pass0 ht, sx_meth (pac_nil (X := X)).s⟩
end
end Pd

set_option maxRecDepth 100000
set_option maxHeartbeats 4000000
/-! Instances made, == by an own def, two places of an own list exchanged. -/
namespace Pd
open PySem L2
open Evl (Ex)
open PyProof.Rows (envOfC)
/-! ### C() -/
def Sm (C : Addr) (te : TE) (t : Denv → (Fls → Prop) → Prop) : Prop := ∀ B F H σ env Q Qv, Den B F H σ env → t env Q →
  (∀ p fs F' H', Q fs → Ex F F' → Den B F' H' σ env → FreshO B F' H' env C p fs → (∀ a o, H a = some o → F a = none → (B.H a = none ∨ B.op a) → H' a = some o ∧ F' a = none) → H p = none → Qv (.ref p) H') → te σ H Qv
def mkT (dsp : MSp) : Denv → (Fls → Prop) → Prop := fun _ Q => dsp [] [] fun r fs => r = .dat .none ∧ Q fs
theorem sm_make {C : Addr} {dsp : MSp} {E : XK} : Sm C (tMake C (liftM C dsp) [] E tNil) (mkT dsp) := fun B F H σ env Q Qv n q k => by
  intro x dx hx hdx hne
  have g1 : Grow B F (upd H dx (.own x)) := n.g.own hdx
  have hx1 : upd H dx (.own x) x = none := by rw [upd_ne (Ne.symm hne)]; exact hx
  have g2 : Grow B F (upd (upd H dx (.own x)) x (.ins C dx [])) := g1.own hx1
  have hFx : F x = none := Ex.none n.g.fh hx
  refine ⟨F, B.fp, x, dx, [], [], [], [], _, rfl, g2.fh, .nil, fun b hb => ⟨g2.bagNF hb, g2.bag b hb⟩, upd_same, hFx, .nil, q, fun v r fs' dx' fv' F' H' ⟨hr, hq⟩ g' hp hF hf r' => ?_⟩
  subst hr
  cases (show Dt F' v .none from r')
  refine ⟨rfl, ?_⟩
  have bx : B.H x = none := n.g.new0 hx
  have gB : Grow B F' H' := g2.callO (fun z hz => by
    rw [hz]
    exact .inr bx) g'
  have kp : ∀ a o, H a = some o → F a = none → (B.H a = none ∨ B.op a) → H' a = some o ∧ F' a = none := fun a o h1 h2 h3 => by
    have a1 : upd (upd H dx (.own x)) x (.ins C dx []) a = some o := upd_some hx1 (upd_some hdx h1)
    exact ⟨g'.keep a o (Den.nfp n.g h3) (fun z => by
      have z : a = x := z
      rw [z, hx] at h1
      cases h1) a1, g'.nofr a o a1 h2⟩
  refine k x fs' F' H' hq g'.bf (n.grow gB g'.bf kp) ⟨bx, hF, ⟨dx', fv', hp, hf⟩, fun j C' gs hj => ?_⟩ kp hx
  obtain ⟨_, _, _, dy, gv, o4, _⟩ := n.obj hj
  rw [hx] at o4
  cases o4
section
variable {X : Cx} {C f : Addr} {k : Nat} {fd : FuncData} {ps : List Str} {x y : Str} {pos p p2 : Pos} {i j : Nat} {dsp : MSp} {px py pt : Pos} {kt k2 pt2}
def dMk (C : Addr) (i : Nat) (dsp : MSp) : DS := fun D env => dsp [] [] fun r fs => r = .dat .none ∧ ∀ p, D.nx (env.set i (some (.obj C p fs)))
theorem qs_mk {z : Str} {pos' : Pos} (M : Mk X.K C f) (F : FnOk X.prog X.w X.K X.mg X.base CX0 k f fd ps (liftM C dsp)) (hr : Room (k + 1) X.A) (hg : Gl X x) (hm : X.mg x = some (.ref C)) (hb : Binds X.K fd ps []) (hN : X.N.Nodup) (hi : X.N[i]? = some z) (hx : Loc X.env.scope z)
    (hdb : (x == ("__debug__" : Str)) = false := by decide) (hs : swapsWith (.Call (.Name x p) [] [] p2) (some (.Name z pos')) pos.line X.env = pure false := by rfl) (hf : X.fn z = true ∨ X.env.scope.names.lookup z = some .local := by first | exact .inl rfl | exact .inr rfl | assumption) :
    PSd X (.Assign [.Name z pos'] (.Call (.Name x p) [] [] p2) pos) (tAsg (tMake C (liftM C dsp) [] E0 tNil) (gName i)) (dMk C i dsp) := ⟨ps_set hN hi hx (pe_make0 M F hr hg hm hb .nil pass0 hdb) hs hf, fun B F H σ env D Dd n k q =>
  sm_make B F H σ env (fun fs => ∀ p, Dd.nx (env.set i (some (.obj C p fs)))) _ n q fun p fs F' H' q' e' n' fr _ _ => k.nx F' H' _ _ e' (n'.setO fr) (q' p)⟩
def dMk2 (C : Addr) (i j : Nat) (dsp : MSp) : DS := fun D env => dsp [] [] fun r fs => r = .dat .none ∧ dsp [] [] fun r2 gs => r2 = .dat .none ∧ ∀ p q, D.nx ((env.set i (some (.obj C p fs))).set j (some (.obj C q gs)))
theorem FreshO.next {B : Bs} {F1 H1 F2 H2 : Hp} {env : Denv} {C C' p q : Addr} {fs gs : Fls} {i : Nat} (f1 : FreshO B F1 H1 env C p fs) (e2 : Ex F1 F2) (k2 : ∀ a o, H1 a = some o → F1 a = none → (B.H a = none ∨ B.op a) → H2 a = some o ∧ F2 a = none) (hq : H1 q = none) (f2 : FreshO B F2 H2 env C' q gs) :
    FreshO B F2 H2 env C p fs ∧ FreshO B F2 H2 (env.set i (some (.obj C p fs))) C' q gs := by
  obtain ⟨dx, fv, h1, h2⟩ := f1.h
  refine ⟨⟨f1.b, (k2 p _ h1 f1.f (.inl f1.b)).2, ⟨dx, fv, (k2 p _ h1 f1.f (.inl f1.b)).1, h2.up e2⟩, f1.ne⟩, ⟨f2.b, f2.f, f2.h, fun j C2 hs hj => ?_⟩⟩
  rcases get_set hj with ⟨_, _, z⟩ | ⟨_, hj⟩
  · cases z
    rw [hq] at h1
    cases h1
  · exact f2.ne j C2 hs hj
theorem qs_mk2 {u z : Str} {p3 p4 : Pos} (M : Mk X.K C f) (F : FnOk X.prog X.w X.K X.mg X.base CX0 k f fd ps (liftM C dsp)) (hr : Room (k + 1) X.A) (hg : Gl X x) (hm : X.mg x = some (.ref C)) (hb : Binds X.K fd ps []) (hc : X.calm = true) (hN : X.N.Nodup) (hi : X.N[i]? = some u) (hj : X.N[j]? = some z) (hij : i ≠ j)
    (hu : X.env.scope.names.lookup u = some .local) (hz : X.env.scope.names.lookup z = some .local)
    (hw : swappedStores [.Tuple [.Name u px, .Name z py] kt pt] (.Tuple [.Call (.Name x p) [] [] p2, .Call (.Name x p3) [] [] p4] k2 pt2) X.env = pure (some [u, z]))
    (hs : swapsWithSole [.Tuple [.Name u px, .Name z py] kt pt] (.Tuple [.Call (.Name x p) [] [] p2, .Call (.Name x p3) [] [] p4] k2 pt2) pos.line X.env = pure false := by rfl)
    (h1 : starEach [.Call (.Name x p) [] [] p2, .Call (.Name x p3) [] [] p4] X.env = (false, eval (.Call (.Name x p) [] [] p2) X.env) :: starEach [.Call (.Name x p3) [] [] p4] X.env := by rfl) (h2 : starEach [.Call (.Name x p3) [] [] p4] X.env = (false, eval (.Call (.Name x p3) [] [] p4) X.env) :: starEach [] X.env := by rfl)
    (hdb : (x == ("__debug__" : Str)) = false := by decide) :
    PSd X (.Assign [.Tuple [.Name u px, .Name z py] kt pt] (.Tuple [.Call (.Name x p) [] [] p2, .Call (.Name x p3) [] [] p4] k2 pt2) pos) (tPar i j (tCons (tMake C (liftM C dsp) [] E0 tNil) (tCons (tMake C (liftM C dsp) [] E0 tNil) tNil))) (dMk2 C i j dsp) :=
  ⟨ps_par hc hN hi hj hij hu hz (pa_cons (pe_make0 M F hr hg hm hb .nil pass0 hdb) (pa_cons (pe_make0 M F hr hg hm hb .nil pass0 hdb) pa_nil h2) h1) hw hs, fun B F H σ env D Dd n k q => by
    unfold tPar tCons
    refine sm_make (C := C) (E := E0) B F H σ env (fun fs => dsp [] [] fun r2 gs => r2 = .dat .none ∧ ∀ p q, Dd.nx ((env.set i (some (.obj C p fs))).set j (some (.obj C q gs)))) _ n q fun p fs F1 H1 q1 e1 n1 f1 _ _ => ?_
    refine sm_make (C := C) (E := E0) B F1 H1 σ env (fun gs => ∀ p q, Dd.nx ((env.set i (some (.obj C p fs))).set j (some (.obj C q gs)))) _ n1 q1 fun r gs F2 H2 q2 e2 n2 f2 k2 hq => ?_
    obtain ⟨m1, m2⟩ := FreshO.next (i := i) f1 e2 k2 hq f2
    exact ⟨_, _, rfl, k.nx F2 H2 _ _ (e1.trans e2) ((n2.setO m1).setO m2) (q2 p r)⟩⟩
end
/-! ### a, b, c = x, [], y -/
def dParDED (i j l m : Nat) (da : DE) : DS := fun D env => da env fun d => ∃ e, env[m]? = some (some (.dat e)) ∧ D.nx (((env.set i (some (.dat d))).set j (some (.own []))).set l (some (.dat e)))
theorem rs_parDED {X : Cx} {a c : Expr} {ta : TE} {da : DE} {pos lp : Pos} {i j l m : Nat} {x y z : Str} {px py pz pt : Pos} {kt k2 pt2} (hc : X.calm = true) (hN : X.N.Nodup) (hi : X.N[i]? = some x) (hj : X.N[j]? = some y) (hl : X.N[l]? = some z) (hij : i ≠ j) (hil : i ≠ l) (hjl : j ≠ l)
    (hx : X.env.scope.names.lookup x = some .local) (hy : X.env.scope.names.lookup y = some .local) (hz : X.env.scope.names.lookup z = some .local) (ha : PEd X a ta da) (hcv : PE X c (tVar m))
    (hw : swappedStores [.Tuple [.Name x px, .Name y py, .Name z pz] kt pt] (.Tuple [a, .List [] lp, c] k2 pt2) X.env = pure (some [x, y, z]))
    (hs : swapsWithSole [.Tuple [.Name x px, .Name y py, .Name z pz] kt pt] (.Tuple [a, .List [] lp, c] k2 pt2) pos.line X.env = pure false := by rfl)
    (h1 : starEach [a, .List [] lp, c] X.env = (false, eval a X.env) :: starEach [.List [] lp, c] X.env := by rfl) (h2 : starEach [.List [] lp, c] X.env = (false, eval (.List [] lp) X.env) :: starEach [c] X.env := by rfl) (h3 : starEach [c] X.env = (false, eval c X.env) :: starEach [] X.env := by rfl) :
    PSd X (.Assign [.Tuple [.Name x px, .Name y py, .Name z pz] kt pt] (.Tuple [a, .List [] lp, c] k2 pt2) pos) (tPar3 i j l (tCons ta (tCons (tLst tNil) (tCons (tVar m) tNil)))) (dParDED i j l m da) :=
  ⟨ps_par3 hc hN hi hj hl hij hil hjl hx hy hz (pa_cons ha.pe (pa_cons (pe_lst pa_nil) (pa_cons hcv pa_nil h3) h2) h1) hw hs, fun B F H σ env D Dd n k q =>
    ha.s B F H σ env _ _ n q fun v d F1 H1 ⟨e, hm, q1⟩ e1 n1 t1 => ⟨Nat.zero_le _, fun p hp => by
      obtain ⟨w, hw1, hw2⟩ := n1.slot m _ hm
      have m2 := n1.setD (i := i) t1
      obtain ⟨f1, f2⟩ := Fresh.of m2 hp DtA.nil
      have m3 := f2.setN (i := j) f1
      exact ⟨w, hw1, _, _, _, rfl, k.nx F1 _ _ _ e1 (m3.setD (i := l) hw2) q1⟩⟩⟩
/-! ### xs[i], xs[j] = xs[j], xs[i] -/
def dSwapI (i : Nat) (da db : DE) : DS := fun D env => ∃ ds, env[i]? = some (some (.own ds)) ∧ da env fun x => db env fun y => ∃ (a b : Int) (j k : Nat) (u v : PyData), x = .int a ∧ y = .int b ∧ ixN ds.length a = some j ∧ ixN ds.length b = some k ∧ ds[j]? = some u ∧ ds[k]? = some v ∧ D.nx (env.set i (some (.own ((ds.set j v).set k u))))
theorem qs_swapI {X : Cx} {o1 o2 o3 o4 : Expr} {i a b : Nat} {x1 x2 x3 x4 : Expr} {pos p1 p2 p3 p4 pt pt2 : Pos} {kt k2} (hc : X.calm = true) (ho1 : PE X o1 (tVar i)) (ho2 : PE X o2 (tVar i)) (ho3 : PE X o3 (tVar i)) (ho4 : PE X o4 (tVar i)) (h1 : PE X x1 (tVar a)) (h2 : PE X x2 (tVar b)) (h3 : PE X x3 (tVar b)) (h4 : PE X x4 (tVar a))
    (ha1 : ∀ v, assign (.Subscript o1 x1 p1) X.env v = (do
      let ov ← holding [v] (eval o1 X.env)
      let iv ← holding [v, ov] (eval x1 X.env)
      standAt p1
      holding [v, ov, iv] (setItem ov iv v)
      release [v, ov, iv] []) := by intro _; rfl)
    (ha2 : ∀ v, assign (.Subscript o2 x2 p2) X.env v = (do
      let ov ← holding [v] (eval o2 X.env)
      let iv ← holding [v, ov] (eval x2 X.env)
      standAt p2
      holding [v, ov, iv] (setItem ov iv v)
      release [v, ov, iv] []) := by intro _; rfl)
    (hs : swapsWithSole [.Tuple [.Subscript o1 x1 p1, .Subscript o2 x2 p2] kt pt] (.Tuple [.Subscript o3 x3 p3, .Subscript o4 x4 p4] k2 pt2) pos.line X.env = pure false := by rfl) (hw : swappedStores [.Tuple [.Subscript o1 x1 p1, .Subscript o2 x2 p2] kt pt] (.Tuple [.Subscript o3 x3 p3, .Subscript o4 x4 p4] k2 pt2) X.env = pure none := by rfl)
    (hA : (assignEach [.Tuple [.Subscript o1 x1 p1, .Subscript o2 x2 p2] kt pt] X.env).map (·.2) = [assign (.Tuple [.Subscript o1 x1 p1, .Subscript o2 x2 p2] kt pt) X.env] := by rfl)
    (hn : (assignEach [.Subscript o1 x1 p1, .Subscript o2 x2 p2] X.env).length = 2 := by rfl) (hst : (assignEach [.Subscript o1 x1 p1, .Subscript o2 x2 p2] X.env).findIdx? (·.1) = none := by rfl)
    (hB : (assignEach [.Subscript o1 x1 p1, .Subscript o2 x2 p2] X.env).map (·.2) = assign (.Subscript o1 x1 p1) X.env :: (assignEach [.Subscript o2 x2 p2] X.env).map (·.2) := by rfl) (hC : (assignEach [.Subscript o2 x2 p2] X.env).map (·.2) = assign (.Subscript o2 x2 p2) X.env :: (assignEach [] X.env).map (·.2) := by rfl)
    (s1 : starEach [.Subscript o3 x3 p3, .Subscript o4 x4 p4] X.env = (false, eval (.Subscript o3 x3 p3) X.env) :: starEach [.Subscript o4 x4 p4] X.env := by rfl) (s2 : starEach [.Subscript o4 x4 p4] X.env = (false, eval (.Subscript o4 x4 p4) X.env) :: starEach [] X.env := by rfl)
    (hx3 : PlainIx x3 := by intro _ _; rfl) (hx4 : PlainIx x4 := by intro _ _; rfl) :
    PSd X (.Assign [.Tuple [.Subscript o1 x1 p1, .Subscript o2 x2 p2] kt pt] (.Tuple [.Subscript o3 x3 p3, .Subscript o4 x4 p4] k2 pt2) pos)
      (tAsg (tTup (tCons (tOp (rIxL X.K) (tVar i) (tVar b)) (tCons (tOp (rIxL X.K) (tVar i) (tVar a)) tNil))) (gTup X.K 2 (gCons (gSub (tVar i) (tVar a) rSetL) (gCons (gSub (tVar i) (tVar b) rSetL) gNil)))) (dSwapI i (dVar a) (dVar b)) :=
  ⟨ps_asg (pe_tup (pa_cons (pe_ix ix_list ho3 h3 hx3) (pa_cons (pe_ix ix_list ho4 h4 hx4) pa_nil s2) s1)) (pg_tup hc (pgs_cons (pg_sub ho1 h1 set_list ha1) (pgs_cons (pg_sub ho2 h2 set_list ha2) pgs_nil hC) hB) hn hst) hs hw hA, fun B F H σ env D Dd n k q => by
    obtain ⟨ds, h1, x, hx, y, hy, a', b', j, l, u, v, rfl, rfl, ja, jb, eu, ev, q⟩ := q
    obtain ⟨L, vs, c1, c2, c3, c4, c5⟩ := n.own h1
    obtain ⟨va, va1, va2⟩ := n.slot a _ hx
    obtain ⟨vb, vb1, vb2⟩ := n.slot b _ hy
    cases (show Dt F va (.int a') from va2)
    cases (show Dt F vb (.int b') from vb2)
    obtain ⟨w1, w2, w3⟩ := c5.get eu
    obtain ⟨z1, z2, z3⟩ := c5.get ev
    have i1 : atI vs b' = some z1 := by
      unfold atI
      rw [c5.len, jb]
      exact z2
    have i2 : atI vs a' = some w1 := by
      unfold atI
      rw [c5.len, ja]
      exact w2
    refine ⟨_, c1, _, vb1, L, vs, b', z1, rfl, rfl, SqL.of c4, i1, _, c1, _, va1, L, vs, a', w1, rfl, rfl, SqL.of c4, i2, by show 2 ≤ sizeLine; decide, fun T hT => ?_⟩
    have g : Gro F H (upd F T (.tup [z1, w1])) (upd H T (.tup [z1, w1])) := .new hT
    have nT := n.gro g
    have eT := g.ex n.g.fh
    have cT : upd H T (.tup [z1, w1]) L = some (.lst vs) := upd_some hT c4
    refine ⟨T, _, rfl, SqT.of upd_same, rfl, z1, [w1], rfl, _, c1, _, va1, L, vs, a', j, rfl, rfl, cT, by rw [c5.len]; exact ja, w1, [], rfl, _, c1, _, vb1, L, vs.set j z1, b', l, rfl, rfl, upd_same, by rw [List.length_set, c5.len]; exact jb, rfl, ?_⟩
    have d5 := c5.up eT
    have m1 := nT.mut h1 c1 (DtA.set (z3.up eT) j d5)
    have h1' : (env.set i (some (SV.own (ds.set j v))))[i]? = some (some (.own (ds.set j v))) := List.getElem?_set_self (List.getElem?_eq_some_iff.mp h1).1
    have m2 := m1.mut h1' c1 (DtA.set (w3.up eT) l (DtA.set (z3.up eT) j d5))
    rw [List.set_set] at m2
    exact k.nx _ _ _ _ eT m2 q⟩
/-! ### x == y by an own def -/
def bt3 (a b c : PyData) : Fls := [("now", a), ("all_gone", b), ("all_left", c)]
def spEqB (C : Addr) : Sp := fun vs H Q _ => ∃ (F : Hp) (p dx q dy : Addr) (fv gv : List (Str × V)) (a1 a2 a3 b1 b2 b3 : PyData), vs = [.ref p, .ref q] ∧ Ex F H ∧ H p = some (.ins C dx fv) ∧ FlOk F fv (bt3 a1 a2 a3) ∧ H q = some (.ins C dy gv) ∧ FlOk F gv (bt3 b1 b2 b3) ∧
  SeqAt.shaped (.tuple [a1, a2, a3]) = true ∧ SeqAt.shaped (.tuple [b1, b2, b3]) = true ∧ ∀ H', Ex H H' → Q (.bl (PyData.eqv (.tuple [a1, a2, a3]) (.tuple [b1, b2, b3]))) H'
def rOwnE (C : Addr) (sp : Sp) : R2 := fun x y H Q => ∃ a dx fs b dy gs, x = .ref a ∧ y = .ref b ∧ H a = some (.ins C dx fs) ∧ H b = some (.ins C dy gs) ∧ sp [x, y] H (fun v H' => (∃ z, v = .bl z) ∧ Q v H') E0
theorem op_ownE {X : Cx} {C f : Addr} {k : Nat} {fd : FuncData} {ps : List Str} {sp : Sp} (F : FnOk X.prog X.w X.K X.mg X.base CX0 k f fd ps sp) (hr : Room k X.A) (hs : PySem.W.findIn X.K (.ref C) "__eq__" = some (some (.ref f))) (hf : PySem.W.isFn X.K (.ref f) = true) (hb : Binds X.K fd ps []) : OpR X (compareOp .Eq) (rOwnE C sp) := by
  intro pins s σ H x y v u Q I rx ry h
  obtain ⟨a, dx, fs, b, dy, gs, rfl, rfl, ha, hb', q⟩ := h
  cases (show v = Value.ref a from rx)
  cases (show u = Value.ref b from ry)
  obtain ⟨mA, J, _⟩ := ins_get I.hok ha
  obtain ⟨mB, J', _⟩ := ins_get I.hok hb'
  obtain ⟨od, J, _⟩ := J.look
  obtain ⟨od', J', _⟩ := J'.look
  obtain ⟨m, hF⟩ := I.fr
  show wpAny (model X.prog X.w) X.A (richCompare .Eq (.ref a) (.ref b)) (EP X pins σ Q) X.xe s
  refine PySem.W.cmp_K (op := .Eq) (tb := .ref C) hr.units0 hF I.ok.mod.kin J J'.type (by simp [PySem.W.notFirst]) hs hf ?_
  refine wpAny_mono (run_fn (us := [.ref a, .ref b]) (vs := [.ref a, .ref b]) F hr hb .nil pass0 I (.cons rfl (.cons rfl .nil)) q) (fun w s' z => ?_) fun _ _ x => x
  obtain ⟨z', H', I', rz, ⟨t, rfl⟩, qz⟩ := z
  cases (show w = Value.bool t from rz)
  exact ⟨.bl t, H', I', rz, qz⟩
def dEqO (C : Addr) (i j : Nat) : DE := fun env Q => ∃ p q a1 a2 a3 b1 b2 b3, env[i]? = some (some (.obj C p (bt3 a1 a2 a3))) ∧ env[j]? = some (some (.obj C q (bt3 b1 b2 b3))) ∧ SeqAt.shaped (.tuple [a1, a2, a3]) = true ∧ SeqAt.shaped (.tuple [b1, b2, b3]) = true ∧ Q (.bool (PyData.eqv (.tuple [a1, a2, a3]) (.tuple [b1, b2, b3])))
theorem Den.exH {B : Bs} {F H H' : Hp} {σ : St} {env : Denv} (n : Den B F H σ env) (e : Ex H H') : Den B F H' σ env :=
  n.grow ⟨n.g.fh.trans e, n.g.bf, fun a o hf ho h => e _ _ (n.g.keep a o hf ho h), n.g.nofr, fun b hb => (n.g.bag b hb).mono (Ex.refl _) fun o h => e _ _ h, n.g.fpn, fun p hp => by
    obtain ⟨h1, h2, C, dx, fs, h3⟩ := n.g.opn p hp
    exact ⟨h1, h2, C, dx, fs, e _ _ h3⟩, fun P q hq => ⟨(n.g.tab P q hq).1.ext e, (n.g.tab P q hq).2⟩, n.g.ivk _ _ (fun a o h _ _ _ => e _ _ h) n.g.iv, n.g.ivk⟩ (Ex.refl _) fun a o h1 h2 _ => ⟨e _ _ h1, h2⟩
theorem ped_eqO {X : Cx} {a b : Expr} {C f : Addr} {i j k : Nat} {fd : FuncData} {ps : List Str} {pos : Pos} (F : FnOk X.prog X.w X.K X.mg X.base CX0 k f fd ps (spEqB C)) (hr : Room k X.A) (hs : PySem.W.findIn X.K (.ref C) "__eq__" = some (some (.ref f))) (hf : PySem.W.isFn X.K (.ref f) = true) (hb : Binds X.K fd ps []) (ha : PE X a (tVar i)) (hb' : PE X b (tVar j)) (hm : behindInMarks .Eq b = false := by rfl) :
    PTd X (.Compare a [.Eq] [b] pos) (tTest (tOp (rOwnE C (spEqB C)) (tVar i) (tVar j))) (dTest (dEqO C i j)) := ⟨pt_cmpR (op_ownE F hr hs hf hb) ha hb' hm, fun B F H σ env Q Qv n q k => by
  obtain ⟨p, q', a1, a2, a3, b1, b2, b3, h1, h2, s1, s2, z, ez, q⟩ := q
  obtain ⟨o1, o2, o3, dx, fv, o4, o5⟩ := n.obj h1
  obtain ⟨r1, r2, r3, dy, gv, r4, r5⟩ := n.obj h2
  refine ⟨_, o1, _, r1, p, dx, fv, q', dy, gv, rfl, rfl, o4, r4, F, p, dx, q', dy, fv, gv, a1, a2, a3, b1, b2, b3, rfl, n.g.fh, o4, o5, r4, r5, s1, s2, fun H' e => ⟨⟨_, rfl⟩, z, ?_, k z F H' q (Ex.refl _) (n.exH e)⟩⟩
  cases ez
  rfl⟩
/-- the own def: isinstance, then the fields -/
theorem ok_eqB {P : Program} {w : World} {K : PySem.W.Frag} {mg : Str → Option Value} {base : Heap} {st : Stmt} {C f : Addr} {fd : FuncData} (F : Fun K "__eq__" "Belt.__eq__" st f fd) (S : FnScope ["self", "other"] ["self", "other"] (defScope st))
    (cl : Cls K C) (n1 : NoAttr K C "now") (n2 : NoAttr K C "all_gone") (n3 : NoAttr K C "all_left")
    (c1 : PySem.W.findIn K (.ref C) "__class__" = some (some (.builtin "object.__class__"))) (c2 : PySem.W.specialIn K (.builtin "object.__class__") "__get__" = some (some (.builtin "getset_descriptor.__get__"))) (c3 : PySem.W.takesIn K (.builtin "object.__class__") = some true) (c4 : PySem.W.mroIn K C (.type "object") = some true)
    (hb : ∀ (cdv : Value) (A : Around) (outer : List Env) (s : Shared) (H : Hp) (E : XK), Room 0 (A.deeper (envOfC "Belt.__eq__" (defScope st) s.heap.objs.size f cdv)) → PSs (cxOf CX0 P w K mg base ["self", "other"] "Belt.__eq__" (defScope st) f cdv A outer s H E).nox (defBody st)
      (tSeq (tIfS (tNot (tB (tCB (rIsi K) (tCons (tVar 1) (tCons (tC (.ref C)) tNil))))) (tRet (tC (.bl false))) tNext) (tRet (tOp (rEqD K) (tTup (tCons (tFld K (tVar 0) "now") (tCons (tFld K (tVar 0) "all_gone") (tCons (tFld K (tVar 0) "all_left") tNil)))) (tTup (tCons (tFld K (tVar 1) "now") (tCons (tFld K (tVar 1) "all_gone") (tCons (tFld K (tVar 1) "all_left") tNil)))))))) :
    FnOk P w K mg base CX0 1 f fd ["self", "other"] (spEqB C) := by
  have c5 : PySem.W.kitOne K (.ref C) (.ref C) = some true := by
    unfold PySem.W.kitOne
    simp
  refine F.ok (k := 0) S (fun vs H Q E h => ?_) (fun cdv A outer s H vs Q E hr h => ⟨_, hb cdv A outer s H E hr, ?_⟩)
  · obtain ⟨_, _, _, _, _, _, _, _, _, _, _, _, _, rfl, _⟩ := h
    rfl
  · obtain ⟨F', p, dx, q, dy, fv, gv, a1, a2, a3, b1, b2, b3, rfl, e, hp, hf, hq, hg, s1, s2, k⟩ := h
    obtain ⟨v1, l1, t1⟩ := hf.look (f := "now") (d := a1) (by rfl)
    obtain ⟨v2, l2, t2⟩ := hf.look (f := "all_gone") (d := a2) (by rfl)
    obtain ⟨v3, l3, t3⟩ := hf.look (f := "all_left") (d := a3) (by rfl)
    obtain ⟨w1, k1, u1⟩ := hg.look (f := "now") (d := b1) (by rfl)
    obtain ⟨w2, k2, u2⟩ := hg.look (f := "all_gone") (d := b2) (by rfl)
    obtain ⟨w3, k3, u3⟩ := hg.look (f := "all_left") (d := b3) (by rfl)
    refine ⟨_, rfl, .ref q, .ref C, .ref C, .ref C, true, rfl, .own C, .base (.ins hq cl c1 c2 c3 c4), c5, true, rfl, iteF ?_⟩
    refine ⟨_, rfl, p, C, dx, fv, v1, rfl, hp, cl, n1, l1, _, rfl, p, C, dx, fv, v2, rfl, hp, cl, n2, l2, _, rfl, p, C, dx, fv, v3, rfl, hp, cl, n3, l3, by show 3 ≤ sizeLine; decide, fun T hT => ?_⟩
    have hq1 := upd_some (o := .tup [v1, v2, v3]) hT hq
    refine ⟨_, rfl, q, C, dy, gv, w1, rfl, hq1, cl, n1, k1, _, rfl, q, C, dy, gv, w2, rfl, hq1, cl, n2, k2, _, rfl, q, C, dy, gv, w3, rfl, hq1, cl, n3, k3, by show 3 ≤ sizeLine; decide, fun U hU => ?_⟩
    have eT : Ex H (upd H T (.tup [v1, v2, v3])) := Ex.new hT
    have eU : Ex (upd H T (.tup [v1, v2, v3])) (upd (upd H T (.tup [v1, v2, v3])) U (.tup [w1, w2, w3])) := Ex.new hU
    have eA := (e.trans eT).trans eU
    refine ⟨_, _, Dt.dp (.tup (eU _ _ upd_same) (.cons (t1.up eA) (.cons (t2.up eA) (.cons (t3.up eA) .nil)))), Dt.dp (.tup upd_same (.cons (u1.up eA) (.cons (u2.up eA) (.cons (u3.up eA) .nil)))), s1, s2, k _ (eT.trans eU)⟩
end Pd
namespace Pd
open PySem L2
open Evl (Ex)
/-! ### methods that change nothing -/
def dMeth (C : Addr) (i : Nat) (m : Str) (dsp : MSp) (da : DA) : DE := fun env Q => ∃ p fs, env[i]? = some (some (.obj C p fs)) ∧ fs.lookup m = none ∧ da env fun svs => dsp fs svs fun r fs' => fs' = fs ∧ Q r.d
theorem set_same {env : Denv} {i : Nat} {x : Option SV} (h : env[i]? = some x) : env.set i x = env := by
  refine List.ext_getElem? fun j => ?_
  by_cases hj : i = j
  · subst hj
    rw [List.getElem?_set_self (List.getElem?_eq_some_iff.mp h).1, h]
  · rw [List.getElem?_set_ne hj]
theorem sd_meth {C : Addr} {i : Nat} {m : Str} {dsp : MSp} {da : DA} {te : TE} (mono : ∀ env (Q Q' : List SV → Prop), (∀ x, Q x → Q' x) → da env Q → da env Q') (dmono : ∀ fs svs (R R' : RVd → Fls → Prop), (∀ r gs, R r gs → R' r gs) → dsp fs svs R → dsp fs svs R') (h : Sx te (xMeth C i m dsp da)) : Sd te (dMeth C i m dsp da) := fun B F H σ env Q Qv n q k => by
  obtain ⟨p, fs, h1, h2, q⟩ := q
  refine h B F H σ env (fun d env' => env' = env ∧ Q d) Qv n ⟨p, fs, h1, h2, mono env _ _ (fun svs q1 => dmono fs svs _ _ (fun r gs q2 => ?_) q1) q⟩ fun v d F' H' env' ⟨e', q'⟩ e1 n1 t1 => by
    subst e'
    exact k v d F' H' q' e1 n1 t1
  obtain ⟨rfl, q2⟩ := q2
  exact ⟨set_same h1, q2⟩
theorem aNil_mono (env : Denv) (Q Q' : List SV → Prop) (h : ∀ x, Q x → Q' x) (q : aNil env Q) : aNil env Q' := h _ q
theorem aVar_mono (j : Nat) (env : Denv) (Q Q' : List SV → Prop) (h : ∀ x, Q x → Q' x) (q : aDat (dVar j) aNil env Q) : aDat (dVar j) aNil env Q' := by
  obtain ⟨d, h1, q⟩ := q
  exact ⟨d, h1, h _ q⟩
theorem PEx.pure {X : Cx} {e : Expr} {te : TE} {C : Addr} {i : Nat} {m : Str} {dsp : MSp} {da : DA} (h : PEx X e te (xMeth C i m dsp da)) (mono : ∀ env (Q Q' : List SV → Prop), (∀ x, Q x → Q' x) → da env Q → da env Q') (dmono : ∀ fs svs (R R' : RVd → Fls → Prop), (∀ r gs, R r gs → R' r gs) → dsp fs svs R → dsp fs svs R') : PEd X e te (dMeth C i m dsp da) := ⟨h.pe, sd_meth mono dmono h.s⟩
end Pd
namespace Pd
open PySem L2
/-! ### equations for simp -/
section
variable {C p : Addr} {i j : Nat} {f m : Str} {Q : PyData → Prop} {env : Denv} {a b c a' b' c' d : PyData} {D : DEnds} {t : DE} {fs : Fls}
def fldQ (C : Addr) (o : Option (Option SV)) (f : Str) (Q : PyData → Prop) : Prop := ∃ p fs d, o = some (some (.obj C p fs)) ∧ fs.lookup f = some d ∧ Q d
theorem q_fld : dFld C i f env Q = fldQ C env[i]? f Q := rfl
theorem fldQ_at (h : fs.lookup f = some d) : fldQ C (some (some (.obj C p fs))) f Q = Q d := propext ⟨fun ⟨p', fs', d', e, h', q⟩ => by
  cases e
  rw [h] at h'
  cases h'
  exact q, fun q => ⟨p, fs, d, rfl, h, q⟩⟩
theorem q_fnow : fldQ C (some (some (.obj C p (bt3 a b c)))) "now" Q = Q a := fldQ_at (by rfl)
theorem q_fgone : fldQ C (some (some (.obj C p (bt3 a b c)))) "all_gone" Q = Q b := fldQ_at (by rfl)
theorem q_fleft : fldQ C (some (some (.obj C p (bt3 a b c)))) "all_left" Q = Q c := fldQ_at (by rfl)
def setFQ (C : Addr) (o : Option (Option SV)) (f : Str) (d : PyData) (N : SV → Prop) : Prop := ∃ p fs, o = some (some (.obj C p fs)) ∧ fs.length < 1000 ∧ N (.obj C p (putD f d fs))
theorem q_setF : dSetF C i f t D env = t env fun d => setFQ C env[i]? f d fun s => D.nx (env.set i (some s)) := rfl
variable {N : SV → Prop}
theorem setFQ_at (hl : fs.length < 1000) : setFQ C (some (some (.obj C p fs))) f d N = N (.obj C p (putD f d fs)) := propext ⟨fun ⟨p', fs', e, _, q⟩ => by
  cases e
  exact q, fun q => ⟨p, fs, rfl, hl, q⟩⟩
theorem q_snow : setFQ C (some (some (.obj C p (bt3 a b c)))) "now" d N = N (.obj C p (bt3 d b c)) := setFQ_at (by show 3 < 1000; decide)
theorem q_sgone : setFQ C (some (some (.obj C p (bt3 a b c)))) "all_gone" d N = N (.obj C p (bt3 a d c)) := setFQ_at (by show 3 < 1000; decide)
theorem q_sleft : setFQ C (some (some (.obj C p (bt3 a b c)))) "all_left" d N = N (.obj C p (bt3 a b d)) := setFQ_at (by show 3 < 1000; decide)
theorem q_s1 : setFQ C (some (some (.obj C p []))) "now" d N = N (.obj C p [("now", d)]) := setFQ_at (by decide)
theorem q_s2 : setFQ C (some (some (.obj C p [("now", a)]))) "all_gone" d N = N (.obj C p [("now", a), ("all_gone", d)]) := setFQ_at (by show 1 < 1000; decide)
theorem q_s3 : setFQ C (some (some (.obj C p [("now", a), ("all_gone", b)]))) "all_left" d N = N (.obj C p (bt3 a b d)) := setFQ_at (by show 2 < 1000; decide)
def addFQ (C : Addr) (o : Option (Option SV)) (f : Str) (T : (PyData → Prop) → Prop) (N : SV → Prop) : Prop := ∃ p fs, o = some (some (.obj C p fs)) ∧ fs.length < 1000 ∧ ∃ x : Int, fs.lookup f = some (.int x) ∧ T fun d => ∃ y : Int, d = .int y ∧ N (.obj C p (putD f (.int (x + y)) fs))
theorem q_addF : dAddF C i f t D env = addFQ C env[i]? f (t env) fun s => D.nx (env.set i (some s)) := rfl
variable {T : (PyData → Prop) → Prop} {x y : Int}
theorem q_agone : addFQ C (some (some (.obj C p (bt3 a (.int x) c)))) "all_gone" T N = T fun d => ∃ y : Int, d = .int y ∧ N (.obj C p (bt3 a (.int (x + y)) c)) := propext ⟨fun ⟨p', fs', e, _, x', h, q⟩ => by
  cases e
  have : some (PyData.int x) = some (.int x') := h
  cases this
  exact q, fun q => ⟨p, _, rfl, by show 3 < 1000; decide, x, by rfl, q⟩⟩
theorem q_aleft : addFQ C (some (some (.obj C p (bt3 a b (.int x))))) "all_left" T N = T fun d => ∃ y : Int, d = .int y ∧ N (.obj C p (bt3 a b (.int (x + y)))) := propext ⟨fun ⟨p', fs', e, _, x', h, q⟩ => by
  cases e
  have : some (PyData.int x) = some (.int x') := h
  cases this
  exact q, fun q => ⟨p, _, rfl, by show 3 < 1000; decide, x, by rfl, q⟩⟩
/-- o.m(..) -/
def methQ (C : Addr) (o : Option (Option SV)) (m : Str) (T : (List SV → Prop) → Prop) (dsp : MSp) (N : RVd → SV → Prop) : Prop := ∃ p fs, o = some (some (.obj C p fs)) ∧ fs.lookup m = none ∧ T fun svs => dsp fs svs fun r fs' => N r (.obj C p fs')
theorem q_xmeth {dsp : MSp} {da : DA} {QX : PyData → Denv → Prop} : xMeth C i m dsp da env QX = methQ C env[i]? m (da env) dsp fun r s => QX r.d (env.set i (some s)) := rfl
theorem methQ_at {T : (List SV → Prop) → Prop} {dsp : MSp} {N : RVd → SV → Prop} (h : fs.lookup m = none) : methQ C (some (some (.obj C p fs))) m T dsp N = T fun svs => dsp fs svs fun r fs' => N r (.obj C p fs') := propext ⟨fun ⟨p', fs', e, _, q⟩ => by
  cases e
  exact q, fun q => ⟨p, fs, rfl, h, q⟩⟩
theorem q_m1 {T : (List SV → Prop) → Prop} {dsp : MSp} {N : RVd → SV → Prop} : methQ C (some (some (.obj C p (bt3 a b c)))) "go_by" T dsp N = T fun svs => dsp (bt3 a b c) svs fun r fs' => N r (.obj C p fs') := methQ_at (by rfl)
theorem q_m2 {T : (List SV → Prop) → Prop} {dsp : MSp} {N : RVd → SV → Prop} : methQ C (some (some (.obj C p (bt3 a b c)))) "come" T dsp N = T fun svs => dsp (bt3 a b c) svs fun r fs' => N r (.obj C p fs') := methQ_at (by rfl)
theorem q_m3 {T : (List SV → Prop) → Prop} {dsp : MSp} {N : RVd → SV → Prop} : methQ C (some (some (.obj C p (bt3 a b c)))) "leave" T dsp N = T fun svs => dsp (bt3 a b c) svs fun r fs' => N r (.obj C p fs') := methQ_at (by rfl)
theorem q_m4 {T : (List SV → Prop) → Prop} {dsp : MSp} {N : RVd → SV → Prop} : methQ C (some (some (.obj C p (bt3 a b c)))) "change" T dsp N = T fun svs => dsp (bt3 a b c) svs fun r fs' => N r (.obj C p fs') := methQ_at (by rfl)
def methD (C : Addr) (o : Option (Option SV)) (m : Str) (T : (List SV → Prop) → Prop) (dsp : MSp) (Q : PyData → Prop) : Prop := ∃ p fs, o = some (some (.obj C p fs)) ∧ fs.lookup m = none ∧ T fun svs => dsp fs svs fun r fs' => fs' = fs ∧ Q r.d
theorem q_dmeth {dsp : MSp} {da : DA} : dMeth C i m dsp da env Q = methD C env[i]? m (da env) dsp Q := rfl
theorem methD_at {T : (List SV → Prop) → Prop} {dsp : MSp} (h : fs.lookup m = none) : methD C (some (some (.obj C p fs))) m T dsp Q = T fun svs => dsp fs svs fun r fs' => fs' = fs ∧ Q r.d := propext ⟨fun ⟨p', fs', e, _, q⟩ => by
  cases e
  exact q, fun q => ⟨p, fs, rfl, h, q⟩⟩
theorem q_d1 {T : (List SV → Prop) → Prop} {dsp : MSp} : methD C (some (some (.obj C p (bt3 a b c)))) "row" T dsp Q = T fun svs => dsp (bt3 a b c) svs fun r fs' => fs' = bt3 a b c ∧ Q r.d := methD_at (by rfl)
theorem q_d2 {T : (List SV → Prop) → Prop} {dsp : MSp} : methD C (some (some (.obj C p (bt3 a b c)))) "gone" T dsp Q = T fun svs => dsp (bt3 a b c) svs fun r fs' => fs' = bt3 a b c ∧ Q r.d := methD_at (by rfl)
theorem q_d3 {T : (List SV → Prop) → Prop} {dsp : MSp} : methD C (some (some (.obj C p (bt3 a b c)))) "left_over" T dsp Q = T fun svs => dsp (bt3 a b c) svs fun r fs' => fs' = bt3 a b c ∧ Q r.d := methD_at (by rfl)
theorem q_d4 {T : (List SV → Prop) → Prop} {dsp : MSp} : methD C (some (some (.obj C p (bt3 a b c)))) "need_place" T dsp Q = T fun svs => dsp (bt3 a b c) svs fun r fs' => fs' = bt3 a b c ∧ Q r.d := methD_at (by rfl)
def eqOQ (C : Addr) (o o' : Option (Option SV)) (Q : PyData → Prop) : Prop := ∃ p q a1 a2 a3 b1 b2 b3, o = some (some (.obj C p (bt3 a1 a2 a3))) ∧ o' = some (some (.obj C q (bt3 b1 b2 b3))) ∧ SeqAt.shaped (.tuple [a1, a2, a3]) = true ∧ SeqAt.shaped (.tuple [b1, b2, b3]) = true ∧ Q (.bool (PyData.eqv (.tuple [a1, a2, a3]) (.tuple [b1, b2, b3])))
theorem q_eqO : dEqO C i j env Q = eqOQ C env[i]? env[j]? Q := rfl
theorem q_eqOQ {q : Addr} : eqOQ C (some (some (.obj C p (bt3 a b c)))) (some (some (.obj C q (bt3 a' b' c')))) Q = (SeqAt.shaped (.tuple [a, b, c]) = true ∧ SeqAt.shaped (.tuple [a', b', c']) = true ∧ Q (.bool (PyData.eqv (.tuple [a, b, c]) (.tuple [a', b', c'])))) := propext ⟨fun ⟨_, _, _, _, _, _, _, _, e1, e2, h⟩ => by
  cases e1
  cases e2
  exact h, fun h => ⟨_, _, _, _, _, _, _, _, rfl, rfl, h⟩⟩
theorem q_endnx {R : RVd → Fls → Prop} : (endM C p R).nx env = ∃ fs', env[0]? = some (some (.obj C p fs')) ∧ R (.dat .none) fs' := rfl
theorem q_endrx {R : RVd → Fls → Prop} {r : RVd} : (endM C p R).rx r env = ∃ fs', env[0]? = some (some (.obj C p fs')) ∧ R r fs' := rfl
theorem q_exo {R : Fls → Prop} : (∃ fs', (some (some (SV.obj C p fs)) : Option (Option SV)) = some (some (.obj C p fs')) ∧ R fs') = R fs := propext ⟨fun ⟨_, e, h⟩ => by
  cases e
  exact h, fun h => ⟨fs, rfl, h⟩⟩
theorem q_exo2 {R : Fls → Prop} : (∃ fs', SV.obj C p fs = .obj C p fs' ∧ R fs') = R fs := propext ⟨fun ⟨_, e, h⟩ => by
  cases e
  exact h, fun h => ⟨fs, rfl, h⟩⟩
end
end Pd

set_option maxRecDepth 100000
set_option maxHeartbeats 4000000
/-! Walks over lists and tuples while an exception is handled. -/
namespace PySem
open HotX
section
variable {prog : Program} {w : World} {A : Around} {E : Value → Shared → Prop} {s : Shared}
theorem pd_list_end_hot {it l x1 : Addr} {i : Nat} {items : Array Value} {R : Option Value → Shared → Prop} (hot : HotAt A x1 s.heap) (hit : s.heap.IsListIter it l i) (hl : s.heap.IsList l items) (hx : items[i]? = none) (hxi : x1 ≠ it)
    (hR : ∀ h', (∀ b o, b ≠ it → s.heap.get? b = some o → h'.get? b = some o) → R none { s with heap := h' }) : wpAny (model prog w) A (pyNext (.ref it)) R E s := by
  obtain ⟨hh, q1, us, g1, g2, g3⟩ := hot
  obtain ⟨oi, hoi, hci, hdi⟩ := id hit
  obtain ⟨oL, hoL, _, nL, hdL⟩ := hl
  unfold pyNext
  refine wpAny_bind (wpAny_attempt (wpAny_callSpecial?_slot (name := Str.ofString "__next__") hit.typeIs slot_listiter_next (wpAny_call_entry slot_listiter_next hit.typeIs entry_listiter_next ?_ (args_listiter_next _))))
  show wpAny _ _ (field (.ref it) 0 >>= _) _ _ s
  refine wpAny_bind (wpAny_field hoi hdi (x := .ref l) rfl ?_)
  have nl : ¬ (Value.ref l == Value.none) = true := Bool.false_ne_true
  show wpAny _ _ (if (Value.ref l == Value.none) = true then _ else _) _ _ s
  rw [if_neg nl]
  show wpAny _ _ (field (.ref it) 1 >>= _) _ _ s
  refine wpAny_bind (wpAny_field hoi hdi (x := .int i 0) rfl (?_ : wpAny _ _ (seqItems? (.ref l) >>= _) _ _ s))
  refine wpAny_bind (wpAny_seqItems hoL hdL ?_)
  simp only [Int.toNat_natCast, hx]
  refine wpAny_bind (wpAny_rule (wpAny_bind (wpAny_setField hoi hdi (by simp) (?_ : wpAny _ _ (newExc (.type "StopIteration") [] >>= _) _ _ _))))
  refine wpAny_bind ?_
  simp only [newExc, newTuple]
  refine wpAny_bind (wpAny_newObj_type (wpAny_bind (m := firstArgMember _ _) (wpAny_of_eq (a := Value.none) (by first | rfl | (simp only [firstArgMember]; rfl)) (wpAny_newObj_type ?_ (by size_fits)))) (by size_fits))
  generalize hu : s.heap.update it _ = h1
  have sb : ∀ b o, b ≠ it → s.heap.get? b = some o → h1.get? b = some o := fun b o hb e => by
    rw [← hu]
    exact (Heap.SameBut.update ..).extBut b o hb e
  have gx := sb x1 q1 hxi g1
  refine raiseNew_hot ⟨hh, q1, us, Heap.get?_push_of_some _ (Heap.get?_push_of_some _ gx), g2, g3⟩ (Nat.ne_of_lt (Heap.lt_size (Heap.get?_push_of_some _ gx))) (Heap.get?_push_size _ rfl) rfl (by first | (simp; done) | (simp; omega) | (simp only [Array.size_append]; simp; omega)) ?_
  refine wpAny_bind (wpAny_isInstance (T := "StopIteration") (b := true) ⟨_, Heap.get?_update_self _ (Heap.get?_push_size _ rfl) rfl, rfl⟩ isSubtype_stop (wpAny_pure (hR _ fun b o hb e => ?_)))
  have e1 := sb b o hb e
  rw [Heap.get?_update_other _ _ (Nat.ne_of_gt (Heap.lt_size (Heap.get?_push_of_some _ e1)))]
  exact Heap.get?_push_of_some _ (Heap.get?_push_of_some _ e1)
theorem pd_tuple_end_hot {it t x1 : Addr} {i : Nat} {items : Array Value} {R : Option Value → Shared → Prop} (hot : HotAt A x1 s.heap) (hit : s.heap.IsTupleIter it t i) (ht : s.heap.IsTuple t items) (hx : items[i]? = none) (hxi : x1 ≠ it)
    (hR : ∀ h', (∀ b o, b ≠ it → s.heap.get? b = some o → h'.get? b = some o) → R none { s with heap := h' }) : wpAny (model prog w) A (pyNext (.ref it)) R E s := by
  obtain ⟨hh, q1, us, g1, g2, g3⟩ := hot
  obtain ⟨oi, hoi, hci, hdi⟩ := id hit
  obtain ⟨oL, hoL, _, nL, hdL⟩ := ht
  unfold pyNext
  refine wpAny_bind (wpAny_attempt (wpAny_callSpecial?_slot (name := Str.ofString "__next__") hit.typeIs F.slot_tuple_iterator_next (wpAny_call_entry F.slot_tuple_iterator_next hit.typeIs F.entry_tuple_iterator_next ?_ (F.args_tuple_iterator_next_1 _))))
  show wpAny _ _ (field (.ref it) 0 >>= _) _ _ s
  refine wpAny_bind (wpAny_field hoi hdi (x := .ref t) rfl ?_)
  have nl : ¬ (Value.ref t == Value.none) = true := Bool.false_ne_true
  show wpAny _ _ (if (Value.ref t == Value.none) = true then _ else _) _ _ s
  rw [if_neg nl]
  show wpAny _ _ (field (.ref it) 1 >>= _) _ _ s
  refine wpAny_bind (wpAny_field hoi hdi (x := .int i 0) rfl (?_ : wpAny _ _ (seqItems? (.ref t) >>= _) _ _ s))
  refine wpAny_bind (wpAny_seqItems hoL hdL ?_)
  simp only [Int.toNat_natCast, hx]
  refine wpAny_bind (wpAny_rule (wpAny_bind (wpAny_setField hoi hdi (by simp) (?_ : wpAny _ _ (newExc (.type "StopIteration") [] >>= _) _ _ _))))
  refine wpAny_bind ?_
  simp only [newExc, newTuple]
  refine wpAny_bind (wpAny_newObj_type (wpAny_bind (m := firstArgMember _ _) (wpAny_of_eq (a := Value.none) (by first | rfl | (simp only [firstArgMember]; rfl)) (wpAny_newObj_type ?_ (by size_fits)))) (by size_fits))
  generalize hu : s.heap.update it _ = h1
  have sb : ∀ b o, b ≠ it → s.heap.get? b = some o → h1.get? b = some o := fun b o hb e => by
    rw [← hu]
    exact (Heap.SameBut.update ..).extBut b o hb e
  have gx := sb x1 q1 hxi g1
  refine raiseNew_hot ⟨hh, q1, us, Heap.get?_push_of_some _ (Heap.get?_push_of_some _ gx), g2, g3⟩ (Nat.ne_of_lt (Heap.lt_size (Heap.get?_push_of_some _ gx))) (Heap.get?_push_size _ rfl) rfl (by first | (simp; done) | (simp; omega) | (simp only [Array.size_append]; simp; omega)) ?_
  refine wpAny_bind (wpAny_isInstance (T := "StopIteration") (b := true) ⟨_, Heap.get?_update_self _ (Heap.get?_push_size _ rfl) rfl, rfl⟩ isSubtype_stop (wpAny_pure (hR _ fun b o hb e => ?_)))
  have e1 := sb b o hb e
  rw [Heap.get?_update_other _ _ (Nat.ne_of_gt (Heap.lt_size (Heap.get?_push_of_some _ e1)))]
  exact Heap.get?_push_of_some _ (Heap.get?_push_of_some _ e1)
theorem pd_unpack_hot {t x1 : Addr} {items : Array Value} {targets : List (Bool × (Value → Sem Unit))} {Q : Unit → Shared → Prop} (hot : HotAt A x1 s.heap) (ht : s.heap.IsTuple t items) (hn : targets.length = items.size) (hstar : targets.findIdx? (·.1) = none)
    (h : ∀ h', (∀ b o, s.heap.get? b = some o → h'.get? b = some o) → wpAny (model prog w) A (assignInOrder (targets.map (·.2)) items.toList) Q E { s with heap := h' }) : wpAny (model prog w) A (unpack (.ref t) targets) Q E s := by
  have hlt : t ≠ s.heap.objs.size := by
    obtain ⟨o, ho, _⟩ := ht
    exact Nat.ne_of_lt (Heap.lt_size ho)
  obtain ⟨hh, q1, us, g1, g2, g3⟩ := hot
  have hx1 : x1 ≠ s.heap.objs.size := Nat.ne_of_lt (Heap.lt_size g1)
  unfold unpack
  rw [hn, hstar]
  refine wpAny_bind (wpAny_holding ?_)
  unfold unpackItems
  refine wpAny_bind ?_
  unfold notIterableAtAll
  refine wpAny_bind (wpAny_specialOf ht.typeIs F.slot_tuple_iter.lookup (wpAny_pure ?_))
  simp only [Bool.false_eq_true, if_false]
  refine wpAny_bind (wpAny_holding (wpAny_pyIter_tuple ht (wpAny_bind (wpAny_holding (wpAny_draw_tuple hlt items.size 0 _ _ ⟨_, Heap.get?_push_size _ rfl, rfl, rfl⟩ (ht.push _) (by omega) fun h₁ hit₁ hs₁ => ?_)))))
  rw [List.drop_zero, List.take_of_length_le (by simp), if_neg (by simp)]
  have ht₁ : h₁.IsTuple t items := (ht.push _).extBut hs₁.extBut hlt
  have g4 : h₁.get? x1 = some q1 := hs₁.extBut x1 q1 hx1 (Heap.get?_push_of_some _ g1)
  refine wpAny_bind (wpAny_holding (pd_tuple_end_hot (s := { s with heap := h₁ }) ⟨hh, q1, us, g4, g2, g3⟩ hit₁ ht₁ (by simp) hx1 fun h₂ he₂ => ?_))
  simp only [Option.isSome_none, Bool.false_eq_true, if_false]
  exact wpAny_pure (h h₂ fun b o e => he₂ b o (Nat.ne_of_lt (Heap.lt_size e)) (hs₁.extBut b o (Nat.ne_of_lt (Heap.lt_size e)) (Heap.get?_push_of_some _ e)))
end
end PySem

set_option maxRecDepth 100000
set_option maxHeartbeats 4000000
/-! A list comprehension over a list of tuples while an exception is handled. -/
namespace L2
open PySem PySem.Spec PyProof.Rows HotX
theorem kept_hot {X : Cx} {pins : List (Addr × Obj)} {σ : St} {H : Hp} {s : Shared} {x1 : Addr} (I : Inv X pins σ H s) (h0 : X.H_0 x1 = none) (hfr : x1 ∉ frs X.outer) (hx : x1 ∉ X.ex) (hot : HotAt X.A x1 X.s_0.heap) : HotAt X.A x1 s.heap := by
  obtain ⟨hh, o, vs, e, d, c⟩ := hot
  exact ⟨hh, o, vs, I.base.keep x1 o e h0 hfr hx, d, c⟩
section
variable {X : Cx}
theorem lc_hot {pins : List (Addr × Obj)} {s : Shared} {σ : St} {H : Hp} {Q : VK} {elt iter : Expr} {es : List Expr} {k n : Nat} {tp : Pos} {ifs : List Expr} {scope : Scope} {own : List (Str × Nat)} {pos : Pos} {ti : TE} {gs : TGs} {tt : TT} {te : TE} {x1 : Addr}
    (hN : X.N.Nodup) (I : Inv X pins σ H s) (hot : HotAt X.A x1 s.heap) (h1 : ∀ H' s', Inv X pins σ H' s' → H' x1 = none ∧ HotAt X.A x1 s'.heap) (hfr : x1 ∉ frs X.stack) (hi : PE X iter ti) (ok : BlkOk X.N X.env.scope scope own)
    (hg : ∀ (s : Shared) (H : Hp) (C : Addr) (cl : List (Str × Addr)) (fp : List Addr), PGs (X.blk s H scope (compEnvC scope cl C X.env) fp) es gs)
    (hlen : ∀ cl C, (assignEach es (compEnvC scope cl C X.env)).length = n) (hst : ∀ cl C, (assignEach es (compEnvC scope cl C X.env)).findIdx? (·.1) = none)
    (ht : ∀ (s : Shared) (H : Hp) (C : Addr) (cl : List (Str × Addr)) (fp : List Addr), PTs (X.blk s H scope (compEnvC scope cl C X.env) fp) ifs tt)
    (he : ∀ (s : Shared) (H : Hp) (C : Addr) (cl : List (Str × Addr)) (fp : List Addr), PE (X.blk s H scope (compEnvC scope cl C X.env) fp) elt te) (hs : ∀ x, foldedSetIterable iter X.env x = pure x)
    (h : tLc (iList X.K ti) (gTup X.K n gs) tt te (own.map (·.2)) σ H Q) : wpAny (model X.prog X.w) X.A (eval (.ListComp elt [⟨.Tuple es k tp, iter, ifs, 0⟩] scope pos) X.env) (EP X pins σ Q) X.xe s := by
  have free : ∀ y ∈ scope.names, y.2 = .free → ∃ c, X.env.cells.lookup y.1 = some c := fun y hy e => (ok.free y hy e).elim (fun z => I.ok.has _ (.inl z)) fun z => I.ok.has _ (.inr z)
  rw [eval_ListComp]
  refine wpAny_comprehension_free (use := none) rfl hs (closure_ok free) ok.kind (fun y hy e => by rw [ok.uniq y hy, e]) (thn (hi.run pins s σ H _ I h) fun xv s1 hx => ?_)
  obtain ⟨x, H1, I1, rx, a, ex, ⟨xs, hq⟩, q⟩ := hx
  subst ex
  cases rx
  obtain ⟨its, rv, p, hz⟩ := I1.list hq
  refine wpAny_pyIter_list p.isList ?_
  obtain ⟨s2, hs2⟩ : ∃ s2 : Shared, s2 = { s1 with heap := s1.heap.push { cls := .type "list_iterator", data := .fields #[.ref a, .int 0 0] } } := ⟨_, rfl⟩
  rw [← hs2]
  have st2 : s2.heap.IsListIter s1.heap.objs.size a 0 := by
    rw [hs2]
    exact ⟨_, Heap.get?_push_size _ rfl, rfl, rfl⟩
  have lt2 : s1.heap.objs.size < s2.heap.objs.size := by
    rw [hs2, Heap.size_push]
    exact Nat.lt_succ_self _
  have f2 : FpOk X pins H1 s1.heap.objs.size := I1.fpOk (Nat.le_refl _) (I1.hok.fresh (Nat.le_refl _))
  have xlt : x1 < s1.heap.objs.size := by
    obtain ⟨_, _, o, vs, e, _⟩ := h1 H1 s1 I1
    exact Heap.lt_size e
  have I2 : Inv X pins σ H1 s2 := by
    rw [hs2]
    exact I1.kept (t' := s1.toks) fun b o e => Heap.get?_push_of_some _ e
  clear hs2
  generalize s1.heap.objs.size = it at st2 lt2 f2 xlt ⊢
  have xit : x1 ≠ it := Nat.ne_of_lt xlt
  refine wpAny_newObj_type (newEnv_comp ?_) (by show 0 ≤ sizeLine; decide)
  have hD : H1 s2.heap.objs.size = none := I2.hok.fresh (Nat.le_refl _)
  obtain ⟨W, ⟨m0, w0⟩, turn⟩ := q _ hD
  generalize hs3 : ({ s2 with heap := s2.heap.push { cls := .type "list", data := .seq #[] } } : Shared) = s3
  have kp3 : ∀ b o, s2.heap.get? b = some o → s3.heap.get? b = some o := fun b o e => by
    rw [← hs3]
    exact Heap.get?_push_of_some _ e
  have I3 : Inv X pins σ (upd H1 s2.heap.objs.size (.lst [])) s3 := by
    rw [← hs3]
    exact I2.laid (t' := s2.toks) (fun b o e => Heap.get?_push_of_some _ e) (Nat.le_refl _) ⟨Nat.zero_le _, [], 0, .nil, Heap.get?_push_size _ rfl⟩
  have lt3 : it < s3.heap.objs.size := by
    rw [← hs3, Heap.size_push]
    exact Nat.lt_succ_of_lt lt2
  have st3 : s3.heap.IsListIter it a 0 := st2.at fun o e => kp3 it o e
  have f3 : ∀ b ∈ [it], FpOk X pins (upd H1 s2.heap.objs.size (.lst [])) b ∧ b < s3.heap.objs.size := fun b hb => by
    rw [List.mem_singleton.mp hb]
    refine ⟨⟨?_, f2.2⟩, lt3⟩
    rw [upd_ne (Nat.ne_of_lt lt2)]
    exact f2.1
  obtain ⟨xn3, hot3⟩ := h1 _ _ I3
  clear hs3
  generalize s2.heap.objs.size = D at *
  generalize hH3 : upd H1 D (.lst []) = H3 at *
  have I4 := block_start I3 ok hN f3
  show codeAny _ _ (.compStart (.ListComp elt [⟨.Tuple es k tp, iter, ifs, 0⟩] scope pos) 0 (.ref it) (.ref D) (compEnvC scope (cellsFrom (s3.heap.objs.size + 1) scope.names (cloFrom X.env.cells scope.names [])) s3.heap.objs.size X.env)) (compPost (model X.prog X.w) X.A X.xe none (EP X pins σ Q) (.ref D) s3.heap.objs.size) { s3 with heap := pushCells (s3.heap.push { cls := .type "dict", data := .dict #[] }) scope.names }
  generalize hcl : cellsFrom (s3.heap.objs.size + 1) scope.names (cloFrom X.env.cells scope.names []) = cl at I4 ⊢
  have pgs := hg s3 H3 s3.heap.objs.size cl [it]
  have pt := ht s3 H3 s3.heap.objs.size cl [it]
  have pe := he s3 H3 s3.heap.objs.size cl [it]
  have hl4 := hlen cl s3.heap.objs.size
  have hs4 := hst cl s3.heap.objs.size
  generalize hce : compEnvC scope cl s3.heap.objs.size X.env = ce at I4 pgs pt pe hl4 hs4 ⊢
  have cL : ce.locals = s3.heap.objs.size := by subst hce; rfl
  have kp4 : ∀ b o, s3.heap.get? b = some o → ({ s3 with heap := pushCells (s3.heap.push { cls := .type "dict", data := .dict #[] }) scope.names } : Shared).heap.get? b = some o := fun b o e => pushCells_keeps _ _ _ _ (Heap.get?_push_of_some _ e)
  generalize ({ s3 with heap := pushCells (s3.heap.push { cls := .type "dict", data := .dict #[] }) scope.names } : Shared) = s4 at I4 kp4 ⊢
  have st4 : s4.heap.IsListIter it a 0 := st3.at fun o e => kp4 it o e
  have nit : H3 it = none := (f3 it (List.mem_singleton.mpr rfl)).1.1
  have inB : ∀ {σ' : St} {H' : Hp} {s' : Shared}, Inv (X.blk s3 H3 scope ce [it]) [] σ' H' s' → H' it = none → ∀ b ∈ [it], FpOk (X.blk s3 H3 scope ce [it]) [] H' b := fun {σ' H' s'} J hn b hb => by
    refine ⟨?_, (J.ok.exf b hb).1, J.ok.exfs b hb, .inl hb, fun y c e => (J.ok.exf b hb).2 y c e, fun r hr => absurd (show r ∈ ([] : List (Addr × Obj)) ++ [] from hr) (by simp)⟩
    rw [List.mem_singleton.mp hb]
    exact hn
  have hotB : ∀ {pn : List (Addr × Obj)} {σ' : St} {H' : Hp} {s' : Shared}, Inv (X.blk s3 H3 scope ce [it]) pn σ' H' s' → HotAt X.A x1 s'.heap := fun {pn σ' H' s'} J => kept_hot (X := X.blk s3 H3 scope ce [it]) J xn3 hfr (fun z => xit (List.mem_singleton.mp z)) hot3
  have loop : codeAny (model X.prog X.w) X.A (.compLoop (.ListComp elt [⟨.Tuple es k tp, iter, ifs, 0⟩] scope pos) 0 (.ref it) (.ref D) ce) (compPost (model X.prog X.w) X.A X.xe none (EP X pins σ Q) (.ref D) s3.heap.objs.size) s4 := by
    refine compLoop_any (fun m s' => ∃ i H', Inv (X.blk s3 H3 scope ce [it]) [] (wipe σ (own.map (·.2))) H' s' ∧ s'.heap.IsListIter it a i ∧ H' it = none ∧ W i m H') ?_ m0 ⟨0, H3, I4, st4, nit, w0⟩
    rintro m s5 ⟨i, H5, I5, st5, n5, w5⟩
    obtain ⟨f0, fa, fb, fc, fd, fe⟩ := inB I5 n5 it (List.mem_singleton.mpr rfl)
    rcases turn i m H5 w5 with ⟨⟨ys, hys, hle⟩, qq⟩ | ⟨⟨ys, y, hys, hy⟩, Nx, hNx, step⟩
    · obtain ⟨js, rj, pj, _⟩ := I5.list hys
      have hl := rj.length
      refine pd_list_end_hot (hotB I5) st5 pj.isList (by simp; omega) xit fun h' eb => ?_
      have I6 : Inv (X.blk s3 H3 scope ce [it]) [] (wipe σ (own.map (·.2))) H5 { s5 with heap := h' } := I5.turned (t' := s5.toks) (fun b o hb e => eb b o hb e) f0 fa fc fd fe
      have I7 : Inv X pins σ H5 { s5 with heap := h' } := I3.call' (ch := [it]) I6.os I6.base I6.hok I6.bare fun b hb => by
        have z := (f3 b hb).1
        exact ⟨z.2.2.2.1, z.2.1, z.2.2.2.2.1, z.2.2.2.2.2⟩
      have nC : H5 s3.heap.objs.size = none := by
        rw [← cL]
        exact I6.free
      obtain ⟨mm, hn, _⟩ := I6.loc
      rw [show (X.blk s3 H3 scope ce [it]).env.locals = s3.heap.objs.size from cL] at hn
      obtain ⟨g0, g1, g2, g3, g4, g5⟩ := I3.fpOk (Nat.le_refl _) nC
      exact ⟨mm, hn, fun h'' sb => ⟨.ref D, H5, I7.turned (t' := s5.toks) (fun b o hb e => (sb.2 b hb).trans e) g0 g1 g3 g4 g5, rfl, qq⟩⟩
    · obtain ⟨js, rj, pj, _⟩ := I5.list hys
      obtain ⟨u, hu, ru⟩ := rj.get hy
      refine wpAny_pyNext_list_item st5 pj.isList (x := u) (by simpa using hu) fun h' st6 sb => ?_
      have I6 : Inv (X.blk s3 H3 scope ce [it]) [] (wipe σ (own.map (·.2))) H5 { s5 with heap := h' } := I5.turned (t' := s5.toks) (fun b o hb e => (sb.2 b hb).trans e) f0 fa fc fd fe
      obtain ⟨oi, e6, c6, d6⟩ := id st6
      refine go_of (s := { s5 with heap := h' }) e6 c6 d6 (by decide) ?_
      have I7 := I6.pinned (inB I6 n5) (fun b hb => ⟨oi, by rw [List.mem_singleton.mp hb]; exact e6, fun v z => by rw [d6] at z; cases z⟩)
      obtain ⟨t, zs, et, hq2, hl2, q2⟩ := step y H5 ⟨rfl, fun ys' hy' => by rw [I5.list_inj hy' hys]; exact hy⟩
      subst et
      cases ru
      obtain ⟨ks, rk, pk, _⟩ := I7.tuple hq2
      rw [arm_assign_Tuple]
      refine wpAny_bind (wpAny_standAt (pd_unpack_hot (hotB I7) pk (by simp [hl4, ← hl2, rk.length]) hs4 fun h8 hx8 => ?_))
      have I8 : Inv (X.blk s3 H3 scope ce [it]) _ (wipe σ (own.map (·.2))) H5 { s5 with heap := h8 } := I7.kept (t' := s5.toks) fun b o e => hx8 b o e
      refine thnF (pgs.run _ { s5 with heap := h8 } _ H5 zs _ _ I8 (by simpa using rk) q2) fun _ s9 ⟨σ9, H9, I9, hw9, q9⟩ => ?_
      refine thnF (pt.run _ s9 σ9 H9 _ I9 q9) fun b sA ⟨HA, IA, qA⟩ => ?_
      have back : ∀ {s' : Shared} {H' : Hp}, Inv (X.blk s3 H3 scope ce [it]) ([] ++ pinsAt [it] h') σ9 H' s' → Nx H' → ∃ m', m' < m ∧ ∃ i H', Inv (X.blk s3 H3 scope ce [it]) [] (wipe σ (own.map (·.2))) H' s' ∧ s'.heap.IsListIter it a i ∧ H' it = none ∧ W i m' H' := fun {s' H'} J nx => by
        obtain ⟨m', hm, w'⟩ := hNx H' nx
        have z := J.pin (it, oi) (List.mem_append_right _ (List.mem_append_right _ (mem_pinsAt (List.mem_singleton.mpr rfl) e6)))
        have hl9 : (wipe σ (own.map (·.2))).length = σ9.length := by rw [← hw9, wipe_length]
        refine ⟨m', hm, i + 1, H', (J.unpinned (pins := [])).weak hl9 (fun j v e => ?_), ⟨oi, z.1, c6, d6⟩, z.2.1, w'⟩
        rw [← hw9] at e
        exact (wipe_some e).1
      cases b with
      | false =>
        simp only [Bool.false_eq_true, if_false] at qA ⊢
        exact back IA qA
      | true =>
        simp only [if_true] at qA ⊢
        refine thnF (pe.run _ sA σ9 HA _ IA qA) fun z sB ⟨yv, HB, IB, rB, acc, hDB, hzB, nx⟩ => ?_
        exact app_ok (X := X.blk s3 H3 scope ce [it]) IB hDB hzB rB fun sC IC => back IC nx
  exact codeAny_compStart_list loop (wpAny_pyIter_listiter st4 loop)
end
end L2

set_option maxRecDepth 100000
set_option maxHeartbeats 4000000
/-! try with two clauses that bear a name; own exceptions without arguments; comprehensions in a clause. -/
namespace L2
open PySem PySem.Spec PyProof.Rows HotX L2N L2H
theorem hot_of {X : Cx} (hc : HotC X) (hs : X.stack = X.env :: X.outer) (hf : X.env.frame = some X.env.locals) : ∃ x1, ∀ {pins : List (Addr × Obj)} {σ : L2.St} {H : Hp} {s : Shared}, Inv X pins σ H s → H x1 = none ∧ HotAt X.A x1 s.heap ∧ x1 ∉ frs X.stack := by
  obtain ⟨p, ⟨hh, v1, e1, c1⟩, hp⟩ := hc
  refine ⟨p.1, fun {pins σ H s} I => ?_⟩
  obtain ⟨z1, z2, z3, z4, _⟩ := I.pin p (List.mem_append_left _ hp)
  refine ⟨z2, ⟨hh, p.2, v1, z1, e1, c1⟩, fun hm => ?_⟩
  rw [hs] at hm
  obtain ⟨e, he, q⟩ := List.mem_filterMap.mp hm
  rcases List.mem_cons.mp he with rfl | he
  · rw [hf] at q
    exact z3 (Option.some.inj q).symm
  · exact z4 (List.mem_filterMap.mpr ⟨e, he, q⟩)
theorem pe_lcH {X : Cx} {elt iter : Expr} {es : List Expr} {k n : Nat} {tp : Pos} {ifs : List Expr} {scope : Scope} {own : List (Str × Nat)} {pos : Pos} {ti : TE} {gs : TGs} {tt : TT} {te : TE} (hc : HotC X) (hst0 : X.stack = X.env :: X.outer) (hf0 : X.env.frame = some X.env.locals)
    (hN : X.N.Nodup) (hi : PE X iter ti) (ok : BlkOk X.N X.env.scope scope own) (hg : ∀ (s : Shared) (H : Hp) (C : Addr) (cl : List (Str × Addr)) (fp : List Addr), PGs (X.blk s H scope (compEnvC scope cl C X.env) fp) es gs)
    (ht : ∀ (s : Shared) (H : Hp) (C : Addr) (cl : List (Str × Addr)) (fp : List Addr), PTs (X.blk s H scope (compEnvC scope cl C X.env) fp) ifs tt) (he : ∀ (s : Shared) (H : Hp) (C : Addr) (cl : List (Str × Addr)) (fp : List Addr), PE (X.blk s H scope (compEnvC scope cl C X.env) fp) elt te)
    (hlen : ∀ cl C, (assignEach es (compEnvC scope cl C X.env)).length = n := by intro _ _; rfl) (hst : ∀ cl C, (assignEach es (compEnvC scope cl C X.env)).findIdx? (·.1) = none := by intro _ _; rfl) (hs : ∀ x, foldedSetIterable iter X.env x = pure x := by intro _; rfl) :
    PE X (.ListComp elt [⟨.Tuple es k tp, iter, ifs, 0⟩] scope pos) (tLc (iList X.K ti) (gTup X.K n gs) tt te (own.map (·.2))) := by
  obtain ⟨x1, hot⟩ := hot_of hc hst0 hf0
  exact ⟨fun pins s σ H Q I h => lc_hot hN I (hot I).2.1 (fun H' s' I' => ⟨(hot I').1, (hot I').2.1⟩) (hot I).2.2 hi ok hg hlen hst ht he hs h⟩
section
variable {X : Cx} {x1 x2 n : Str} {c1 c2 : Value} {i : Nat} {body suite1 suite2 : List Stmt} {b1 b2 : Stmt} {np1 np2 pos pos1 pos2 : Pos} {tb : WX → TS} {ts1 ts2 : Addr → Value → Option Addr → TS}
/-- try: body / except x1 as n: .. / except x2 as n: .. (nothing else leaves) -/
theorem ps_try2 (hs : X.stack = X.env :: X.outer) (hf : X.env.frame = some X.env.locals) (hN : X.N.Nodup) (hi : X.N[i]? = some n) (hln : X.env.kindOf n = some .local) (hc1 : Names X x1 c1) (hc2 : Names X x2 c2)
    (hb : ∀ (W : WX) (pn : List (Addr × Obj)) (xe : Value → Shared → Prop), L2N.Takes (X.tr pn xe) W → PassesOwn (model X.prog X.w) X.A X.env xe → PSs (X.tr pn xe) body (tb W))
    (hsu1 : ∀ (a : Addr) (oe : Obj) (cls : Value) (d : Option Addr) (pn : List (Addr × Obj)), Zn cls d oe → (∃ vs, oe.data = .fields vs) → PSs (X.suite a ((a, oe) :: pn)) (b1 :: suite1) (ts1 a cls d))
    (hsu2 : ∀ (a : Addr) (oe : Obj) (cls : Value) (d : Option Addr) (pn : List (Addr × Obj)), Zn cls d oe → (∃ vs, oe.data = .fields vs) → PSs (X.suite a ((a, oe) :: pn)) (b2 :: suite2) (ts2 a cls d)) :
    PS X (.Try body [.ExceptHandler (some (.Name x1 np1)) (some n) (b1 :: suite1) pos1, .ExceptHandler (some (.Name x2 np2)) (some n) (b2 :: suite2) pos2] [] [] pos)
      (fun D σ H => tb (wAs X.K c1 i ts1 (wAs X.K c2 i ts2 (fun _ _ _ _ => False) D) D) D σ H) := by
  refine ⟨fun pins s σ H D I h => wpAny_Try_except ?_⟩
  have ok := I.ok
  have hfr : X.A.frames = some (X.env :: X.outer) := by rw [ok.frames, hs]
  refine wpAny_mono ((hb _ (X.pn ++ pins) (fun e s₁ => wpAny (model X.prog X.w) X.A (noteFrame e X.env) (fun _ s₂ => wpAny (model X.prog X.w) X.A (setFlight e none) (fun _ s₃ => wpAny (model X.prog X.w) X.A (handleBy e X.env [.ExceptHandler (some (.Name x1 np1)) (some n) (b1 :: suite1) pos1, .ExceptHandler (some (.Name x2 np2)) (some n) (b2 :: suite2) pos2]) (SP X pins D) X.xe s₃) X.xe s₂) X.xe s₁) (fun u s' xx => ?_) PassesOwn.looking).run [] s σ H D (I.toTry _) h) (fun f s1 hsp => ?_) (fun e s1 he => he)
  · obtain ⟨a, B, sI, pins', σ', H', cls, d, rfl, J', nb, up, sky, na, os, ag, ww⟩ := xx
    have J : Inv X pins σ' H' sI := J'.ofTry ok
    rw [hs] at sky
    show wpAny (model X.prog X.w) X.A (noteFrame (.ref a) X.env) _ _ _
    refine L2N.Sky.land Zn.steady hfr hf sky fun h3 fl3 up3 => ?_
    have J3 : Inv X pins σ' H' { s' with heap := h3 } := J.landed nb fl3.1 (up.trans up3) os ag
    obtain ⟨o3, us3, he3, hz3, hd3⟩ := fl3.there
    have nfr : a ∉ frs (X.env :: X.outer) := fun hm => by
      obtain ⟨_, o', e', hnf⟩ := fl3.2.2.1.mem hm
      rw [he3] at e'
      cases e'
      exact hnf _ hd3
    have nL : a ≠ X.env.locals := fun z => nfr (List.mem_filterMap.mpr ⟨X.env, List.mem_cons_self, by rw [hf, z]⟩)
    have nF : a ∉ X.fs := fun hm => by
      obtain ⟨e, he, q⟩ := List.mem_filterMap.mp hm
      exact nfr (List.mem_filterMap.mpr ⟨e, List.mem_cons_of_mem _ he, q⟩)
    have S3 := J3.suite he3 hd3 na nL nF
    have LT : PySem.W.Looks (model X.prog X.w) h3 (typeOf (.ref a)) cls := fun A Q E s k q => wpAny_typeOf_ref (k _ _ he3) (by rw [hz3.1]; exact q)
    -- one clause, and what follows it
    have one : ∀ {x : Str} {c : Value} {np ps : Pos} {b₀ : Stmt} {suite : List Stmt} {ts : Addr → Value → Option Addr → TS} {rest : List ExceptHandler} {N : Prop}, Names X x c →
        (∀ (a : Addr) (oe : Obj) (cls : Value) (d : Option Addr) (pn : List (Addr × Obj)), Zn cls d oe → (∃ vs, oe.data = .fields vs) → PSs (X.suite a ((a, oe) :: pn)) (b₀ :: suite) (ts a cls d)) →
        (∃ b, PySem.W.exmOne X.K cls c = some b ∧ (b = true → ∀ a, H' a = none → ts a cls d { nx := fun σ' H' => D.nx (σ'.set i none) H', rt := D.rt, bk := fun σ' H' => D.bk (σ'.set i none) H', ct := fun σ' H' => D.ct (σ'.set i none) H' } (σ'.set i (some (.ref a))) H') ∧ (b = false → N)) →
        (N → wpAny (model X.prog X.w) X.A (handleBy (.ref a) X.env rest) (SP X pins D) X.xe { s' with heap := h3 }) →
        wpAny (model X.prog X.w) X.A (handleBy (.ref a) X.env (.ExceptHandler (some (.Name x np)) (some n) (b₀ :: suite) ps :: rest)) (SP X pins D) X.xe { s' with heap := h3 } := by
      rintro x c np ps b₀ suite ts rest N ⟨hg, hdbg, hm⟩ hsu ⟨b, hb1, hyes, hno⟩ next
      refine wpAny_handleBy_cons (codeAny_handlers_test ?_) (fun q => by cases q)
      have LM := PySem.W.exm_one (M := model X.prog X.w) J3.kIn LT hb1
      have test : ∀ {Q : Value → Shared → Prop} {E : Value → Shared → Prop}, Q c { s' with heap := h3 } → wpAny (model X.prog X.w) (X.A.mark (some (.ref a))) (eval (.Name x np) X.env) Q E { s' with heap := h3 } := fun {Q E} q => by
        rcases hm with hm | ⟨hm, hv, hnn⟩
        · exact ld_glob (X := X.suite a ((a, o3) :: (X.pn ++ pins))) S3 hg hm q hdbg
        · exact ld_blt (X := X.suite a ((a, o3) :: (X.pn ++ pins))) S3 hg hm hv q hnn hdbg
      refine test (LM.here ?_)
      cases b with
      | false => exact next (hno rfl)
      | true =>
        refine codeAny_handlers_suite_as (HandSPX.lands_againZ fl3 fun h4 fl4 up4 => ?_)
        have J4 : Inv X pins σ' H' { s' with heap := h4 } := J.landed nb fl4.1 ((up.trans up3).trans up4) os ag
        obtain ⟨o4, us4, he4, hz4, hd4⟩ := fl4.there
        refine store_ok (X := X.suite a ((a, o4) :: (X.pn ++ pins))) (v := .ref a) (J4.suite he4 hd4 na nL nF) hN hi (.inl hln) rfl (fun s5 S5 => ?_) (.inr hln)
        refine wpAny_mono ((hsu a o4 cls d (X.pn ++ pins) hz4 ⟨_, hd4⟩).run [] s5 _ H' _ S5 (hyes rfl a na)) (fun f s6 hsp => ?_) (fun _ _ z => False.elim z)
        have off : ∀ {σ6 : L2.St} {H6 : Hp} {R : Shared → Prop}, Inv (X.suite a ((a, o4) :: (X.pn ++ pins))) [] σ6 H6 s6 → (∀ s7, Inv X pins (σ6.set i none) H6 s7 → R s7) → wpAny (model X.prog X.w) X.A (do bindName X.env n .none; unbindBehindTheSuite X.env n ps) (fun _ s7 => R s7) X.xe s6 := fun {σ6 H6 R} S6 hq => gone_ok (S6.unsuite ok) hN hi hln hq
        cases f with
        | ret u =>
          obtain ⟨v6, σ6, H6, S6, r6, q6⟩ := hsp
          exact off S6 fun s7 J7 => ⟨v6, _, _, J7, r6, q6⟩
        | _ =>
          obtain ⟨σ6, H6, S6, q6⟩ := hsp
          exact off S6 fun s7 J7 => ⟨_, _, J7, q6⟩
    exact one hc1 hsu1 ww fun w2 => one hc2 hsu2 w2 fun z => z.elim
  · cases f with
    | next =>
      obtain ⟨σ', H', J', q⟩ := hsp
      exact wpAny_execs_nil ⟨σ', H', J'.ofTry ok, q⟩
    | ret u =>
      obtain ⟨v, σ', H', J', r, q⟩ := hsp
      exact ⟨v, σ', H', J'.ofTry ok, r, q⟩
    | _ =>
      obtain ⟨σ', H', J', q⟩ := hsp
      exact ⟨σ', H', J'.ofTry ok, q⟩
end
section
variable {X : Cx} {C : Addr} {bmB : List Value} {B newId initId : String}
/-- X() -/
theorem pmk_own0 {x : Str} {p pos : Pos} (F : ExcBaseFacts B newId initId bmB) (q : PySem.W.excIn X.K C bmB newId = true) (gC : X.mg x = some (.ref C)) (kC : PySem.W.keepIn X.K (.ref C) = true) (r : Raises X (.ref C)) (hg : Gl X x) (hdb : (x == ("__debug__" : Str)) = false := by decide) :
    L2N.PMk X (.Call (.Name x p) [] [] pos) (fun _ H Q => Q (.ref C) none H) := by
  intro pins s σ H Q I h
  refine wpAny_Call_Name_kw (ld_glob I hg gC (PySem.W.callWith_K0 I.kIn kC ?_) hdb)
  show wpAny _ _ (call (.ref C) []) _ _ _
  obtain ⟨bm, N, nm, qn, bs, hdct, sn, sub, ab, col, dd, k0, k1, k2, k3, k5, mN, hC, hN, hni, T⟩ := exc_obj I.kIn q
  exact wpAny_call_exc_subT F T hC hN hni (fun h' e hm => L2N.mk_of I hm r h (I.hok.gone hm.new)) (by show 0 ≤ sizeLine; exact Nat.zero_le _)
end
end L2

set_option maxRecDepth 100000
set_option maxHeartbeats 4000000
/-! A lambda with parameters: made (its object is tracked from then on), called. -/
namespace L2
open PySem PySem.Spec PyProof.Rows HotX L2N LamX
/-- the object at f is a def's -/
def LamO (f : Addr) (ob : Obj) : HO := .ext fun h => h.get? f = some ob
section
variable {X : Cx} {pins : List (Addr × Obj)} {σ : L2.St} {H : Hp} {s : Shared}
/-- what stands behind the making: the table as it was or longer by one, the code object, the def's object -/
def Lamed (H : Hp) (P : Addr) (q : Str) (f c' : Addr) (ob : Obj) (H1 : Hp) : Prop :=
  H f = none ∧ ((H c' = some (CodeO c' q) ∧ H1 = upd H f (LamO f ob)) ∨
    ∃ ps more, H P = some (.tbl ps) ∧ H c' = none ∧ f ≠ c' ∧ P ≠ c' ∧ P ≠ f ∧ H1 = upd (upd (upd H P (.tbl (ps ++ more))) c' (CodeO c' q)) f (LamO f ob) ∧ TriplesOk (ps ++ more).toList ∧ ∀ pos cv, codeAmong pos (ps ++ more).toList = some cv → codeAmong pos ps.toList = some cv ∨ cv = .ref c')
theorem lamO_ok {f : Addr} {ob : Obj} {H' : Hp} {h : Heap} (e : h.get? f = some ob) : ObjOk X.prog X.w H' h f (LamO f ob) := ⟨e, ⟨ob, e⟩, fun h1 h2 a st => st ob a⟩
theorem lam_made {c P : Addr} {params : Arguments} {body : Expr} {scope : Scope} {pos : Pos} {E : Value → Shared → Prop} {R : Value → Shared → Prop} (I : Inv X pins σ H s) (TB : TabB X.base X.mg c P) (hcode : X.env.code = .ref c) (hT : TabS H P (X.env.qual ++ "<lambda>"))
    (hdef : defaultsOf params X.env = ([], [])) (hfree : ∀ y ∈ scope.names, y.2 = .free → ∃ c, X.env.cells.lookup y.1 = some c)
    (h : ∀ (f c' : Addr) (pm ctv : Value) (H1 : Hp) (s' : Shared), Inv X pins σ H1 s' → Lamed H P (X.env.qual ++ "<lambda>") f c' (PySem.W.kla_obj "<lambda>" (X.env.qual ++ "<lambda>") params body scope (cloFrom X.env.cells scope.names []) pm c' ctv) H1 → R (.ref f) s') :
    wpAny (model X.prog X.w) X.A (eval (.Lambda params body scope pos) X.env) R E s := by
  obtain ⟨ps, hP, ht, ha⟩ := hT
  refine PySem.W.kla_eval hdef ?_
  have bP : s.heap.BuiltinsAt X.mg P := TB.bm.keeps I.bk
  have gP : s.heap.get? P = some { cls := .none, data := .fields ps } := I.hok P _ hP
  cases hc : codeAmong pos ps.toList with
  | some cv =>
    obtain ⟨c', rfl, hco⟩ := ha pos cv hc
    refine PySem.W.kla_makeFunctionHit (mg := X.mg) (c := c) (P := P) (ps := ps) (closure_ok hfree) I.ok.glob (I.mod.glob.keeps I.bk) hcode (TB.code.keeps I.bk) gP ht hc bP fun ctv h' tk hx hsz => ?_
    have fr : H h'.objs.size = none := I.hok.fresh hsz
    refine h h'.objs.size c' ((X.mg "__name__").getD .none) ctv _ _ (I.laid (t' := tk) (fun b o e => Heap.get?_push_of_some _ (hx b o e)) hsz (lamO_ok (Heap.get?_push_size _ rfl))) ⟨fr, .inl ⟨hco, rfl⟩⟩
  | none =>
    refine PySem.W.kla_makeFunction (mg := X.mg) (c := c) (P := P) (ps := ps) (closure_ok hfree) I.ok.glob (I.mod.glob.keeps I.bk) hcode (TB.code.keeps I.bk) gP ht hc TB.gP bP fun c' ctv h' tk hx hge hlt hrec htb => ?_
    obtain ⟨c2, oc, vs, t, e2, hoc, hd, hv⟩ := hrec
    cases e2
    have hsz : s.heap.objs.size ≤ h'.objs.size := Nat.le_trans hge (Nat.le_of_lt hlt)
    have nC : H c' = none := I.hok.fresh hge
    have nF : H h'.objs.size = none := I.hok.fresh hsz
    have I1 := inv_table (t' := tk) (more := #[rawInt pos.line, rawInt pos.col, .ref c']) (h' := h') (q := X.env.qual ++ "<lambda>") I hP (fun b o hb e => hx b o hb e) htb hge ⟨oc, vs, t, hoc, hd, hv⟩
    have eL : (ps ++ #[rawInt pos.line, rawInt pos.col, .ref c']).toList = ps.toList ++ [rawInt pos.line, rawInt pos.col, .ref c'] := by simp
    have nPc : P ≠ c' := ne_of_none hP nC
    have nPf : P ≠ h'.objs.size := ne_of_none hP nF
    refine h h'.objs.size c' ((X.mg "__name__").getD .none) ctv _ _ (I1.laid (t' := tk) (fun b o e => Heap.get?_push_of_some _ e) (Nat.le_refl _) (lamO_ok (Heap.get?_push_size _ rfl))) ⟨nF, .inr ⟨ps, _, hP, nC, Nat.ne_of_gt hlt, nPc, nPf, rfl, ?_, fun p' cv hcv => ?_⟩⟩
    · rw [eL]
      exact PySem.TriplesOk_snoc _ _ _ _ ht
    · rw [eL] at hcv
      exact among_app _ ht hcv
end
/-! ### called -/
section
variable {P : Program} {w : World} {K : PySem.W.Frag} {mg : Str → Option Value} {base : Heap}
theorem lam_run {CX : CXT} {k : Nat} {f c' : Addr} {qual : Str} {params : Arguments} {body : Expr} {scope : Scope} {pm ctv : Value} {N ps : List Str} (S : FnScope N ps scope) {A : Around} {outer : List Env} {s : Shared} {H : Hp} {us : List Value} {vs : List V} {Q : VK} {E : XK}
    (hf : H f = some (LamO f (PySem.W.kla_obj "<lambda>" qual params body scope [] pm c' ctv))) (hco : H c' = some (CodeO c' qual)) (hr : Room (k + 1) A) (e0 : Env0 P w K mg base A outer s H)
    (hbind : bindArgs (PySem.W.kla_fn "<lambda>" qual params body scope [] pm (.ref c') ctv) ⟨us, []⟩ = pure (ps.zip us)) (r : Vals vs us) (hl : vs.length = ps.length)
    (hbody : Room k (A.deeper (envOfC qual scope s.heap.objs.size f (.ref c'))) → ∃ t, PE (cxOf CX P w K mg base N qual scope f (.ref c') A outer s H E) body t ∧ t (start N vs) H Q) :
    codeAny (model P w) A (.call (.ref f) ⟨us, []⟩) (CR CX outer P w H s Q E) s := by
  have KX : K.In s.heap := e0.mod.kin.keeps fun b o e => (e0.bs b o e).1
  have lim : s.heap.NoLimit := e0.mod.nolimit.keeps fun b o e => (e0.bs b o e).1
  have ho : s.heap.get? f = some (PySem.W.kla_obj "<lambda>" qual params body scope [] pm c' ctv) := (e0.hok f _ hf).1
  obtain ⟨⟨oc, us', t', hoc, hdc, hvc⟩, _⟩ := e0.hok c' _ hco
  have hkind : ∀ y ∈ ps.zip us, scope.names.lookup y.1 = some .local ∨ (scope.names.lookup y.1 = some .cell ∧ ((cellsFrom (s.heap.objs.size + 1) scope.names []).lookup y.1).isSome = true) := fun ⟨n, v⟩ hy => (S.par n (List.of_mem_zip hy).1).elim .inl fun q => .inr ⟨q, PySem.W.cellsFrom_some _ _ _ (.inl q)⟩
  refine PySem.W.kla_callFunE hr.depth ho rfl S.co S.gen rfl ⟨c', oc, us', t', rfl, hoc, hdc, hvc⟩ ?_
  rw [hbind]
  refine wpAny_pure (wpAny_newFunctionEnv_cells S.kind hkind fun env he s1 x => ?_)
  subst he
  refine ⟨lim.keeps x.toInCall.keep, ?_⟩
  obtain ⟨t, ht, hq⟩ := hbody (hr.deeper _)
  have I : Inv (cxOf CX P w K mg base N qual scope f (.ref c') A outer s H E) [] (L2.start N vs) H s1 := inv_start S hr.hd e0 hl r x
  refine PySem.W.kla_codeExpr (wpAny_mono (ht.run [] s1 _ H Q I hq) (fun v s' hs => ?_) fun e s' hs => hs)
  obtain ⟨v', H', J, rv, q⟩ := hs
  exact ⟨v', H', J.os, J.bare, J.base, J.hok, rv, q⟩
/-- a value that can be called: while Φ stands -/
def CallOk (P : Program) (w : World) (K : PySem.W.Frag) (mg : Str → Option Value) (base : Heap) (k : Nat) (f : Addr) (Φ : Hp → Prop) (sp : Sp) : Prop :=
  (∀ (H : Hp) (s : Shared), HOk P w H s.heap → Φ H → PySem.W.FnAt f s.heap) ∧ ∀ (A : Around) (outer : List Env) (s : Shared) (H : Hp) (us : List Value) (vs : List V) (Q : VK) (E : XK), Room k A → Env0 P w K mg base A outer s H → Φ H → Vals vs us → sp vs H Q E →
    codeAny (model P w) A (.call (.ref f) ⟨us, []⟩) (CR (L2N.CX P w) outer P w H s Q E) s
end
def tCallV (i : Nat) (f : Addr) (Φ : Hp → Prop) (sp : Sp) (E : St → XK) (t : TA) : TE := fun σ H Q => σ[i]? = some (some (.ref f)) ∧ Φ H ∧ t σ H fun vs H1 => Φ H1 ∧ sp vs H1 Q (E σ)
theorem pe_callV {X : Cx} {k i : Nat} {f : Addr} {Φ : Hp → Prop} {sp : Sp} {E : St → XK} {x : Str} {p pos : Pos} {e : Expr} {es : List Expr} {t : TA} (C : CallOk X.prog X.w X.K X.mg X.base k f Φ sp) (hr : Room k X.A) (hN : X.N[i]? = some x) (hv : Vis X.env.scope x) (hx : ∀ σ, PassesAt (L2N.CX X.prog X.w) X σ (E σ)) (ha : PA X (e :: es) t)
    (hdb : (x == ("__debug__" : Str)) = false := by decide) (hcd : (x == ("__classdict__" : Str)) = false := by decide)
    (he : starEach (e :: es) X.env = (false, eval e X.env) :: starEach es X.env := by rfl) (hpl : (backTo pos (starEach es X.env)).any (·.1) = false := by rfl) : PE X (.Call (.Name x p) (e :: es) [] pos) (tCallV i f Φ sp E t) := by
  refine ⟨fun pins s σ H Q I h => ?_⟩
  obtain ⟨hs, hΦ, ht⟩ := h
  refine wpAny_Call_Name_kw (thn ((pe_var (pos := p) hN hv hdb hcd).run pins s σ H (fun v H1 => v = .ref f ∧ H1 = H) I ⟨.ref f, hs, rfl, rfl⟩) fun u s1 ⟨v, H1, I1, r1, q1⟩ => ?_)
  obtain ⟨rfl, rfl⟩ := q1
  cases r1
  refine PySem.W.callWith_F (C.1 _ s1 I1.hok hΦ) (thn (ha.run pos pins s1 σ _ _ I1 ht) fun us s2 ⟨vs, H2, I2, r, hΦ2, q⟩ => ⟨C.1 _ s2 I2.hok hΦ2, ?_⟩) he hpl
  refine wpAny_call (codeAny_mono (C.2 X.A X.stack s2 H2 us vs Q (E σ) hr I2.env0 hΦ2 r q) fun r s' hq => ?_)
  cases r with
  | error e => exact hx σ pins H2 s2 e s' I2 hq
  | ok fl =>
    cases fl with
    | ret u => exact I2.after hq
    | _ => exact False.elim hq
end L2

set_option maxRecDepth 100000
set_option maxHeartbeats 4000000
/-! Defs that raise, the clauses that take it, a lambda handed on: over the plain layer. -/
namespace Pd
open PySem PySem.Spec L2 LamX
open PyProof.Rows (envOfC)
open Evl (Ex)
/-! ### a def that raises an exception of the class C -/
def liftX (C : Value) (dsp : List SV → Prop) : Sp := fun vs H _ E => ∃ (F : Hp) (fp : Addr → Prop) (svs : List SV), Ex F H ∧ Paired (ArgOk fp F) vs svs ∧ (∀ b, fp b → F b = none ∧ BagAt F H b) ∧ dsp svs ∧ ∀ F' H', Grow (mkB H F fp) F' H' → E C none H'
theorem pss_none {X : Cx} {ss : List Stmt} : PSs X ss (fun _ _ _ => False) := ⟨fun _ _ _ _ _ _ h => h.elim⟩
/-- a reading that raises at its end -/
def Sxr (W : WX) (C : Value) (ts : TS) (d : DS) : Prop := ∀ B F H σ env D Dd, Den B F H σ env → EOk B F Dd D → (∀ F' H' σ', Ex F F' → Grow B F' H' → W C none σ' H') → d Dd env → ts D σ H
structure PXs (X : Cx) (W : WX) (C : Value) (ss : List Stmt) (ts : TS) (d : DS) : Prop where
  ps : PSs X ss ts
  s : Sxr W C ts d
section
variable {X : Cx} {W : WX} {C : Value} {st : Stmt} {ss rest : List Stmt} {ts us : TS} {d u : DS} {e test : Expr} {tt : TT} {dt : DT} {pos pos2 p : Pos}
theorem pxs_cons (h : PSd X st ts d) (hr : PXs X W C ss us u) : PXs X W C (st :: ss) (tSeq ts us) (dSeq d u) := ⟨pss_cons h.ps hr.ps, fun B F H σ env D Dd n k x q =>
  h.s B F H σ env { D with nx := us D } { Dd with nx := u Dd } n ⟨fun F' H' σ' env' e' n' q' => hr.s B F' H' σ' env' D Dd n' (k.up e') (fun F2 H2 σ2 e2 g2 => x F2 H2 σ2 (e'.trans e2) g2) q', k.rt, k.bk, k.ct, k.rx⟩ q⟩
def dIfRaise (dt : DT) : DS := fun _ env => dt env fun b => b = true
theorem pxs_if (hc : X.calm = true) (tk : L2N.Takes X W) (ht : PTd X test tt dt) (he : L2N.PMk X e (fun _ H Q => Q C none H)) : PXs X W C (.If test [.Raise (some e) none pos] [] pos2 :: rest) (tSeq (tIfS tt (fun _ σ H => W C none σ H) tNext) (fun _ _ _ => False)) (dIfRaise dt) :=
  ⟨pss_cons (ps_if ht.pt (pss_one (L2N.ps_raise hc tk he)) pss_nil) pss_none, fun B F H σ env D Dd n k x q => ht.s B F H σ env _ _ n q fun b F' H' hb e' n' => by
    subst hb
    exact x F' H' σ e' n'.g⟩
variable {k : Nat} {f : Addr} {fd : FuncData} {ps : List Str} {x : Str} {a : Expr} {es : List Expr} {ta : TA} {da : DA} {dsp : List SV → Prop}
def dCallRaise (dsp : List SV → Prop) (da : DA) : DS := fun _ env => da env dsp
theorem sx_call {E : XK} {t : TS} (ha : Sc ta da) (hE : ∀ σ H, E C none H → W C none σ H) (hE2 : ∀ σ H, W C none σ H → E C none H) : Sxr W C (tSeq (tDrop (tCall (liftX C dsp) [] E ta)) t) (dCallRaise dsp da) := fun B F H σ env D Dd n kk xx q =>
  ha B F H σ env _ _ n q fun vs svs F1 H1 q1 e1 n1 r1 => by
    rw [List.append_nil]
    exact ⟨F1, B.fp, svs, n1.g.fh, r1, fun b hb => ⟨n1.g.bagNF hb, n1.g.bag b hb⟩, q1, fun F' H' g' => hE2 σ H' (xx F' H' σ (e1.trans g'.bf) (n1.g.call g'))⟩
end
section
variable {P : Program} {w : World} {K : PySem.W.Frag} {mg : Str → Option Value} {base : Heap}
theorem takesN {N : List Str} {qual : Str} {scope : Scope} {f : Addr} {cdv : Value} {A : Around} {outer : List Env} {s : Shared} {H : Hp} {E : XK} : L2N.Takes (cxOf (L2N.CX P w) P w K mg base N qual scope f cdv A outer s H E) (fun cls d _ H => E cls d H) := L2N.takes_of rfl rfl rfl rfl
theorem passN {N : List Str} {qual : Str} {scope : Scope} {f : Addr} {cdv : Value} {A : Around} {outer : List Env} {s : Shared} {H : Hp} {E : XK} : Passes (L2N.CX P w) (cxOf (L2N.CX P w) P w K mg base N qual scope f cdv A outer s H E) E := L2N.passes_call takesN fun _ _ _ _ h => h
theorem fun_x {x qual : Str} {st : Stmt} {f : Addr} {fd : FuncData} {N ps : List Str} {k : Nat} {C : Value} {dsp : List SV → Prop} {t : DS} (F : Fun K x qual st f fd) (S : FnScope N ps (defScope st)) (len : ∀ svs, dsp svs → svs.length = ps.length)
    (hb : ∀ (cdv : Value) (A : Around) (outer : List Env) (s : Shared) (H : Hp) (E : XK), Room k (A.deeper (envOfC qual (defScope st) s.heap.objs.size f cdv)) → ∃ ts, PXs (cxOf (L2N.CX P w) P w K mg base N qual (defScope st) f cdv A outer s H E) (fun cls d _ H => E cls d H) C (defBody st) ts t)
    (rd : ∀ svs, dsp svs → t { nx := fun _ => False, rt := fun _ => False } (startd N.length svs)) : FnOk P w K mg base (L2N.CX P w) (k + 1) f fd ps (liftX C dsp) := by
  obtain ⟨oc, od, kV, doc, pm, an, cdv, ct, osl, rfl, lk, hcd⟩ := F.ex
  refine fn_of lk hcd S (fun vs H Q E h => ?_) fun A outer s H vs Q E hr h => ?_
  · obtain ⟨F', fp, svs, _, r, _, q, _⟩ := h
    rw [pairedLen r]
    exact len svs q
  · obtain ⟨F', fp, svs, e, r, hb', q, kk⟩ := h
    obtain ⟨ts, ht⟩ := hb cdv A outer s H E hr
    exact ⟨ts, ht.ps, ht.s (mkB H F' fp) F' H _ _ _ { nx := fun _ => False, rt := fun _ => False } (start_den e hb' r) ⟨fun _ _ _ _ _ _ z => z.elim, fun _ _ _ _ _ _ _ z => z.elim, fun _ _ _ _ _ _ z => z.elim, fun _ _ _ _ _ _ z => z.elim, fun _ _ _ _ _ _ _ _ _ z => z.elim⟩ (fun F2 H2 σ2 e2 g2 => kk F2 H2 g2) (rd svs q)⟩
end
/-! ### a lambda that hands on -/
def LamAt (f c' : Addr) (q : Str) (params : Arguments) (body : Expr) (scope : Scope) (pm ctv : Value) (H : Hp) : Prop :=
  H f = some (LamO f (PySem.W.kla_obj "<lambda>" q params body scope [] pm c' ctv)) ∧ H c' = some (CodeO c' q)
theorem lamO_lst {f : Addr} {ob : Obj} {vs : List V} : LamO f ob ≠ .lst vs := fun z => by
  unfold LamO at z
  cases z
theorem codeO_lst {c : Addr} {q : Str} {vs : List V} : CodeO c q ≠ .lst vs := fun z => by
  unfold CodeO at z
  cases z
theorem codeO_ins {c : Addr} {q : Str} {C dx : Addr} {fs : List (Str × V)} : CodeO c q ≠ .ins C dx fs := fun z => by
  unfold CodeO at z
  cases z
/-- stays through calls -/
def Stb (Φ : Hp → Prop) : Prop := ∀ (H F F' H' : Hp) (fp : Addr → Prop), (∀ b, fp b → F b = none ∧ BagAt F H b) → Grow (mkB H F fp) F' H' → Φ H → Φ H'
theorem lamAt_stb {f c' : Addr} {q : Str} {params : Arguments} {body : Expr} {scope : Scope} {pm ctv : Value} : Stb (LamAt f c' q params body scope pm ctv) := fun H F F' H' fp hb g ⟨h1, h2⟩ => by
  refine ⟨g.keep _ _ (fun z => ?_) (fun z => z) h1, g.keep _ _ (fun z => ?_) (fun z => z) h2⟩
  · obtain ⟨_, l, n, ns, e, _⟩ := hb _ z
    rw [h1] at e
    exact lamO_lst (Option.some.inj e)
  · obtain ⟨_, l, n, ns, e, _⟩ := hb _ z
    rw [h2] at e
    exact codeO_lst (Option.some.inj e)
section
variable {P : Program} {w : World} {K : PySem.W.Frag} {mg : Str → Option Value} {base : Heap}
theorem callOk_lam {k : Nat} {f c' : Addr} {q : Str} {params : Arguments} {body : Expr} {scope : Scope} {pm ctv : Value} {N ps : List Str} {sp : Sp} (S : FnScope N ps scope)
    (hbind : ∀ us : List Value, us.length = ps.length → bindArgs (PySem.W.kla_fn "<lambda>" q params body scope [] pm (.ref c') ctv) ⟨us, []⟩ = pure (ps.zip us)) (len : ∀ vs H Q E, sp vs H Q E → vs.length = ps.length)
    (hbody : ∀ (A : Around) (outer : List Env) (s : Shared) (H : Hp) (E : XK), Room k (A.deeper (envOfC q scope s.heap.objs.size f (.ref c'))) → ∃ t, PE (cxOf (L2N.CX P w) P w K mg base N q scope f (.ref c') A outer s H E) body t ∧ ∀ vs Q, sp vs H Q E → t (L2.start N vs) H Q) :
    CallOk P w K mg base (k + 1) f (LamAt f c' q params body scope pm ctv) sp := by
  refine ⟨fun H s hok ⟨h1, _⟩ => ⟨_, _, _, _, (hok f _ h1).1⟩, fun A outer s H us vs Q E hr e0 ⟨h1, h2⟩ r hs => ?_⟩
  have hl := len vs H Q E hs
  refine lam_run S h1 h2 hr e0 (hbind us ?_) r hl fun hr' => ?_
  · rw [← hl]
    exact r.length.symm
  · obtain ⟨t, h, q⟩ := hbody A outer s H E hr'
    exact ⟨t, h, q vs Q hs⟩
end
/-! ### the lambda in the maker's frame -/
def tLam (P : Addr) (q : Str) (params : Arguments) (body : Expr) (scope : Scope) : TE := fun _ H Q => TabS H P q ∧ ∀ (f c' : Addr) (pm ctv : Value) (H1 : Hp), Lamed H P q f c' (PySem.W.kla_obj "<lambda>" q params body scope [] pm c' ctv) H1 → Q (.ref f) H1
theorem pe_lam {X : Cx} {c P : Addr} {q : Str} {params : Arguments} {body : Expr} {scope : Scope} {pos : Pos} (TB : TabB X.base X.mg c P) (hcode : X.env.code = .ref c) (hq : X.env.qual ++ "<lambda>" = q) (hclo : cloFrom X.env.cells scope.names [] = [])
    (hdef : defaultsOf params X.env = ([], [])) (hfree : ∀ y ∈ scope.names, y.2 = .free → ∃ c, X.env.cells.lookup y.1 = some c) : PE X (.Lambda params body scope pos) (tLam P q params body scope) := by
  subst hq
  refine ⟨fun pins s σ H Q I h => ?_⟩
  obtain ⟨hT, h⟩ := h
  refine lam_made I TB hcode hT hdef hfree fun f c' pm ctv H1 s' I1 L => ?_
  rw [hclo] at L
  exact ⟨.ref f, H1, I1, rfl, h f c' pm ctv H1 L⟩
section
variable {B : Bs} {F H H1 : Hp} {σ : St} {env : Denv}
theorem Den.lamed {P f c' : Addr} {q : Str} {params : Arguments} {body : Expr} {scope : Scope} {pm ctv : Value} (n : Den B F H σ env) (hB : B.tb P q ∧ ∀ r, B.tb P r → r = q) (L : Lamed H P q f c' (PySem.W.kla_obj "<lambda>" q params body scope [] pm c' ctv) H1) :
    Den B F H1 σ env ∧ LamAt f c' q params body scope pm ctv H1 := by
  obtain ⟨hf, L⟩ := L
  rcases L with ⟨hc, rfl⟩ | ⟨ps, more, hP, hc, hfc, hPc, hPf, rfl, tr, am⟩
  · exact ⟨n.grow (n.g.own hf) (Ex.refl _) fun a o h1 h2 _ => ⟨upd_some hf h1, h2⟩, upd_same, upd_some hf hc⟩
  · obtain ⟨tS, fP, bP⟩ := n.g.tab P q hB.1
    have at_ : ∀ a o, H a = some o → a ≠ P → upd (upd (upd H P (.tbl (ps ++ more))) c' (CodeO c' q)) f (LamO f (PySem.W.kla_obj "<lambda>" q params body scope [] pm c' ctv)) a = some o := fun a o h1 h2 => by
      rw [upd_ne (ne_of_none h1 hf), upd_ne (ne_of_none h1 hc), upd_ne h2]
      exact h1
    have nP : ∀ a o, H a = some o → (∀ ps, o ≠ .tbl ps) → a ≠ P := fun a o h1 h2 z => by
      subst z
      rw [hP] at h1
      exact h2 _ (Option.some.inj h1).symm
    have atP : upd (upd (upd H P (.tbl (ps ++ more))) c' (CodeO c' q)) f (LamO f (PySem.W.kla_obj "<lambda>" q params body scope [] pm c' ctv)) P = some (.tbl (ps ++ more)) := by
      rw [upd_ne hPf, upd_ne hPc, upd_same]
    have atC : upd (upd (upd H P (.tbl (ps ++ more))) c' (CodeO c' q)) f (LamO f (PySem.W.kla_obj "<lambda>" q params body scope [] pm c' ctv)) c' = some (CodeO c' q) := by
      rw [upd_ne hfc.symm, upd_same]
    have g1 : Grow B F (upd (upd (upd H P (.tbl (ps ++ more))) c' (CodeO c' q)) f (LamO f (PySem.W.kla_obj "<lambda>" q params body scope [] pm c' ctv))) := by
      refine ⟨fun a o h => at_ a o (n.g.fh a o h) fun z => ?_, n.g.bf, fun a o h1 h2 h3 => at_ a o (n.g.keep a o h1 h2 h3) (ne_of_none h3 bP), n.g.nofr, fun b hb => (n.g.bag b hb).mono (Ex.refl _) fun o h => at_ b o h ?_, n.g.fpn, fun p hp => ?_, fun P' q' hq => ?_, n.g.ivk _ _ (fun a o h _ _ h3 => at_ a o h (nP a o h h3)) n.g.iv, n.g.ivk⟩
      · subst z
        rw [fP] at h
        cases h
      · obtain ⟨l, m, ns, e, _⟩ := n.g.bag b hb
        exact nP b _ e fun _ z => by cases z
      · obtain ⟨h1, h2, C, dx, fs, h3⟩ := n.g.opn p hp
        exact ⟨h1, h2, C, dx, fs, at_ p _ h3 (nP p _ h3 fun _ z => by cases z)⟩
      · obtain ⟨tS', h1, h2⟩ := n.g.tab P' q' hq
        refine ⟨?_, h1, h2⟩
        have cod : ∀ a r, H a = some (CodeO a r) → upd (upd (upd H P (.tbl (ps ++ more))) c' (CodeO c' q)) f (LamO f (PySem.W.kla_obj "<lambda>" q params body scope [] pm c' ctv)) a = some (CodeO a r) := fun a r h => at_ a _ h (nP a _ h codeO_ne)
        by_cases hPP : P' = P
        · subst hPP
          have := hB.2 q' hq
          subst this
          obtain ⟨ps', e1, e2, e3⟩ := tS'
          rw [hP] at e1
          cases e1
          refine ⟨ps ++ more, atP, tr, fun pos cv hcv => ?_⟩
          rcases am pos cv hcv with z | rfl
          · obtain ⟨c2, z1, z2⟩ := e3 pos cv z
            exact ⟨c2, z1, cod _ _ z2⟩
          · exact ⟨c', rfl, atC⟩
        · obtain ⟨ps', e1, e2, e3⟩ := tS'
          refine ⟨ps', at_ _ _ e1 hPP, e2, fun pos cv hcv => ?_⟩
          obtain ⟨c2, z1, z2⟩ := e3 pos cv hcv
          exact ⟨c2, z1, cod _ _ z2⟩
    refine ⟨⟨g1, n.len, fun i sv h => ?_, n.sep, n.sepO⟩, upd_same, atC⟩
    obtain ⟨v, h1, h2⟩ := n.slot i sv h
    refine ⟨v, h1, ?_⟩
    cases sv with
    | dat d => exact h2
    | bag => exact h2
    | tab _ _ => exact h2
    | raw _ => exact h2
    | own ds =>
      obtain ⟨l, vs, e1, e2, e3, e4, e5⟩ := h2
      exact ⟨l, vs, e1, e2, e3, at_ l _ e4 (nP l _ e4 fun _ z => by cases z), e5⟩
    | obj C p fs =>
      obtain ⟨e1, e2, e3, dx, fv, e4, e5⟩ := h2
      exact ⟨e1, e2, e3, dx, fv, at_ p _ e4 (nP p _ e4 fun _ z => by cases z), e5⟩
theorem Den.setR (n : Den B F H σ env) {i : Nat} {v : V} : Den B F H (σ.set i (some v)) (env.set i (some (.raw v))) := by
  refine ⟨n.g, by rw [List.length_set, List.length_set, n.len], fun j sv hj => ?_, fun j k ds es l h1 h2 h3 h4 => ?_, fun j k C C' p fs gs h1 h2 => ?_⟩
  · rcases get_set hj with ⟨rfl, hl, rfl⟩ | ⟨hij, hj⟩
    · exact ⟨v, by rw [List.getElem?_set_self (by rw [← n.len]; exact hl)], rfl⟩
    · obtain ⟨u, h1, h2⟩ := n.slot j sv hj
      exact ⟨u, by rw [List.getElem?_set_ne hij]; exact h1, h2⟩
  · rcases get_set h1 with ⟨_, _, z⟩ | ⟨hij, h1⟩
    · cases z
    · rcases get_set h2 with ⟨_, _, z⟩ | ⟨hik, h2⟩
      · cases z
      · rw [List.getElem?_set_ne hij] at h3
        rw [List.getElem?_set_ne hik] at h4
        exact n.sep j k ds es l h1 h2 h3 h4
  · rcases get_set h1 with ⟨_, _, z⟩ | ⟨_, h1⟩
    · cases z
    · rcases get_set h2 with ⟨_, _, z⟩ | ⟨_, h2⟩
      · cases z
      · exact n.sepO j k C C' p fs gs h1 h2
theorem Den.unset (n : Den B F H σ env) (i : Nat) : Den B F H (σ.set i none) (env.set i none) := n.forget (by rw [List.length_set, List.length_set, n.len]) fun j sv h => by
  by_cases hij : i = j
  · subst hij
    by_cases hl : i < env.length
    · rw [List.getElem?_set_self hl] at h
      cases h
    · rw [List.set_eq_of_length_le (by omega), List.getElem?_eq_none (by omega)] at h
      cases h
  · rw [List.getElem?_set_ne hij] at h ⊢
    exact ⟨h, rfl⟩
end
/-! ### the def that takes the refusal -/
def spRef (P : Program) (w : World) (K : PySem.W.Frag) (mg : Str → Option Value) (base : Heap) (kc : Nat) (U : Addr) (nm : Str) : Sp := fun vs H Q _ => ∃ (f : Addr) (Φ : Hp → Prop) (dsp : List SV → Prop) (F : Hp) (fp : Addr → Prop) (ws : List V) (d1 d2 d3 : PyData),
  vs = .ref f :: ws ∧ CallOk P w K mg base kc f Φ (liftX (.ref U) dsp) ∧ Stb Φ ∧ Φ H ∧ Ex F H ∧ Paired (ArgOk fp F) ws [.dat d1, .dat d2, .dat d3] ∧ (∀ b, fp b → F b = none ∧ BagAt F H b) ∧ dsp [.dat d1, .dat d2, .dat d3] ∧
    ∀ l F' H', Grow (mkB H F fp) F' H' → ROk (mkB H F fp) F' H' (.ref l) (.new [.str nm, .bool true]) → Q (.ref l) H'
/-- the wish of the try: two clauses, the second one taken -/
def tRef (K : PySem.W.Frag) (c1 c2 : Value) (U : Addr) (ie : Nat) (f : Addr) (Φ : Hp → Prop) (dsp : List SV → Prop) (ts2 : Addr → TS) : TS := fun D σ H =>
  tDrop (tCallV 0 f Φ (liftX (.ref U) dsp) (WE (wAs K c1 ie (fun _ _ _ _ _ _ => False) (wAs K c2 ie (fun a cls d D σ H => (cls = .ref U ∧ d = none) ∧ ts2 a D σ H) (fun _ _ _ _ => False) D) D)) (tCons (tVar 1) (tCons (tVar 2) (tCons (tVar 3) tNil)))) D σ H
theorem pss_when {X : Cx} {ss : List Stmt} {p : Prop} {t : TS} (h : p → PSs X ss t) : PSs X ss (fun D σ H => p ∧ t D σ H) := ⟨fun pins s σ H D I ⟨hp, q⟩ => (h hp).run pins s σ H D I q⟩
theorem sx_ref {K : PySem.W.Frag} {c1 c2 : Value} {U f : Addr} {ie : Nat} {Φ : Hp → Prop} {dsp : List SV → Prop} {ts2 : Addr → TS} {d2 : Addr → DS} {B : Bs} {F H : Hp} {σ : St} {env : Denv} {D : Ends} {Dd : DEnds} {x1 x2 x3 : PyData} {r : Denv}
    (h2 : ∀ a, Ss (ts2 a) (d2 a)) (e1 : PySem.W.exmOne K (.ref U) c1 = some false) (e2 : PySem.W.exmOne K (.ref U) c2 = some true) (n : Den B F H σ env) (k : EOk B F Dd D) (hΦ : Φ H) (st : Stb Φ) (he : env = some (.raw (.ref f)) :: some (.dat x1) :: some (.dat x2) :: some (.dat x3) :: r) (hd : dsp [.dat x1, .dat x2, .dat x3])
    (q : ∀ a, d2 a { nx := fun env2 => Dd.nx (env2.set ie none), rt := fun _ => False } (env.set ie (some (.raw (.ref a))))) : tRef K c1 c2 U ie f Φ dsp ts2 D σ H := by
  have s0 : ∃ v, σ[0]? = some (some v) ∧ v = .ref f := n.slot 0 (.raw (.ref f)) (by rw [he]; rfl)
  obtain ⟨v1, s1, r1⟩ := n.slot 1 (.dat x1) (by rw [he]; rfl)
  obtain ⟨v2, s2, r2⟩ := n.slot 2 (.dat x2) (by rw [he]; rfl)
  obtain ⟨v3, s3, r3⟩ := n.slot 3 (.dat x3) (by rw [he]; rfl)
  obtain ⟨v0, s0, rfl⟩ := s0
  refine ⟨s0, hΦ, v1, s1, v2, s2, v3, s3, hΦ, F, B.fp, [.dat x1, .dat x2, .dat x3], n.g.fh, .cons r1 (.cons r2 (.cons r3 .nil)), fun b hb => ⟨n.g.bagNF hb, n.g.bag b hb⟩, hd, fun F' H' g' => ?_⟩
  refine ⟨false, e1, (fun z => nomatch z), fun _ => ⟨true, e2, fun _ a ha => ⟨⟨rfl, rfl⟩, ?_⟩, fun z => nomatch z⟩⟩
  refine h2 a B F' H' _ _ _ { nx := fun env2 => Dd.nx (env2.set ie none), rt := fun _ => False } ((n.call g').setR (i := ie) (v := .ref a)) ⟨fun F2 H2 σ2 env2 e2 n2 q2 => k.nx F2 H2 _ _ (g'.bf.trans e2) (n2.unset ie) q2, fun _ _ _ _ _ _ _ z => z.elim, fun _ _ _ _ _ _ z => z.elim, fun _ _ _ _ _ _ z => z.elim, fun _ _ _ _ _ _ _ _ _ z => z.elim⟩ (q a)
/-! ### the call that is to be refused, in the maker's frame -/
theorem lamAt_keep {f c' : Addr} {q : Str} {params : Arguments} {body : Expr} {scope : Scope} {pm ctv : Value} : KeepI (LamAt f c' q params body scope pm ctv) := fun H H' k ⟨h1, h2⟩ =>
  ⟨k _ _ h1 (fun _ => lamO_lst) (fun _ _ _ z => by unfold LamO at z; cases z) (fun _ z => by unfold LamO at z; cases z), k _ _ h2 (fun _ => codeO_lst) (fun _ _ _ => codeO_ins) fun _ => codeO_ne _⟩
theorem Den.withI {B : Bs} {F H : Hp} {σ : St} {env : Denv} {J : Hp → Prop} (n : Den B F H σ env) (h : J H) (hk : KeepI J) : Den ⟨B.H, B.F, B.fp, B.op, B.tb, fun H => B.iv H ∧ J H⟩ F H σ env :=
  ⟨⟨n.g.fh, n.g.bf, n.g.keep, n.g.nofr, n.g.bag, n.g.fpn, n.g.opn, n.g.tab, ⟨n.g.iv, h⟩, fun H H' k ⟨a, b⟩ => ⟨n.g.ivk H H' k a, hk H H' k b⟩⟩, n.len, fun i sv hi => by
    obtain ⟨v, h1, h2⟩ := n.slot i sv hi
    exact ⟨v, h1, by cases sv <;> exact h2⟩, n.sep, n.sepO⟩
theorem Den.backI {B : Bs} {F H : Hp} {σ : St} {env : Denv} {J : Hp → Prop} (n : Den ⟨B.H, B.F, B.fp, B.op, B.tb, fun H => B.iv H ∧ J H⟩ F H σ env) (hk : KeepI B.iv) : Den B F H σ env :=
  ⟨⟨n.g.fh, n.g.bf, n.g.keep, n.g.nofr, n.g.bag, n.g.fpn, n.g.opn, n.g.tab, n.g.iv.1, hk⟩, n.len, fun i sv hi => by
    obtain ⟨v, h1, h2⟩ := n.slot i sv hi
    exact ⟨v, h1, by cases sv <;> exact h2⟩, n.sep, n.sepO⟩
def nRef (dsp : List SV → Prop) (P : Addr) (q : Str) (nm : Str) (da : DA) : DN := fun env Q => env[0]? = some (some (.tab P q)) ∧ da env fun svs => ∃ d1 d2 d3, svs = [.dat d1, .dat d2, .dat d3] ∧ dsp svs ∧ Q [.str nm, .bool true]
theorem pen_ref {X : Cx} {k kc : Nat} {fr U : Addr} {fd : FuncData} {ps : List Str} {nm x : Str} {p pos lpos : Pos} {e : Expr} {es : List Expr} {ta : TA} {da : DA} {P : Addr} {q : Str} {params : Arguments} {body : Expr} {scope : Scope} {dsp : List SV → Prop}
    (Fr : FnOk X.prog X.w X.K X.mg X.base CX0 k fr fd ps (spRef X.prog X.w X.K X.mg X.base kc U nm)) (hr : Room k X.A) (hg : Gl X x) (hm : X.mg x = some (.ref fr)) (hk : PySem.W.keepIn X.K (.ref fr) = true) (hb : Binds X.K fd ps [])
    (hl : PE X (.Lambda params body scope lpos) (tLam P q params body scope)) (CL : ∀ f c' pm ctv, CallOk X.prog X.w X.K X.mg X.base kc f (LamAt f c' q params body scope pm ctv) (liftX (.ref U) dsp)) (ha : PAc X (e :: es) ta da) (hdb : (x == ("__debug__" : Str)) = false := by decide)
    (he : starEach (.Lambda params body scope lpos :: e :: es) X.env = (false, eval (.Lambda params body scope lpos) X.env) :: starEach (e :: es) X.env := by rfl) (hpl : (backTo pos (starEach (e :: es) X.env)).any (·.1) = false := by rfl) :
    PEn X (.Call (.Name x p) (.Lambda params body scope lpos :: e :: es) [] pos) (tCall (spRef X.prog X.w X.K X.mg X.base kc U nm) [] E0 (tCons (tLam P q params body scope) ta)) (nRef dsp P q nm da) :=
  ⟨pe_call Fr hr hg hm hk hb .nil pass0 (pa_cons hl ha.pa he) hdb he hpl, fun B F H σ env Q Qv n ⟨h0, q1⟩ kk => by
    obtain ⟨v0, _, hB⟩ := n.slot 0 _ h0
    refine ⟨(n.g.tab P q hB.1).1, fun f c' pm ctv H1 L => ?_⟩
    obtain ⟨n1, lm⟩ := n.lamed hB L
    refine ha.s ⟨B.H, B.F, B.fp, B.op, B.tb, fun H => B.iv H ∧ LamAt f c' q params body scope pm ctv H⟩ F H1 σ env _ _ (n1.withI lm lamAt_keep) q1 fun vs svs F2 H2 q2 e2 n2 r2 => ?_
    obtain ⟨d1, d2, d3, rfl, hd, q2⟩ := q2
    have n3 : Den B F2 H2 σ env := n2.backI n1.g.ivk
    rw [List.append_nil]
    refine ⟨f, _, dsp, F2, B.fp, vs, d1, d2, d3, rfl, CL f c' pm ctv, lamAt_stb, n2.g.iv.2, n3.g.fh, r2, fun b hb => ⟨n3.g.bagNF hb, n3.g.bag b hb⟩, hd, fun l F' H' g' r' => ?_⟩
    obtain ⟨l', ws, z, h1, h2, h3, h4⟩ := r'
    cases z
    exact kk l ws _ F' H' q2 (e2.trans g'.bf) (n3.call g') (ROk.back n3 g' h1 h2 h3 h4)⟩
end Pd

set_option maxRecDepth 100000
set_option maxHeartbeats 4000000
/-! What a clause asks of its exception; comprehensions there; the taking def as a whole. -/
namespace Pd
open PySem PySem.Spec L2 LamX
open PyProof.Rows (envOfC)
open Evl (Ex)
section
variable {K : PySem.W.Frag} {U D : Addr} {b : Bool}
theorem kit_ref (hn : U ≠ D) (hd : PySem.W.hasDictIn K D = true) (ht : PySem.W.typeIn K (.ref D) = some (.type "type")) (hs : PySem.W.subIn K (.ref U) (.ref D) = some b) : PySem.W.kitOne K (.ref U) (.ref D) = some b := by
  obtain ⟨cd, hc, _⟩ := PySem.W.any_some hd
  have e0 : ((Value.ref U == Value.ref D) = true) = False := by
    refine eq_false fun z => hn ?_
    have := eq_of_beq z
    cases this
    rfl
  have e2 : ((PySem.W.clsIn K D).isSome && PySem.W.typeIn K (.ref D) == some (.type "type")) = true := by rw [hc, ht] <;> rfl
  unfold PySem.W.kitOne
  rw [if_neg (by rw [e0]; exact id)]
  show (if ((PySem.W.clsIn K D).isSome && PySem.W.typeIn K (.ref D) == some (.type "type")) = true then PySem.W.subIn K (.ref U) (.ref D) else none) = some b
  rw [if_pos e2]
  exact hs
theorem kit_self : PySem.W.kitOne K (.ref U) (.ref U) = some true := if_pos (beq_self_eq_true _)
theorem kit_ve (hs : PySem.W.subIn K (.ref U) (.type "ValueError") = some true) : PySem.W.kitOne K (.ref U) (.type "ValueError") = some true := hs
end
section
variable {X : Cx} {a U : Addr} {oe : Obj} {pn : List (Addr × Obj)} {i : Nat} {b : Bool}
def dIsE (i : Nat) (a : Addr) (b : Bool) : DE := fun env Q => env[i]? = some (some (.raw (.ref a))) ∧ Q (.bool b)
theorem ped_isE {c : V} {cv : Value} {e cx : Expr} {p pos : Pos} (hz : L2N.Zn (.ref U) none oe) (hf : ∃ vs, oe.data = .fields vs) (C : ExcC X.K U) (hb : PySem.W.kitOne X.K (.ref U) cv = some b) (hcv : ∀ u, RelV c u → u = cv) (hg : Gl (X.suite a ((a, oe) :: pn)) "isinstance") (hm : X.mg "isinstance" = none)
    (he : PE (X.suite a ((a, oe) :: pn)) e (tVar i)) (ht : PE (X.suite a ((a, oe) :: pn)) cx (tC c))
    (he1 : starEach [e, cx] (X.suite a ((a, oe) :: pn)).env = (false, eval e (X.suite a ((a, oe) :: pn)).env) :: starEach [cx] (X.suite a ((a, oe) :: pn)).env := by rfl) (he2 : starEach [cx] (X.suite a ((a, oe) :: pn)).env = (false, eval cx (X.suite a ((a, oe) :: pn)).env) :: starEach [] (X.suite a ((a, oe) :: pn)).env := by rfl) (hpl : (backTo pos (starEach [cx] (X.suite a ((a, oe) :: pn)).env)).any (·.1) = false := by rfl) :
    PEd (X.suite a ((a, oe) :: pn)) (.Call (.Name "isinstance" p) [e, cx] [] pos) (tCB (rIsE X.K U a) (tCons (tVar i) (tCons (tC c) tNil))) (dIsE i a b) :=
  ⟨pe_callB (call_isE C hz.zc hf) hg hm (by decide +kernel) (pa_cons he (pa_cons ht pa_nil he2) he1) (by decide) (by decide) he1 hpl, fun B F H σ env Q Qv n ⟨h1, q⟩ k => by
    obtain ⟨v, h2, h3⟩ := n.slot i _ h1
    cases h3
    exact ⟨_, h2, c, cv, b, rfl, hcv, hb, k _ _ F H q (Ex.refl F) n (.bl b)⟩⟩
theorem hotC {vs : Array Value} (hz : L2N.Zn (.ref U) none oe) (hf : ∃ vs, oe.data = .fields vs) : L2H.HotC (X.suite a ((a, oe) :: pn)) := by
  obtain ⟨vs, hv⟩ := hf
  exact ⟨(a, oe), ⟨rfl, vs, hv, hz.2.2 vs hv⟩, List.mem_cons_self⟩
end
/-! ### a comprehension in a clause -/
def itLs (t : DE) : DN := fun env Q => t env fun d => ∃ ds, d = .list ds ∧ Q ds
theorem si_ls {K : PySem.W.Frag} {te : TE} {dd : DE} (h : Sd te dd) : Si (iList K te) (itLs dd) := fun B F H σ env Q R n q k => by
  refine h B F H σ env _ _ n q fun v d F' H' ⟨ds, hd, q'⟩ e' n' t' => ?_
  subst hd
  cases t' with
  | @lst a xs ds' h1 h2 =>
    refine ⟨a, rfl, ⟨xs, SqL.of (n'.g.fh _ _ h1)⟩, k ds _ F' H' q' e' n' fun F2 H2 e2 eh => ⟨⟨xs, SqL.of (eh _ _ (e2 _ _ h1)), Nat.le_of_eq h2.len⟩, fun i d hi => ?_⟩⟩
    obtain ⟨v, hv, tv⟩ := (h2.up e2).get hi
    exact ⟨⟨xs, v, SqL.of (eh _ _ (e2 _ _ h1)), hv⟩, fun x H'' ⟨eH, y⟩ => by
      subst eH
      have := y xs (SqL.of (eh _ _ (e2 _ _ h1)))
      rw [hv] at this
      cases this
      exact ⟨F2, .refl, tv⟩⟩
section
variable {X : Cx} {elt iter : Expr} {es ifs : List Expr} {k n : Nat} {tp pos : Pos} {scope : Scope} {ti te : TE} {di dd : DE} {gs : TGs} {dgs : DGs} {vs' : List Nat} {tt : TT} {dt : DT}
theorem ren_lcH {K : PySem.W.Frag} (hK : X.K = K) (own : List (Str × Nat)) {vs : List Nat} (hvs : own.map (·.2) = vs) (hc : L2H.HotC X) (hst0 : X.stack = X.env :: X.outer) (hf0 : X.env.frame = some X.env.locals) (hN : X.N.Nodup) (hi : PEd X iter ti di) (ok : BlkOk X.N X.env.scope scope own)
    (hg : ∀ (s : Shared) (H : Hp) (C : Addr) (cl : List (Str × Addr)) (fp : List Addr), PGsd (X.blk s H scope (compEnvC scope cl C X.env) fp) es gs dgs vs') (hv : ∀ i ∈ vs', i ∈ vs)
    (ht : ∀ (s : Shared) (H : Hp) (C : Addr) (cl : List (Str × Addr)) (fp : List Addr), PTsd (X.blk s H scope (compEnvC scope cl C X.env) fp) ifs tt dt) (he : ∀ (s : Shared) (H : Hp) (C : Addr) (cl : List (Str × Addr)) (fp : List Addr), PEd (X.blk s H scope (compEnvC scope cl C X.env) fp) elt te dd)
    (hlen : ∀ cl C, (assignEach es (compEnvC scope cl C X.env)).length = n := by intro _ _; rfl) (hst : ∀ cl C, (assignEach es (compEnvC scope cl C X.env)).findIdx? (·.1) = none := by intro _ _; rfl) (hs : ∀ x, foldedSetIterable iter X.env x = pure x := by intro _; rfl) :
    PEn X (.ListComp elt [⟨.Tuple es k tp, iter, ifs, 0⟩] scope pos) (tLc (iList K ti) (gTup K n gs) tt te vs) (nLc (itLs di) (gdTup n dgs) dt dd vs) := by
  subst hvs
  subst hK
  exact ⟨pe_lcH hc hst0 hf0 hN hi.pe ok (fun s H C cl fp => (hg s H C cl fp).pg) (fun s H C cl fp => (ht s H C cl fp).pt) (fun s H C cl fp => (he s H C cl fp).pe) hlen hst hs,
    sn_lc (si_ls hi.s) (sg_tup (hg ({} : Shared) (fun _ => none) 0 [] []).s) hv (ht ({} : Shared) (fun _ => none) 0 [] []).s (he ({} : Shared) (fun _ => none) 0 [] []).s⟩
end
/-! ### the taking def as a whole -/
theorem zn_wit {U : Addr} : ∃ oe : Obj, L2N.Zn (.ref U) none oe ∧ ∃ vs, oe.data = .fields vs := ⟨{ cls := .ref U, data := .fields #[.none, .none, .none] }, ⟨rfl, rfl, fun vs e => by cases e; rfl⟩, _, rfl⟩
theorem rd_ref {K : PySem.W.Frag} {N : List Str} {t0 t2 : TS} {d0 dr : DS} {ts2 : Addr → TS} {d2 : Addr → DS} {c1 c2 : Value} {U f : Addr} {ie : Nat} {Φ : Hp → Prop} {dsp : List SV → Prop} {F H : Hp} {fp : Addr → Prop} {ws : List V} {x1 x2 x3 : PyData} {Q : VK} {nm : Str} {r : Denv}
    (h0 : Ss t0 d0) (hr : Ss t2 dr) (h2 : ∀ a, Ss (ts2 a) (d2 a)) (e1 : PySem.W.exmOne K (.ref U) c1 = some false) (e2 : PySem.W.exmOne K (.ref U) c2 = some true) (hst : Stb Φ) (hΦ : Φ H) (e : Ex F H) (rr : Paired (ArgOk fp F) ws [.dat x1, .dat x2, .dat x3]) (hb : ∀ b, fp b → F b = none ∧ BagAt F H b) (hd : dsp [.dat x1, .dat x2, .dat x3])
    (kk : ∀ l F' H', Grow (mkB H F fp) F' H' → ROk (mkB H F fp) F' H' (.ref l) (.new [.str nm, .bool true]) → Q (.ref l) H')
    (r0 : d0 { nx := fun env => env = some (.raw (.ref f)) :: some (.dat x1) :: some (.dat x2) :: some (.dat x3) :: r, rt := fun _ => False } (startd N.length [.raw (.ref f), .dat x1, .dat x2, .dat x3]))
    (r2 : ∀ a, d2 a { nx := fun env2 => dr { nx := fun _ => False, rt := fun v => v = .new [.str nm, .bool true] } (env2.set ie none), rt := fun _ => False } ((some (.raw (.ref f)) :: some (.dat x1) :: some (.dat x2) :: some (.dat x3) :: r).set ie (some (.raw (.ref a))))) :
    tSeq t0 (tSeq (tRef K c1 c2 U ie f Φ dsp ts2) t2) { nx := fun _ H' => Q .non H', rt := Q } (L2.start N (.ref f :: ws)) H := by
  have den : Den (mkB H F fp) F H (L2.start N (.ref f :: ws)) (startd N.length [.raw (.ref f), .dat x1, .dat x2, .dat x3]) := start_den e hb (.cons rfl rr)
  refine h0 (mkB H F fp) F H _ _ _ { nx := fun env => env = some (.raw (.ref f)) :: some (.dat x1) :: some (.dat x2) :: some (.dat x3) :: r, rt := fun _ => False } den ⟨fun F1 H1 σ1 env1 e1' n1 q1 => ?_, fun _ _ _ _ _ _ _ z => z.elim, fun _ _ _ _ _ _ z => z.elim, fun _ _ _ _ _ _ z => z.elim, fun _ _ _ _ _ _ _ _ _ z => z.elim⟩ r0
  subst q1
  refine sx_ref (Dd := { nx := dr { nx := fun _ => False, rt := fun v => v = .new [.str nm, .bool true] }, rt := fun _ => False }) h2 e1 e2 n1 ⟨fun F3 H3 σ3 env3 e3 n3 q3 => ?_, fun _ _ _ _ _ _ _ z => z.elim, fun _ _ _ _ _ _ z => z.elim, fun _ _ _ _ _ _ z => z.elim, fun _ _ _ _ _ _ _ _ _ z => z.elim⟩ (hst H F F1 H1 fp hb n1.g hΦ) hst rfl hd r2
  refine hr _ F3 H3 σ3 env3 _ { nx := fun _ => False, rt := fun v => v = .new [.str nm, .bool true] } n3 ⟨fun _ _ _ _ _ _ z => z.elim, fun F4 H4 v rv e4 g4 r4 q4 => ?_, fun _ _ _ _ _ _ z => z.elim, fun _ _ _ _ _ _ z => z.elim, fun _ _ _ _ _ _ _ _ _ z => z.elim⟩ q3
  have q4 : rv = .new [.str nm, .bool true] := q4
  subst q4
  obtain ⟨l, us, z, w⟩ := id r4
  subst z
  exact kk l F4 H4 g4 r4
def stAt (s : Stmt) (i : Nat) : Stmt := (defBody s).getD i (.Pass ⟨0, 0, 0, 0⟩)
def suiteAt (s : Stmt) (i j : Nat) : List Stmt := match stAt s i with
  | .Try _ hs _ _ _ => match hs.getD j (.ExceptHandler none none [] ⟨0, 0, 0, 0⟩) with
    | .ExceptHandler _ _ b _ => b
  | _ => []
section
variable {P : Program} {w : World} {K : PySem.W.Frag} {mg : Str → Option Value} {base : Heap}
/-- a def by its body, its code object known -/
theorem okC {x qual : Str} {st : Stmt} {f : Addr} {N ps : List Str} {k : Nat} {sp : Sp} {oc : Value} {od an : Option Addr} {osl : Array (Option Value)} {kV doc pm cdv ct : Value} (lk : K.lookup f = some ⟨oc, od, .func (PySem.W.fnOf x qual (defArgs st) (defBody st) (defScope st) .none kV doc pm an cdv ct), osl⟩) (hcd : PySem.W.codeIn K cdv qual = true)
    (S : FnScope N ps (defScope st)) (len : ∀ vs H Q E, sp vs H Q E → vs.length = ps.length)
    (hbody : ∀ (A : Around) (outer : List Env) (s : Shared) (H : Hp) (vs : List V) (Q : VK) (E : XK), Room k (A.deeper (envOfC qual (defScope st) s.heap.objs.size f cdv)) → sp vs H Q E →
      ∃ t, PSs (cxOf CX0 P w K mg base N qual (defScope st) f cdv A outer s H E).nox (defBody st) t ∧ t { nx := fun _ H' => Q .non H', rt := Q } (L2.start N vs) H) : FnOk P w K mg base CX0 (k + 1) f (PySem.W.fnOf x qual (defArgs st) (defBody st) (defScope st) .none kV doc pm an cdv ct) ps sp := by
  refine fn_of lk hcd S len fun A outer s H vs Q E hr hsp => ?_
  obtain ⟨t, h, q⟩ := hbody A outer s H vs Q E hr hsp
  exact ⟨t, h.nox, q⟩
end
/-! ### simp's equations -/
theorem q_isE {i : Nat} {a : Addr} {b : Bool} {env : Denv} {Q : PyData → Prop} : dIsE i a b env Q = (env[i]? = some (some (.raw (.ref a))) ∧ Q (.bool b)) := rfl
theorem q_itls {t : DE} {env : Denv} {Q : List PyData → Prop} : itLs t env Q = t env fun d => ∃ ds, d = .list ds ∧ Q ds := rfl
end Pd

set_option maxRecDepth 100000
set_option maxHeartbeats 4000000
/-! Rows: what is a taker, a row, a number; who takes a piece, how many each takes. -/
namespace Pd
open PySem L2
open Evl (Ex)
def isIntB : PyData → Bool
  | .int _ => true
  | .bool _ => true
  | _ => false
def isBoolB : PyData → Bool
  | .bool _ => true
  | _ => false
def isTupB : PyData → Bool
  | .tuple _ => true
  | _ => false
def isLstB : PyData → Bool
  | .list _ => true
  | _ => false
theorem isi_int (d : PyData) (Q : PyData → Prop) : isiD "int" d Q = Q (.bool (isIntB d)) := by
  have h : kitB (tyD d) "int" = some (isIntB d) := by
    cases d with
    | none => exact (show kitB "NoneType" "int" = some false by decide +kernel)
    | bool _ => exact (show kitB "bool" "int" = some true by decide +kernel)
    | int _ => exact (show kitB "int" "int" = some true by decide +kernel)
    | str _ => exact (show kitB "str" "int" = some false by decide +kernel)
    | list _ => exact (show kitB "list" "int" = some false by decide +kernel)
    | tuple _ => exact (show kitB "tuple" "int" = some false by decide +kernel)
    | dict _ => exact (show kitB "dict" "int" = some false by decide +kernel)
  unfold isiD
  rw [h]
  simp
theorem isi_bool (d : PyData) (Q : PyData → Prop) : isiD "bool" d Q = Q (.bool (isBoolB d)) := by
  have h : kitB (tyD d) "bool" = some (isBoolB d) := by
    cases d with
    | none => exact (show kitB "NoneType" "bool" = some false by decide +kernel)
    | bool _ => exact (show kitB "bool" "bool" = some true by decide +kernel)
    | int _ => exact (show kitB "int" "bool" = some false by decide +kernel)
    | str _ => exact (show kitB "str" "bool" = some false by decide +kernel)
    | list _ => exact (show kitB "list" "bool" = some false by decide +kernel)
    | tuple _ => exact (show kitB "tuple" "bool" = some false by decide +kernel)
    | dict _ => exact (show kitB "dict" "bool" = some false by decide +kernel)
  unfold isiD
  rw [h]
  simp
theorem isi_tup (d : PyData) (Q : PyData → Prop) : isiD "tuple" d Q = Q (.bool (isTupB d)) := by
  have h : kitB (tyD d) "tuple" = some (isTupB d) := by
    cases d with
    | none => exact (show kitB "NoneType" "tuple" = some false by decide +kernel)
    | bool _ => exact (show kitB "bool" "tuple" = some false by decide +kernel)
    | int _ => exact (show kitB "int" "tuple" = some false by decide +kernel)
    | str _ => exact (show kitB "str" "tuple" = some false by decide +kernel)
    | list _ => exact (show kitB "list" "tuple" = some false by decide +kernel)
    | tuple _ => exact (show kitB "tuple" "tuple" = some true by decide +kernel)
    | dict _ => exact (show kitB "dict" "tuple" = some false by decide +kernel)
  unfold isiD
  rw [h]
  simp
theorem isi_lst (d : PyData) (Q : PyData → Prop) : isiD "list" d Q = Q (.bool (isLstB d)) := by
  have h : kitB (tyD d) "list" = some (isLstB d) := by
    cases d with
    | none => exact (show kitB "NoneType" "list" = some false by decide +kernel)
    | bool _ => exact (show kitB "bool" "list" = some false by decide +kernel)
    | int _ => exact (show kitB "int" "list" = some false by decide +kernel)
    | str _ => exact (show kitB "str" "list" = some false by decide +kernel)
    | list _ => exact (show kitB "list" "list" = some true by decide +kernel)
    | tuple _ => exact (show kitB "tuple" "list" = some false by decide +kernel)
    | dict _ => exact (show kitB "dict" "list" = some false by decide +kernel)
  unfold isiD
  rw [h]
  simp
/-! ### is_within -/
def withinB (d : PyData) (lo hi : Int) : Bool := match d with
  | .int i => decide (lo ≤ i) && decide (i ≤ hi)
  | _ => false
def sp_is_within : DSp
  | [.dat d, .dat (.int lo), .dat (.int hi)], R => R (.dat (.bool (withinB d lo hi)))
  | _, _ => False
/-- is_within: 0 thing, 1 low, 2 high -/
abbrev b_is_within : DS := (dRet (dAndV (d1 (isiD "int") (dVar 0)) (dAndV (dNotV (d1 (isiD "bool") (dVar 0))) (dChain leD leD (dVar 1) (dVar 0) (dVar 2)))))
theorem rd_is_within (svs : List SV) (R : RVd → Prop) (h : sp_is_within svs R) : b_is_within { nx := fun _ => R (.dat .none), rt := R } (startd 3 svs) := by
  unfold sp_is_within at h
  split at h
  · rename_i d lo hi
    simp only [b_is_within, isi_int, isi_bool, dSeq, dAsgG, dAsgN, dRet, dRetN, dRetO, dRet0, dDrop, dIfS, dNext, dApp, dInsert, q_setI, q_setQ, q_take, dFor, dFreeze, dNever, q_par, q_parQ, q_par3, q_parQ3, dParNE, dParDE, gdName, q_gnil, q_gcons, q_gtup, dVar, dOwn, dC, d1, d2, n2, nCons, nNil, nLst, dTup, dFr, dTest, dAnd, dOr, dNot, dAndV, dOrV, dNotV, dIf, dChain, dCB, nCB, dCall, nCall, aDat, aBag, aNil, q_neg, q_add, q_addl, q_addt, q_sub, q_mul, q_mull, q_mult, q_fdiv, q_mod, q_pow, q_lt, q_le, q_gt, q_ge, eqD, neD, isD, isntD, q_isnn, q_isni, q_isnb, q_isnt, q_isnl, q_lenl, q_lent, q_inti, q_intb, q_max2, q_min2, q_listl, q_listt, q_tuplel, q_tuplet, q_sum, q_min, q_max, allD, itSeq, itR1, q_itR2, q_rng2, q_en, q_en1, q_zip, q_zipQ, q_seqr, q_lenr, q_ixr, q_seql, q_seqt, q_rvd, q_rvn, q_catn, q_ixl, q_ixt, q_sl, q_sll, q_slt, q_slr, nSlL, oNone, oSome, nLc, wipeD, q_dropc, q_dropxd, q_dropxb, q_dropxo, q_dropxn, q_drope, dYes, dCnt, q_revl, q_revt, q_revr, nListRg, dTupRg, exInts, exOpt, q_addr1, q_addrr, q_ixk0, q_ixk1, exRow, exTk, cntL, cntQ_some, cntQ_none, List.getElem?_cons_zero, List.getElem?_cons_succ, List.getElem?_nil, Option.some.injEq, SV.dat.injEq, SV.own.injEq, PyData.int.injEq, PyData.bool.injEq, PyData.tuple.injEq, PyData.list.injEq, PyData.str.injEq, RVd.new.injEq, RVd.dat.injEq, exists_eq_left, exists_eq_left', exists_eq_right, List.cons.injEq, List.set_cons_zero, List.set_cons_succ, reduceCtorEq, and_true, true_and, false_and, and_false, not_true_eq_false, not_false_eq_true, if_true, if_false, ite_true, ite_false, decide_eq_true_eq, Bool.not_eq_true', decide_eq_false_iff_not, Bool.and_true, Bool.true_and, Bool.and_false, Bool.false_and, Bool.not_true, Bool.not_false, Bool.false_eq_true, List.map_cons, List.map_nil, List.length_cons, List.length_nil, Nat.zero_add, Nat.reduceAdd, Nat.reduceLeDiff, startd, List.replicate_succ, List.replicate_zero, List.nil_append, List.cons_append, Nat.reduceSub, exists_const, and_self, shp_int, shp_none, shp_bool, eqv_int, dForL_nil, lcL_nil]
    cases d with
    | int i =>
      simp only [isIntB, isBoolB, withinB, dSeq, dAsgG, dAsgN, dRet, dRetN, dRetO, dRet0, dDrop, dIfS, dNext, dApp, dInsert, q_setI, q_setQ, q_take, dFor, dFreeze, dNever, q_par, q_parQ, q_par3, q_parQ3, dParNE, dParDE, gdName, q_gnil, q_gcons, q_gtup, dVar, dOwn, dC, d1, d2, n2, nCons, nNil, nLst, dTup, dFr, dTest, dAnd, dOr, dNot, dAndV, dOrV, dNotV, dIf, dChain, dCB, nCB, dCall, nCall, aDat, aBag, aNil, q_neg, q_add, q_addl, q_addt, q_sub, q_mul, q_mull, q_mult, q_fdiv, q_mod, q_pow, q_lt, q_le, q_gt, q_ge, eqD, neD, isD, isntD, q_isnn, q_isni, q_isnb, q_isnt, q_isnl, q_lenl, q_lent, q_inti, q_intb, q_max2, q_min2, q_listl, q_listt, q_tuplel, q_tuplet, q_sum, q_min, q_max, allD, itSeq, itR1, q_itR2, q_rng2, q_en, q_en1, q_zip, q_zipQ, q_seqr, q_lenr, q_ixr, q_seql, q_seqt, q_rvd, q_rvn, q_catn, q_ixl, q_ixt, q_sl, q_sll, q_slt, q_slr, nSlL, oNone, oSome, nLc, wipeD, q_dropc, q_dropxd, q_dropxb, q_dropxo, q_dropxn, q_drope, dYes, dCnt, q_revl, q_revt, q_revr, nListRg, dTupRg, exInts, exOpt, q_addr1, q_addrr, q_ixk0, q_ixk1, exRow, exTk, cntL, cntQ_some, cntQ_none, List.getElem?_cons_zero, List.getElem?_cons_succ, List.getElem?_nil, Option.some.injEq, SV.dat.injEq, SV.own.injEq, PyData.int.injEq, PyData.bool.injEq, PyData.tuple.injEq, PyData.list.injEq, PyData.str.injEq, RVd.new.injEq, RVd.dat.injEq, exists_eq_left, exists_eq_left', exists_eq_right, List.cons.injEq, List.set_cons_zero, List.set_cons_succ, reduceCtorEq, and_true, true_and, false_and, and_false, not_true_eq_false, not_false_eq_true, if_true, if_false, ite_true, ite_false, decide_eq_true_eq, Bool.not_eq_true', decide_eq_false_iff_not, Bool.and_true, Bool.true_and, Bool.and_false, Bool.false_and, Bool.not_true, Bool.not_false, Bool.false_eq_true, List.map_cons, List.map_nil, List.length_cons, List.length_nil, Nat.zero_add, Nat.reduceAdd, Nat.reduceLeDiff, startd, List.replicate_succ, List.replicate_zero, List.nil_append, List.cons_append, Nat.reduceSub, exists_const, and_self, shp_int, shp_none, shp_bool, eqv_int, dForL_nil, lcL_nil] at h ⊢
      by_cases h1 : lo ≤ i
      · simp only [h1, dSeq, dAsgG, dAsgN, dRet, dRetN, dRetO, dRet0, dDrop, dIfS, dNext, dApp, dInsert, q_setI, q_setQ, q_take, dFor, dFreeze, dNever, q_par, q_parQ, q_par3, q_parQ3, dParNE, dParDE, gdName, q_gnil, q_gcons, q_gtup, dVar, dOwn, dC, d1, d2, n2, nCons, nNil, nLst, dTup, dFr, dTest, dAnd, dOr, dNot, dAndV, dOrV, dNotV, dIf, dChain, dCB, nCB, dCall, nCall, aDat, aBag, aNil, q_neg, q_add, q_addl, q_addt, q_sub, q_mul, q_mull, q_mult, q_fdiv, q_mod, q_pow, q_lt, q_le, q_gt, q_ge, eqD, neD, isD, isntD, q_isnn, q_isni, q_isnb, q_isnt, q_isnl, q_lenl, q_lent, q_inti, q_intb, q_max2, q_min2, q_listl, q_listt, q_tuplel, q_tuplet, q_sum, q_min, q_max, allD, itSeq, itR1, q_itR2, q_rng2, q_en, q_en1, q_zip, q_zipQ, q_seqr, q_lenr, q_ixr, q_seql, q_seqt, q_rvd, q_rvn, q_catn, q_ixl, q_ixt, q_sl, q_sll, q_slt, q_slr, nSlL, oNone, oSome, nLc, wipeD, q_dropc, q_dropxd, q_dropxb, q_dropxo, q_dropxn, q_drope, dYes, dCnt, q_revl, q_revt, q_revr, nListRg, dTupRg, exInts, exOpt, q_addr1, q_addrr, q_ixk0, q_ixk1, exRow, exTk, cntL, cntQ_some, cntQ_none, List.getElem?_cons_zero, List.getElem?_cons_succ, List.getElem?_nil, Option.some.injEq, SV.dat.injEq, SV.own.injEq, PyData.int.injEq, PyData.bool.injEq, PyData.tuple.injEq, PyData.list.injEq, PyData.str.injEq, RVd.new.injEq, RVd.dat.injEq, exists_eq_left, exists_eq_left', exists_eq_right, List.cons.injEq, List.set_cons_zero, List.set_cons_succ, reduceCtorEq, and_true, true_and, false_and, and_false, not_true_eq_false, not_false_eq_true, if_true, if_false, ite_true, ite_false, decide_eq_true_eq, Bool.not_eq_true', decide_eq_false_iff_not, Bool.and_true, Bool.true_and, Bool.and_false, Bool.false_and, Bool.not_true, Bool.not_false, Bool.false_eq_true, List.map_cons, List.map_nil, List.length_cons, List.length_nil, Nat.zero_add, Nat.reduceAdd, Nat.reduceLeDiff, startd, List.replicate_succ, List.replicate_zero, List.nil_append, List.cons_append, Nat.reduceSub, exists_const, and_self, shp_int, shp_none, shp_bool, eqv_int, dForL_nil, lcL_nil] at h ⊢
        exact h
      · simp only [h1, dSeq, dAsgG, dAsgN, dRet, dRetN, dRetO, dRet0, dDrop, dIfS, dNext, dApp, dInsert, q_setI, q_setQ, q_take, dFor, dFreeze, dNever, q_par, q_parQ, q_par3, q_parQ3, dParNE, dParDE, gdName, q_gnil, q_gcons, q_gtup, dVar, dOwn, dC, d1, d2, n2, nCons, nNil, nLst, dTup, dFr, dTest, dAnd, dOr, dNot, dAndV, dOrV, dNotV, dIf, dChain, dCB, nCB, dCall, nCall, aDat, aBag, aNil, q_neg, q_add, q_addl, q_addt, q_sub, q_mul, q_mull, q_mult, q_fdiv, q_mod, q_pow, q_lt, q_le, q_gt, q_ge, eqD, neD, isD, isntD, q_isnn, q_isni, q_isnb, q_isnt, q_isnl, q_lenl, q_lent, q_inti, q_intb, q_max2, q_min2, q_listl, q_listt, q_tuplel, q_tuplet, q_sum, q_min, q_max, allD, itSeq, itR1, q_itR2, q_rng2, q_en, q_en1, q_zip, q_zipQ, q_seqr, q_lenr, q_ixr, q_seql, q_seqt, q_rvd, q_rvn, q_catn, q_ixl, q_ixt, q_sl, q_sll, q_slt, q_slr, nSlL, oNone, oSome, nLc, wipeD, q_dropc, q_dropxd, q_dropxb, q_dropxo, q_dropxn, q_drope, dYes, dCnt, q_revl, q_revt, q_revr, nListRg, dTupRg, exInts, exOpt, q_addr1, q_addrr, q_ixk0, q_ixk1, exRow, exTk, cntL, cntQ_some, cntQ_none, List.getElem?_cons_zero, List.getElem?_cons_succ, List.getElem?_nil, Option.some.injEq, SV.dat.injEq, SV.own.injEq, PyData.int.injEq, PyData.bool.injEq, PyData.tuple.injEq, PyData.list.injEq, PyData.str.injEq, RVd.new.injEq, RVd.dat.injEq, exists_eq_left, exists_eq_left', exists_eq_right, List.cons.injEq, List.set_cons_zero, List.set_cons_succ, reduceCtorEq, and_true, true_and, false_and, and_false, not_true_eq_false, not_false_eq_true, if_true, if_false, ite_true, ite_false, decide_eq_true_eq, Bool.not_eq_true', decide_eq_false_iff_not, Bool.and_true, Bool.true_and, Bool.and_false, Bool.false_and, Bool.not_true, Bool.not_false, Bool.false_eq_true, List.map_cons, List.map_nil, List.length_cons, List.length_nil, Nat.zero_add, Nat.reduceAdd, Nat.reduceLeDiff, startd, List.replicate_succ, List.replicate_zero, List.nil_append, List.cons_append, Nat.reduceSub, exists_const, and_self, shp_int, shp_none, shp_bool, eqv_int, dForL_nil, lcL_nil] at h ⊢
        exact h
    | _ =>
      simp only [isIntB, isBoolB, withinB, dSeq, dAsgG, dAsgN, dRet, dRetN, dRetO, dRet0, dDrop, dIfS, dNext, dApp, dInsert, q_setI, q_setQ, q_take, dFor, dFreeze, dNever, q_par, q_parQ, q_par3, q_parQ3, dParNE, dParDE, gdName, q_gnil, q_gcons, q_gtup, dVar, dOwn, dC, d1, d2, n2, nCons, nNil, nLst, dTup, dFr, dTest, dAnd, dOr, dNot, dAndV, dOrV, dNotV, dIf, dChain, dCB, nCB, dCall, nCall, aDat, aBag, aNil, q_neg, q_add, q_addl, q_addt, q_sub, q_mul, q_mull, q_mult, q_fdiv, q_mod, q_pow, q_lt, q_le, q_gt, q_ge, eqD, neD, isD, isntD, q_isnn, q_isni, q_isnb, q_isnt, q_isnl, q_lenl, q_lent, q_inti, q_intb, q_max2, q_min2, q_listl, q_listt, q_tuplel, q_tuplet, q_sum, q_min, q_max, allD, itSeq, itR1, q_itR2, q_rng2, q_en, q_en1, q_zip, q_zipQ, q_seqr, q_lenr, q_ixr, q_seql, q_seqt, q_rvd, q_rvn, q_catn, q_ixl, q_ixt, q_sl, q_sll, q_slt, q_slr, nSlL, oNone, oSome, nLc, wipeD, q_dropc, q_dropxd, q_dropxb, q_dropxo, q_dropxn, q_drope, dYes, dCnt, q_revl, q_revt, q_revr, nListRg, dTupRg, exInts, exOpt, q_addr1, q_addrr, q_ixk0, q_ixk1, exRow, exTk, cntL, cntQ_some, cntQ_none, List.getElem?_cons_zero, List.getElem?_cons_succ, List.getElem?_nil, Option.some.injEq, SV.dat.injEq, SV.own.injEq, PyData.int.injEq, PyData.bool.injEq, PyData.tuple.injEq, PyData.list.injEq, PyData.str.injEq, RVd.new.injEq, RVd.dat.injEq, exists_eq_left, exists_eq_left', exists_eq_right, List.cons.injEq, List.set_cons_zero, List.set_cons_succ, reduceCtorEq, and_true, true_and, false_and, and_false, not_true_eq_false, not_false_eq_true, if_true, if_false, ite_true, ite_false, decide_eq_true_eq, Bool.not_eq_true', decide_eq_false_iff_not, Bool.and_true, Bool.true_and, Bool.and_false, Bool.false_and, Bool.not_true, Bool.not_false, Bool.false_eq_true, List.map_cons, List.map_nil, List.length_cons, List.length_nil, Nat.zero_add, Nat.reduceAdd, Nat.reduceLeDiff, startd, List.replicate_succ, List.replicate_zero, List.nil_append, List.cons_append, Nat.reduceSub, exists_const, and_self, shp_int, shp_none, shp_bool, eqv_int, dForL_nil, lcL_nil] at h ⊢
      exact h
  · exact h.elim
theorem len_is_within (svs : List SV) (R : RVd → Prop) (h : sp_is_within svs R) : svs.length = 3 := by
  unfold sp_is_within at h
  split at h
  · rfl
  · exact h.elim
/-! ### is_taker -/
def takerB : PyData → Bool
  | .tuple [.int e, b] => (decide (2 ≤ e) && decide (e ≤ 1000)) && withinB b 0 (e - 1)
  | _ => false
def sp_is_taker : DSp
  | [.dat d], R => R (.dat (.bool (takerB d)))
  | _, _ => False
/-- is_taker: 0 thing -/
abbrev b_is_taker : DS := (dSeq (dIfS (dOr (dNot (dTest (d1 (isiD "tuple") (dVar 0)))) (dOr (dTest (d2 neD (dCB lenD (nCons (dVar 0) nNil)) (dC (.int 2)))) (dNot (dTest (dCall sp_is_within (aDat (d2 ixD (dVar 0) (dC (.int 0))) (aDat (dC (.int 2)) (aDat (dC (.int 1000)) aNil)))))))) (dRet (dC (.bool false))) dNext)
  (dRet (dCall sp_is_within (aDat (d2 ixD (dVar 0) (dC (.int 1))) (aDat (dC (.int 0)) (aDat (d2 subD (d2 ixD (dVar 0) (dC (.int 0))) (dC (.int 1))) aNil))))))
theorem at0 {α : Type} {x : α} {r : List α} : atI (x :: r) 0 = some x := atI_nat (j := 0) rfl
theorem at1 {α : Type} {x y : α} {r : List α} : atI (x :: y :: r) 1 = some y := atI_nat (j := 1) rfl
theorem rd_is_taker (svs : List SV) (R : RVd → Prop) (h : sp_is_taker svs R) : b_is_taker { nx := fun _ => R (.dat .none), rt := R } (startd 1 svs) := by
  unfold sp_is_taker at h
  split at h
  · rename_i d
    simp only [b_is_taker, isi_tup, sp_is_within, dSeq, dAsgG, dAsgN, dRet, dRetN, dRetO, dRet0, dDrop, dIfS, dNext, dApp, dInsert, q_setI, q_setQ, q_take, dFor, dFreeze, dNever, q_par, q_parQ, q_par3, q_parQ3, dParNE, dParDE, gdName, q_gnil, q_gcons, q_gtup, dVar, dOwn, dC, d1, d2, n2, nCons, nNil, nLst, dTup, dFr, dTest, dAnd, dOr, dNot, dAndV, dOrV, dNotV, dIf, dChain, dCB, nCB, dCall, nCall, aDat, aBag, aNil, q_neg, q_add, q_addl, q_addt, q_sub, q_mul, q_mull, q_mult, q_fdiv, q_mod, q_pow, q_lt, q_le, q_gt, q_ge, eqD, neD, isD, isntD, q_isnn, q_isni, q_isnb, q_isnt, q_isnl, q_lenl, q_lent, q_inti, q_intb, q_max2, q_min2, q_listl, q_listt, q_tuplel, q_tuplet, q_sum, q_min, q_max, allD, itSeq, itR1, q_itR2, q_rng2, q_en, q_en1, q_zip, q_zipQ, q_seqr, q_lenr, q_ixr, q_seql, q_seqt, q_rvd, q_rvn, q_catn, q_ixl, q_ixt, q_sl, q_sll, q_slt, q_slr, nSlL, oNone, oSome, nLc, wipeD, q_dropc, q_dropxd, q_dropxb, q_dropxo, q_dropxn, q_drope, dYes, dCnt, q_revl, q_revt, q_revr, nListRg, dTupRg, exInts, exOpt, q_addr1, q_addrr, q_ixk0, q_ixk1, exRow, exTk, cntL, cntQ_some, cntQ_none, List.getElem?_cons_zero, List.getElem?_cons_succ, List.getElem?_nil, Option.some.injEq, SV.dat.injEq, SV.own.injEq, PyData.int.injEq, PyData.bool.injEq, PyData.tuple.injEq, PyData.list.injEq, PyData.str.injEq, RVd.new.injEq, RVd.dat.injEq, exists_eq_left, exists_eq_left', exists_eq_right, List.cons.injEq, List.set_cons_zero, List.set_cons_succ, reduceCtorEq, and_true, true_and, false_and, and_false, not_true_eq_false, not_false_eq_true, if_true, if_false, ite_true, ite_false, decide_eq_true_eq, Bool.not_eq_true', decide_eq_false_iff_not, Bool.and_true, Bool.true_and, Bool.and_false, Bool.false_and, Bool.not_true, Bool.not_false, Bool.false_eq_true, List.map_cons, List.map_nil, List.length_cons, List.length_nil, Nat.zero_add, Nat.reduceAdd, Nat.reduceLeDiff, startd, List.replicate_succ, List.replicate_zero, List.nil_append, List.cons_append, Nat.reduceSub, exists_const, and_self, shp_int, shp_none, shp_bool, eqv_int, dForL_nil, lcL_nil]
    cases d with
    | tuple ds =>
      simp only [isTupB, dSeq, dAsgG, dAsgN, dRet, dRetN, dRetO, dRet0, dDrop, dIfS, dNext, dApp, dInsert, q_setI, q_setQ, q_take, dFor, dFreeze, dNever, q_par, q_parQ, q_par3, q_parQ3, dParNE, dParDE, gdName, q_gnil, q_gcons, q_gtup, dVar, dOwn, dC, d1, d2, n2, nCons, nNil, nLst, dTup, dFr, dTest, dAnd, dOr, dNot, dAndV, dOrV, dNotV, dIf, dChain, dCB, nCB, dCall, nCall, aDat, aBag, aNil, q_neg, q_add, q_addl, q_addt, q_sub, q_mul, q_mull, q_mult, q_fdiv, q_mod, q_pow, q_lt, q_le, q_gt, q_ge, eqD, neD, isD, isntD, q_isnn, q_isni, q_isnb, q_isnt, q_isnl, q_lenl, q_lent, q_inti, q_intb, q_max2, q_min2, q_listl, q_listt, q_tuplel, q_tuplet, q_sum, q_min, q_max, allD, itSeq, itR1, q_itR2, q_rng2, q_en, q_en1, q_zip, q_zipQ, q_seqr, q_lenr, q_ixr, q_seql, q_seqt, q_rvd, q_rvn, q_catn, q_ixl, q_ixt, q_sl, q_sll, q_slt, q_slr, nSlL, oNone, oSome, nLc, wipeD, q_dropc, q_dropxd, q_dropxb, q_dropxo, q_dropxn, q_drope, dYes, dCnt, q_revl, q_revt, q_revr, nListRg, dTupRg, exInts, exOpt, q_addr1, q_addrr, q_ixk0, q_ixk1, exRow, exTk, cntL, cntQ_some, cntQ_none, List.getElem?_cons_zero, List.getElem?_cons_succ, List.getElem?_nil, Option.some.injEq, SV.dat.injEq, SV.own.injEq, PyData.int.injEq, PyData.bool.injEq, PyData.tuple.injEq, PyData.list.injEq, PyData.str.injEq, RVd.new.injEq, RVd.dat.injEq, exists_eq_left, exists_eq_left', exists_eq_right, List.cons.injEq, List.set_cons_zero, List.set_cons_succ, reduceCtorEq, and_true, true_and, false_and, and_false, not_true_eq_false, not_false_eq_true, if_true, if_false, ite_true, ite_false, decide_eq_true_eq, Bool.not_eq_true', decide_eq_false_iff_not, Bool.and_true, Bool.true_and, Bool.and_false, Bool.false_and, Bool.not_true, Bool.not_false, Bool.false_eq_true, List.map_cons, List.map_nil, List.length_cons, List.length_nil, Nat.zero_add, Nat.reduceAdd, Nat.reduceLeDiff, startd, List.replicate_succ, List.replicate_zero, List.nil_append, List.cons_append, Nat.reduceSub, exists_const, and_self, shp_int, shp_none, shp_bool, eqv_int, dForL_nil, lcL_nil]
      match ds, h with
      | [], h =>
        have e2 : ¬ ((0 : Nat) : Int) = 2 := by decide
        simp only [e2, not_false_eq_true, takerB, dSeq, dAsgG, dAsgN, dRet, dRetN, dRetO, dRet0, dDrop, dIfS, dNext, dApp, dInsert, q_setI, q_setQ, q_take, dFor, dFreeze, dNever, q_par, q_parQ, q_par3, q_parQ3, dParNE, dParDE, gdName, q_gnil, q_gcons, q_gtup, dVar, dOwn, dC, d1, d2, n2, nCons, nNil, nLst, dTup, dFr, dTest, dAnd, dOr, dNot, dAndV, dOrV, dNotV, dIf, dChain, dCB, nCB, dCall, nCall, aDat, aBag, aNil, q_neg, q_add, q_addl, q_addt, q_sub, q_mul, q_mull, q_mult, q_fdiv, q_mod, q_pow, q_lt, q_le, q_gt, q_ge, eqD, neD, isD, isntD, q_isnn, q_isni, q_isnb, q_isnt, q_isnl, q_lenl, q_lent, q_inti, q_intb, q_max2, q_min2, q_listl, q_listt, q_tuplel, q_tuplet, q_sum, q_min, q_max, allD, itSeq, itR1, q_itR2, q_rng2, q_en, q_en1, q_zip, q_zipQ, q_seqr, q_lenr, q_ixr, q_seql, q_seqt, q_rvd, q_rvn, q_catn, q_ixl, q_ixt, q_sl, q_sll, q_slt, q_slr, nSlL, oNone, oSome, nLc, wipeD, q_dropc, q_dropxd, q_dropxb, q_dropxo, q_dropxn, q_drope, dYes, dCnt, q_revl, q_revt, q_revr, nListRg, dTupRg, exInts, exOpt, q_addr1, q_addrr, q_ixk0, q_ixk1, exRow, exTk, cntL, cntQ_some, cntQ_none, List.getElem?_cons_zero, List.getElem?_cons_succ, List.getElem?_nil, Option.some.injEq, SV.dat.injEq, SV.own.injEq, PyData.int.injEq, PyData.bool.injEq, PyData.tuple.injEq, PyData.list.injEq, PyData.str.injEq, RVd.new.injEq, RVd.dat.injEq, exists_eq_left, exists_eq_left', exists_eq_right, List.cons.injEq, List.set_cons_zero, List.set_cons_succ, reduceCtorEq, and_true, true_and, false_and, and_false, not_true_eq_false, not_false_eq_true, if_true, if_false, ite_true, ite_false, decide_eq_true_eq, Bool.not_eq_true', decide_eq_false_iff_not, Bool.and_true, Bool.true_and, Bool.and_false, Bool.false_and, Bool.not_true, Bool.not_false, Bool.false_eq_true, List.map_cons, List.map_nil, List.length_cons, List.length_nil, Nat.zero_add, Nat.reduceAdd, Nat.reduceLeDiff, startd, List.replicate_succ, List.replicate_zero, List.nil_append, List.cons_append, Nat.reduceSub, exists_const, and_self, shp_int, shp_none, shp_bool, eqv_int, dForL_nil, lcL_nil] at h ⊢
        exact h
      | [a], h =>
        have e2 : ¬ ((1 : Nat) : Int) = 2 := by decide
        simp only [e2, not_false_eq_true, takerB, dSeq, dAsgG, dAsgN, dRet, dRetN, dRetO, dRet0, dDrop, dIfS, dNext, dApp, dInsert, q_setI, q_setQ, q_take, dFor, dFreeze, dNever, q_par, q_parQ, q_par3, q_parQ3, dParNE, dParDE, gdName, q_gnil, q_gcons, q_gtup, dVar, dOwn, dC, d1, d2, n2, nCons, nNil, nLst, dTup, dFr, dTest, dAnd, dOr, dNot, dAndV, dOrV, dNotV, dIf, dChain, dCB, nCB, dCall, nCall, aDat, aBag, aNil, q_neg, q_add, q_addl, q_addt, q_sub, q_mul, q_mull, q_mult, q_fdiv, q_mod, q_pow, q_lt, q_le, q_gt, q_ge, eqD, neD, isD, isntD, q_isnn, q_isni, q_isnb, q_isnt, q_isnl, q_lenl, q_lent, q_inti, q_intb, q_max2, q_min2, q_listl, q_listt, q_tuplel, q_tuplet, q_sum, q_min, q_max, allD, itSeq, itR1, q_itR2, q_rng2, q_en, q_en1, q_zip, q_zipQ, q_seqr, q_lenr, q_ixr, q_seql, q_seqt, q_rvd, q_rvn, q_catn, q_ixl, q_ixt, q_sl, q_sll, q_slt, q_slr, nSlL, oNone, oSome, nLc, wipeD, q_dropc, q_dropxd, q_dropxb, q_dropxo, q_dropxn, q_drope, dYes, dCnt, q_revl, q_revt, q_revr, nListRg, dTupRg, exInts, exOpt, q_addr1, q_addrr, q_ixk0, q_ixk1, exRow, exTk, cntL, cntQ_some, cntQ_none, List.getElem?_cons_zero, List.getElem?_cons_succ, List.getElem?_nil, Option.some.injEq, SV.dat.injEq, SV.own.injEq, PyData.int.injEq, PyData.bool.injEq, PyData.tuple.injEq, PyData.list.injEq, PyData.str.injEq, RVd.new.injEq, RVd.dat.injEq, exists_eq_left, exists_eq_left', exists_eq_right, List.cons.injEq, List.set_cons_zero, List.set_cons_succ, reduceCtorEq, and_true, true_and, false_and, and_false, not_true_eq_false, not_false_eq_true, if_true, if_false, ite_true, ite_false, decide_eq_true_eq, Bool.not_eq_true', decide_eq_false_iff_not, Bool.and_true, Bool.true_and, Bool.and_false, Bool.false_and, Bool.not_true, Bool.not_false, Bool.false_eq_true, List.map_cons, List.map_nil, List.length_cons, List.length_nil, Nat.zero_add, Nat.reduceAdd, Nat.reduceLeDiff, startd, List.replicate_succ, List.replicate_zero, List.nil_append, List.cons_append, Nat.reduceSub, exists_const, and_self, shp_int, shp_none, shp_bool, eqv_int, dForL_nil, lcL_nil] at h ⊢
        exact h
      | [a, b], h =>
        have e2 : ((2 : Nat) : Int) = 2 := rfl
        simp only [List.length_cons, List.length_nil, e2, at0, at1, not_true_eq_false, dSeq, dAsgG, dAsgN, dRet, dRetN, dRetO, dRet0, dDrop, dIfS, dNext, dApp, dInsert, q_setI, q_setQ, q_take, dFor, dFreeze, dNever, q_par, q_parQ, q_par3, q_parQ3, dParNE, dParDE, gdName, q_gnil, q_gcons, q_gtup, dVar, dOwn, dC, d1, d2, n2, nCons, nNil, nLst, dTup, dFr, dTest, dAnd, dOr, dNot, dAndV, dOrV, dNotV, dIf, dChain, dCB, nCB, dCall, nCall, aDat, aBag, aNil, q_neg, q_add, q_addl, q_addt, q_sub, q_mul, q_mull, q_mult, q_fdiv, q_mod, q_pow, q_lt, q_le, q_gt, q_ge, eqD, neD, isD, isntD, q_isnn, q_isni, q_isnb, q_isnt, q_isnl, q_lenl, q_lent, q_inti, q_intb, q_max2, q_min2, q_listl, q_listt, q_tuplel, q_tuplet, q_sum, q_min, q_max, allD, itSeq, itR1, q_itR2, q_rng2, q_en, q_en1, q_zip, q_zipQ, q_seqr, q_lenr, q_ixr, q_seql, q_seqt, q_rvd, q_rvn, q_catn, q_ixl, q_ixt, q_sl, q_sll, q_slt, q_slr, nSlL, oNone, oSome, nLc, wipeD, q_dropc, q_dropxd, q_dropxb, q_dropxo, q_dropxn, q_drope, dYes, dCnt, q_revl, q_revt, q_revr, nListRg, dTupRg, exInts, exOpt, q_addr1, q_addrr, q_ixk0, q_ixk1, exRow, exTk, cntL, cntQ_some, cntQ_none, List.getElem?_cons_zero, List.getElem?_cons_succ, List.getElem?_nil, Option.some.injEq, SV.dat.injEq, SV.own.injEq, PyData.int.injEq, PyData.bool.injEq, PyData.tuple.injEq, PyData.list.injEq, PyData.str.injEq, RVd.new.injEq, RVd.dat.injEq, exists_eq_left, exists_eq_left', exists_eq_right, List.cons.injEq, List.set_cons_zero, List.set_cons_succ, reduceCtorEq, and_true, true_and, false_and, and_false, not_true_eq_false, not_false_eq_true, if_true, if_false, ite_true, ite_false, decide_eq_true_eq, Bool.not_eq_true', decide_eq_false_iff_not, Bool.and_true, Bool.true_and, Bool.and_false, Bool.false_and, Bool.not_true, Bool.not_false, Bool.false_eq_true, List.map_cons, List.map_nil, List.length_cons, List.length_nil, Nat.zero_add, Nat.reduceAdd, Nat.reduceLeDiff, startd, List.replicate_succ, List.replicate_zero, List.nil_append, List.cons_append, Nat.reduceSub, exists_const, and_self, shp_int, shp_none, shp_bool, eqv_int, dForL_nil, lcL_nil]
        cases a with
        | int e =>
          simp only [takerB, withinB, at0, dSeq, dAsgG, dAsgN, dRet, dRetN, dRetO, dRet0, dDrop, dIfS, dNext, dApp, dInsert, q_setI, q_setQ, q_take, dFor, dFreeze, dNever, q_par, q_parQ, q_par3, q_parQ3, dParNE, dParDE, gdName, q_gnil, q_gcons, q_gtup, dVar, dOwn, dC, d1, d2, n2, nCons, nNil, nLst, dTup, dFr, dTest, dAnd, dOr, dNot, dAndV, dOrV, dNotV, dIf, dChain, dCB, nCB, dCall, nCall, aDat, aBag, aNil, q_neg, q_add, q_addl, q_addt, q_sub, q_mul, q_mull, q_mult, q_fdiv, q_mod, q_pow, q_lt, q_le, q_gt, q_ge, eqD, neD, isD, isntD, q_isnn, q_isni, q_isnb, q_isnt, q_isnl, q_lenl, q_lent, q_inti, q_intb, q_max2, q_min2, q_listl, q_listt, q_tuplel, q_tuplet, q_sum, q_min, q_max, allD, itSeq, itR1, q_itR2, q_rng2, q_en, q_en1, q_zip, q_zipQ, q_seqr, q_lenr, q_ixr, q_seql, q_seqt, q_rvd, q_rvn, q_catn, q_ixl, q_ixt, q_sl, q_sll, q_slt, q_slr, nSlL, oNone, oSome, nLc, wipeD, q_dropc, q_dropxd, q_dropxb, q_dropxo, q_dropxn, q_drope, dYes, dCnt, q_revl, q_revt, q_revr, nListRg, dTupRg, exInts, exOpt, q_addr1, q_addrr, q_ixk0, q_ixk1, exRow, exTk, cntL, cntQ_some, cntQ_none, List.getElem?_cons_zero, List.getElem?_cons_succ, List.getElem?_nil, Option.some.injEq, SV.dat.injEq, SV.own.injEq, PyData.int.injEq, PyData.bool.injEq, PyData.tuple.injEq, PyData.list.injEq, PyData.str.injEq, RVd.new.injEq, RVd.dat.injEq, exists_eq_left, exists_eq_left', exists_eq_right, List.cons.injEq, List.set_cons_zero, List.set_cons_succ, reduceCtorEq, and_true, true_and, false_and, and_false, not_true_eq_false, not_false_eq_true, if_true, if_false, ite_true, ite_false, decide_eq_true_eq, Bool.not_eq_true', decide_eq_false_iff_not, Bool.and_true, Bool.true_and, Bool.and_false, Bool.false_and, Bool.not_true, Bool.not_false, Bool.false_eq_true, List.map_cons, List.map_nil, List.length_cons, List.length_nil, Nat.zero_add, Nat.reduceAdd, Nat.reduceLeDiff, startd, List.replicate_succ, List.replicate_zero, List.nil_append, List.cons_append, Nat.reduceSub, exists_const, and_self, shp_int, shp_none, shp_bool, eqv_int, dForL_nil, lcL_nil] at h ⊢
          by_cases h1 : 2 ≤ e
          · by_cases h2 : e ≤ 1000
            · simp only [h1, h2, decide_true, dSeq, dAsgG, dAsgN, dRet, dRetN, dRetO, dRet0, dDrop, dIfS, dNext, dApp, dInsert, q_setI, q_setQ, q_take, dFor, dFreeze, dNever, q_par, q_parQ, q_par3, q_parQ3, dParNE, dParDE, gdName, q_gnil, q_gcons, q_gtup, dVar, dOwn, dC, d1, d2, n2, nCons, nNil, nLst, dTup, dFr, dTest, dAnd, dOr, dNot, dAndV, dOrV, dNotV, dIf, dChain, dCB, nCB, dCall, nCall, aDat, aBag, aNil, q_neg, q_add, q_addl, q_addt, q_sub, q_mul, q_mull, q_mult, q_fdiv, q_mod, q_pow, q_lt, q_le, q_gt, q_ge, eqD, neD, isD, isntD, q_isnn, q_isni, q_isnb, q_isnt, q_isnl, q_lenl, q_lent, q_inti, q_intb, q_max2, q_min2, q_listl, q_listt, q_tuplel, q_tuplet, q_sum, q_min, q_max, allD, itSeq, itR1, q_itR2, q_rng2, q_en, q_en1, q_zip, q_zipQ, q_seqr, q_lenr, q_ixr, q_seql, q_seqt, q_rvd, q_rvn, q_catn, q_ixl, q_ixt, q_sl, q_sll, q_slt, q_slr, nSlL, oNone, oSome, nLc, wipeD, q_dropc, q_dropxd, q_dropxb, q_dropxo, q_dropxn, q_drope, dYes, dCnt, q_revl, q_revt, q_revr, nListRg, dTupRg, exInts, exOpt, q_addr1, q_addrr, q_ixk0, q_ixk1, exRow, exTk, cntL, cntQ_some, cntQ_none, List.getElem?_cons_zero, List.getElem?_cons_succ, List.getElem?_nil, Option.some.injEq, SV.dat.injEq, SV.own.injEq, PyData.int.injEq, PyData.bool.injEq, PyData.tuple.injEq, PyData.list.injEq, PyData.str.injEq, RVd.new.injEq, RVd.dat.injEq, exists_eq_left, exists_eq_left', exists_eq_right, List.cons.injEq, List.set_cons_zero, List.set_cons_succ, reduceCtorEq, and_true, true_and, false_and, and_false, not_true_eq_false, not_false_eq_true, if_true, if_false, ite_true, ite_false, decide_eq_true_eq, Bool.not_eq_true', decide_eq_false_iff_not, Bool.and_true, Bool.true_and, Bool.and_false, Bool.false_and, Bool.not_true, Bool.not_false, Bool.false_eq_true, List.map_cons, List.map_nil, List.length_cons, List.length_nil, Nat.zero_add, Nat.reduceAdd, Nat.reduceLeDiff, startd, List.replicate_succ, List.replicate_zero, List.nil_append, List.cons_append, Nat.reduceSub, exists_const, and_self, shp_int, shp_none, shp_bool, eqv_int, dForL_nil, lcL_nil] at h ⊢
              exact h
            · simp only [h1, h2, decide_true, decide_false, dSeq, dAsgG, dAsgN, dRet, dRetN, dRetO, dRet0, dDrop, dIfS, dNext, dApp, dInsert, q_setI, q_setQ, q_take, dFor, dFreeze, dNever, q_par, q_parQ, q_par3, q_parQ3, dParNE, dParDE, gdName, q_gnil, q_gcons, q_gtup, dVar, dOwn, dC, d1, d2, n2, nCons, nNil, nLst, dTup, dFr, dTest, dAnd, dOr, dNot, dAndV, dOrV, dNotV, dIf, dChain, dCB, nCB, dCall, nCall, aDat, aBag, aNil, q_neg, q_add, q_addl, q_addt, q_sub, q_mul, q_mull, q_mult, q_fdiv, q_mod, q_pow, q_lt, q_le, q_gt, q_ge, eqD, neD, isD, isntD, q_isnn, q_isni, q_isnb, q_isnt, q_isnl, q_lenl, q_lent, q_inti, q_intb, q_max2, q_min2, q_listl, q_listt, q_tuplel, q_tuplet, q_sum, q_min, q_max, allD, itSeq, itR1, q_itR2, q_rng2, q_en, q_en1, q_zip, q_zipQ, q_seqr, q_lenr, q_ixr, q_seql, q_seqt, q_rvd, q_rvn, q_catn, q_ixl, q_ixt, q_sl, q_sll, q_slt, q_slr, nSlL, oNone, oSome, nLc, wipeD, q_dropc, q_dropxd, q_dropxb, q_dropxo, q_dropxn, q_drope, dYes, dCnt, q_revl, q_revt, q_revr, nListRg, dTupRg, exInts, exOpt, q_addr1, q_addrr, q_ixk0, q_ixk1, exRow, exTk, cntL, cntQ_some, cntQ_none, List.getElem?_cons_zero, List.getElem?_cons_succ, List.getElem?_nil, Option.some.injEq, SV.dat.injEq, SV.own.injEq, PyData.int.injEq, PyData.bool.injEq, PyData.tuple.injEq, PyData.list.injEq, PyData.str.injEq, RVd.new.injEq, RVd.dat.injEq, exists_eq_left, exists_eq_left', exists_eq_right, List.cons.injEq, List.set_cons_zero, List.set_cons_succ, reduceCtorEq, and_true, true_and, false_and, and_false, not_true_eq_false, not_false_eq_true, if_true, if_false, ite_true, ite_false, decide_eq_true_eq, Bool.not_eq_true', decide_eq_false_iff_not, Bool.and_true, Bool.true_and, Bool.and_false, Bool.false_and, Bool.not_true, Bool.not_false, Bool.false_eq_true, List.map_cons, List.map_nil, List.length_cons, List.length_nil, Nat.zero_add, Nat.reduceAdd, Nat.reduceLeDiff, startd, List.replicate_succ, List.replicate_zero, List.nil_append, List.cons_append, Nat.reduceSub, exists_const, and_self, shp_int, shp_none, shp_bool, eqv_int, dForL_nil, lcL_nil] at h ⊢
              exact h
          · simp only [h1, decide_false, dSeq, dAsgG, dAsgN, dRet, dRetN, dRetO, dRet0, dDrop, dIfS, dNext, dApp, dInsert, q_setI, q_setQ, q_take, dFor, dFreeze, dNever, q_par, q_parQ, q_par3, q_parQ3, dParNE, dParDE, gdName, q_gnil, q_gcons, q_gtup, dVar, dOwn, dC, d1, d2, n2, nCons, nNil, nLst, dTup, dFr, dTest, dAnd, dOr, dNot, dAndV, dOrV, dNotV, dIf, dChain, dCB, nCB, dCall, nCall, aDat, aBag, aNil, q_neg, q_add, q_addl, q_addt, q_sub, q_mul, q_mull, q_mult, q_fdiv, q_mod, q_pow, q_lt, q_le, q_gt, q_ge, eqD, neD, isD, isntD, q_isnn, q_isni, q_isnb, q_isnt, q_isnl, q_lenl, q_lent, q_inti, q_intb, q_max2, q_min2, q_listl, q_listt, q_tuplel, q_tuplet, q_sum, q_min, q_max, allD, itSeq, itR1, q_itR2, q_rng2, q_en, q_en1, q_zip, q_zipQ, q_seqr, q_lenr, q_ixr, q_seql, q_seqt, q_rvd, q_rvn, q_catn, q_ixl, q_ixt, q_sl, q_sll, q_slt, q_slr, nSlL, oNone, oSome, nLc, wipeD, q_dropc, q_dropxd, q_dropxb, q_dropxo, q_dropxn, q_drope, dYes, dCnt, q_revl, q_revt, q_revr, nListRg, dTupRg, exInts, exOpt, q_addr1, q_addrr, q_ixk0, q_ixk1, exRow, exTk, cntL, cntQ_some, cntQ_none, List.getElem?_cons_zero, List.getElem?_cons_succ, List.getElem?_nil, Option.some.injEq, SV.dat.injEq, SV.own.injEq, PyData.int.injEq, PyData.bool.injEq, PyData.tuple.injEq, PyData.list.injEq, PyData.str.injEq, RVd.new.injEq, RVd.dat.injEq, exists_eq_left, exists_eq_left', exists_eq_right, List.cons.injEq, List.set_cons_zero, List.set_cons_succ, reduceCtorEq, and_true, true_and, false_and, and_false, not_true_eq_false, not_false_eq_true, if_true, if_false, ite_true, ite_false, decide_eq_true_eq, Bool.not_eq_true', decide_eq_false_iff_not, Bool.and_true, Bool.true_and, Bool.and_false, Bool.false_and, Bool.not_true, Bool.not_false, Bool.false_eq_true, List.map_cons, List.map_nil, List.length_cons, List.length_nil, Nat.zero_add, Nat.reduceAdd, Nat.reduceLeDiff, startd, List.replicate_succ, List.replicate_zero, List.nil_append, List.cons_append, Nat.reduceSub, exists_const, and_self, shp_int, shp_none, shp_bool, eqv_int, dForL_nil, lcL_nil] at h ⊢
            exact h
        | _ =>
          simp only [takerB, withinB, dSeq, dAsgG, dAsgN, dRet, dRetN, dRetO, dRet0, dDrop, dIfS, dNext, dApp, dInsert, q_setI, q_setQ, q_take, dFor, dFreeze, dNever, q_par, q_parQ, q_par3, q_parQ3, dParNE, dParDE, gdName, q_gnil, q_gcons, q_gtup, dVar, dOwn, dC, d1, d2, n2, nCons, nNil, nLst, dTup, dFr, dTest, dAnd, dOr, dNot, dAndV, dOrV, dNotV, dIf, dChain, dCB, nCB, dCall, nCall, aDat, aBag, aNil, q_neg, q_add, q_addl, q_addt, q_sub, q_mul, q_mull, q_mult, q_fdiv, q_mod, q_pow, q_lt, q_le, q_gt, q_ge, eqD, neD, isD, isntD, q_isnn, q_isni, q_isnb, q_isnt, q_isnl, q_lenl, q_lent, q_inti, q_intb, q_max2, q_min2, q_listl, q_listt, q_tuplel, q_tuplet, q_sum, q_min, q_max, allD, itSeq, itR1, q_itR2, q_rng2, q_en, q_en1, q_zip, q_zipQ, q_seqr, q_lenr, q_ixr, q_seql, q_seqt, q_rvd, q_rvn, q_catn, q_ixl, q_ixt, q_sl, q_sll, q_slt, q_slr, nSlL, oNone, oSome, nLc, wipeD, q_dropc, q_dropxd, q_dropxb, q_dropxo, q_dropxn, q_drope, dYes, dCnt, q_revl, q_revt, q_revr, nListRg, dTupRg, exInts, exOpt, q_addr1, q_addrr, q_ixk0, q_ixk1, exRow, exTk, cntL, cntQ_some, cntQ_none, List.getElem?_cons_zero, List.getElem?_cons_succ, List.getElem?_nil, Option.some.injEq, SV.dat.injEq, SV.own.injEq, PyData.int.injEq, PyData.bool.injEq, PyData.tuple.injEq, PyData.list.injEq, PyData.str.injEq, RVd.new.injEq, RVd.dat.injEq, exists_eq_left, exists_eq_left', exists_eq_right, List.cons.injEq, List.set_cons_zero, List.set_cons_succ, reduceCtorEq, and_true, true_and, false_and, and_false, not_true_eq_false, not_false_eq_true, if_true, if_false, ite_true, ite_false, decide_eq_true_eq, Bool.not_eq_true', decide_eq_false_iff_not, Bool.and_true, Bool.true_and, Bool.and_false, Bool.false_and, Bool.not_true, Bool.not_false, Bool.false_eq_true, List.map_cons, List.map_nil, List.length_cons, List.length_nil, Nat.zero_add, Nat.reduceAdd, Nat.reduceLeDiff, startd, List.replicate_succ, List.replicate_zero, List.nil_append, List.cons_append, Nat.reduceSub, exists_const, and_self, shp_int, shp_none, shp_bool, eqv_int, dForL_nil, lcL_nil] at h ⊢
          exact h
      | a :: b :: c :: r, h =>
        have e2 : ¬ ((r.length + 1 + 1 + 1 : Nat) : Int) = 2 := by omega
        simp only [List.length_cons, e2, not_false_eq_true, takerB, dSeq, dAsgG, dAsgN, dRet, dRetN, dRetO, dRet0, dDrop, dIfS, dNext, dApp, dInsert, q_setI, q_setQ, q_take, dFor, dFreeze, dNever, q_par, q_parQ, q_par3, q_parQ3, dParNE, dParDE, gdName, q_gnil, q_gcons, q_gtup, dVar, dOwn, dC, d1, d2, n2, nCons, nNil, nLst, dTup, dFr, dTest, dAnd, dOr, dNot, dAndV, dOrV, dNotV, dIf, dChain, dCB, nCB, dCall, nCall, aDat, aBag, aNil, q_neg, q_add, q_addl, q_addt, q_sub, q_mul, q_mull, q_mult, q_fdiv, q_mod, q_pow, q_lt, q_le, q_gt, q_ge, eqD, neD, isD, isntD, q_isnn, q_isni, q_isnb, q_isnt, q_isnl, q_lenl, q_lent, q_inti, q_intb, q_max2, q_min2, q_listl, q_listt, q_tuplel, q_tuplet, q_sum, q_min, q_max, allD, itSeq, itR1, q_itR2, q_rng2, q_en, q_en1, q_zip, q_zipQ, q_seqr, q_lenr, q_ixr, q_seql, q_seqt, q_rvd, q_rvn, q_catn, q_ixl, q_ixt, q_sl, q_sll, q_slt, q_slr, nSlL, oNone, oSome, nLc, wipeD, q_dropc, q_dropxd, q_dropxb, q_dropxo, q_dropxn, q_drope, dYes, dCnt, q_revl, q_revt, q_revr, nListRg, dTupRg, exInts, exOpt, q_addr1, q_addrr, q_ixk0, q_ixk1, exRow, exTk, cntL, cntQ_some, cntQ_none, List.getElem?_cons_zero, List.getElem?_cons_succ, List.getElem?_nil, Option.some.injEq, SV.dat.injEq, SV.own.injEq, PyData.int.injEq, PyData.bool.injEq, PyData.tuple.injEq, PyData.list.injEq, PyData.str.injEq, RVd.new.injEq, RVd.dat.injEq, exists_eq_left, exists_eq_left', exists_eq_right, List.cons.injEq, List.set_cons_zero, List.set_cons_succ, reduceCtorEq, and_true, true_and, false_and, and_false, not_true_eq_false, not_false_eq_true, if_true, if_false, ite_true, ite_false, decide_eq_true_eq, Bool.not_eq_true', decide_eq_false_iff_not, Bool.and_true, Bool.true_and, Bool.and_false, Bool.false_and, Bool.not_true, Bool.not_false, Bool.false_eq_true, List.map_cons, List.map_nil, List.length_cons, List.length_nil, Nat.zero_add, Nat.reduceAdd, Nat.reduceLeDiff, startd, List.replicate_succ, List.replicate_zero, List.nil_append, List.cons_append, Nat.reduceSub, exists_const, and_self, shp_int, shp_none, shp_bool, eqv_int, dForL_nil, lcL_nil] at h ⊢
        exact h
    | _ =>
      simp only [isTupB, takerB, dSeq, dAsgG, dAsgN, dRet, dRetN, dRetO, dRet0, dDrop, dIfS, dNext, dApp, dInsert, q_setI, q_setQ, q_take, dFor, dFreeze, dNever, q_par, q_parQ, q_par3, q_parQ3, dParNE, dParDE, gdName, q_gnil, q_gcons, q_gtup, dVar, dOwn, dC, d1, d2, n2, nCons, nNil, nLst, dTup, dFr, dTest, dAnd, dOr, dNot, dAndV, dOrV, dNotV, dIf, dChain, dCB, nCB, dCall, nCall, aDat, aBag, aNil, q_neg, q_add, q_addl, q_addt, q_sub, q_mul, q_mull, q_mult, q_fdiv, q_mod, q_pow, q_lt, q_le, q_gt, q_ge, eqD, neD, isD, isntD, q_isnn, q_isni, q_isnb, q_isnt, q_isnl, q_lenl, q_lent, q_inti, q_intb, q_max2, q_min2, q_listl, q_listt, q_tuplel, q_tuplet, q_sum, q_min, q_max, allD, itSeq, itR1, q_itR2, q_rng2, q_en, q_en1, q_zip, q_zipQ, q_seqr, q_lenr, q_ixr, q_seql, q_seqt, q_rvd, q_rvn, q_catn, q_ixl, q_ixt, q_sl, q_sll, q_slt, q_slr, nSlL, oNone, oSome, nLc, wipeD, q_dropc, q_dropxd, q_dropxb, q_dropxo, q_dropxn, q_drope, dYes, dCnt, q_revl, q_revt, q_revr, nListRg, dTupRg, exInts, exOpt, q_addr1, q_addrr, q_ixk0, q_ixk1, exRow, exTk, cntL, cntQ_some, cntQ_none, List.getElem?_cons_zero, List.getElem?_cons_succ, List.getElem?_nil, Option.some.injEq, SV.dat.injEq, SV.own.injEq, PyData.int.injEq, PyData.bool.injEq, PyData.tuple.injEq, PyData.list.injEq, PyData.str.injEq, RVd.new.injEq, RVd.dat.injEq, exists_eq_left, exists_eq_left', exists_eq_right, List.cons.injEq, List.set_cons_zero, List.set_cons_succ, reduceCtorEq, and_true, true_and, false_and, and_false, not_true_eq_false, not_false_eq_true, if_true, if_false, ite_true, ite_false, decide_eq_true_eq, Bool.not_eq_true', decide_eq_false_iff_not, Bool.and_true, Bool.true_and, Bool.and_false, Bool.false_and, Bool.not_true, Bool.not_false, Bool.false_eq_true, List.map_cons, List.map_nil, List.length_cons, List.length_nil, Nat.zero_add, Nat.reduceAdd, Nat.reduceLeDiff, startd, List.replicate_succ, List.replicate_zero, List.nil_append, List.cons_append, Nat.reduceSub, exists_const, and_self, shp_int, shp_none, shp_bool, eqv_int, dForL_nil, lcL_nil] at h ⊢
      exact h
  · exact h.elim
theorem len_is_taker (svs : List SV) (R : RVd → Prop) (h : sp_is_taker svs R) : svs.length = 1 := by
  unfold sp_is_taker at h
  split at h
  · rfl
  · exact h.elim
/-! ### is_row -/
def rowB : PyData → Bool
  | .tuple ds => decide (ds.length ≤ 8) && ds.all takerB
  | _ => false
def sp_is_row : DSp
  | [.dat d], R => R (.dat (.bool (rowB d)))
  | _, _ => False
/-- is_row: 0 thing, 1 one -/
abbrev b_is_row : DS := (dRet (dAndV (d1 (isiD "tuple") (dVar 0)) (dAndV (d2 leD (dCB lenD (nCons (dVar 0) nNil)) (dC (.int 8))) (dCB allD (nCons (dFr (nLc (itSeq (dVar 0)) (gdName 1) dYes (dCall sp_is_taker (aDat (dVar 1) aNil)) [1])) nNil)))))
/-- a comprehension whose element is a function of the item -/
theorem lcL_map {g : DG} {te : DE} {env : Denv} {f : PyData → PyData} (hg : ∀ d Q, (g d env fun env' => te env' Q) = Q (f d)) : ∀ (ds : List PyData) (Q : List PyData → Prop), lcL g dYes te env ds Q = Q (ds.map f)
  | [], Q => rfl
  | d :: ds, Q => by
    show (g d env fun env' => te env' fun y => lcL g dYes te env ds fun ys => Q (y :: ys)) = _
    rw [hg d]
    exact lcL_map hg ds fun ys => Q (f d :: ys)
theorem rd_is_row (svs : List SV) (R : RVd → Prop) (h : sp_is_row svs R) : b_is_row { nx := fun _ => R (.dat .none), rt := R } (startd 2 svs) := by
  unfold sp_is_row at h
  split at h
  · rename_i d
    simp only [b_is_row, isi_tup, dSeq, dAsgG, dAsgN, dRet, dRetN, dRetO, dRet0, dDrop, dIfS, dNext, dApp, dInsert, q_setI, q_setQ, q_take, dFor, dFreeze, dNever, q_par, q_parQ, q_par3, q_parQ3, dParNE, dParDE, gdName, q_gnil, q_gcons, q_gtup, dVar, dOwn, dC, d1, d2, n2, nCons, nNil, nLst, dTup, dFr, dTest, dAnd, dOr, dNot, dAndV, dOrV, dNotV, dIf, dChain, dCB, nCB, dCall, nCall, aDat, aBag, aNil, q_neg, q_add, q_addl, q_addt, q_sub, q_mul, q_mull, q_mult, q_fdiv, q_mod, q_pow, q_lt, q_le, q_gt, q_ge, eqD, neD, isD, isntD, q_isnn, q_isni, q_isnb, q_isnt, q_isnl, q_lenl, q_lent, q_inti, q_intb, q_max2, q_min2, q_listl, q_listt, q_tuplel, q_tuplet, q_sum, q_min, q_max, allD, itSeq, itR1, q_itR2, q_rng2, q_en, q_en1, q_zip, q_zipQ, q_seqr, q_lenr, q_ixr, q_seql, q_seqt, q_rvd, q_rvn, q_catn, q_ixl, q_ixt, q_sl, q_sll, q_slt, q_slr, nSlL, oNone, oSome, nLc, wipeD, q_dropc, q_dropxd, q_dropxb, q_dropxo, q_dropxn, q_drope, dYes, dCnt, q_revl, q_revt, q_revr, nListRg, dTupRg, exInts, exOpt, q_addr1, q_addrr, q_ixk0, q_ixk1, exRow, exTk, cntL, cntQ_some, cntQ_none, List.getElem?_cons_zero, List.getElem?_cons_succ, List.getElem?_nil, Option.some.injEq, SV.dat.injEq, SV.own.injEq, PyData.int.injEq, PyData.bool.injEq, PyData.tuple.injEq, PyData.list.injEq, PyData.str.injEq, RVd.new.injEq, RVd.dat.injEq, exists_eq_left, exists_eq_left', exists_eq_right, List.cons.injEq, List.set_cons_zero, List.set_cons_succ, reduceCtorEq, and_true, true_and, false_and, and_false, not_true_eq_false, not_false_eq_true, if_true, if_false, ite_true, ite_false, decide_eq_true_eq, Bool.not_eq_true', decide_eq_false_iff_not, Bool.and_true, Bool.true_and, Bool.and_false, Bool.false_and, Bool.not_true, Bool.not_false, Bool.false_eq_true, List.map_cons, List.map_nil, List.length_cons, List.length_nil, Nat.zero_add, Nat.reduceAdd, Nat.reduceLeDiff, startd, List.replicate_succ, List.replicate_zero, List.nil_append, List.cons_append, Nat.reduceSub, exists_const, and_self, shp_int, shp_none, shp_bool, eqv_int, dForL_nil, lcL_nil]
    cases d with
    | tuple ds =>
      simp only [isTupB, rowB, dSeq, dAsgG, dAsgN, dRet, dRetN, dRetO, dRet0, dDrop, dIfS, dNext, dApp, dInsert, q_setI, q_setQ, q_take, dFor, dFreeze, dNever, q_par, q_parQ, q_par3, q_parQ3, dParNE, dParDE, gdName, q_gnil, q_gcons, q_gtup, dVar, dOwn, dC, d1, d2, n2, nCons, nNil, nLst, dTup, dFr, dTest, dAnd, dOr, dNot, dAndV, dOrV, dNotV, dIf, dChain, dCB, nCB, dCall, nCall, aDat, aBag, aNil, q_neg, q_add, q_addl, q_addt, q_sub, q_mul, q_mull, q_mult, q_fdiv, q_mod, q_pow, q_lt, q_le, q_gt, q_ge, eqD, neD, isD, isntD, q_isnn, q_isni, q_isnb, q_isnt, q_isnl, q_lenl, q_lent, q_inti, q_intb, q_max2, q_min2, q_listl, q_listt, q_tuplel, q_tuplet, q_sum, q_min, q_max, allD, itSeq, itR1, q_itR2, q_rng2, q_en, q_en1, q_zip, q_zipQ, q_seqr, q_lenr, q_ixr, q_seql, q_seqt, q_rvd, q_rvn, q_catn, q_ixl, q_ixt, q_sl, q_sll, q_slt, q_slr, nSlL, oNone, oSome, nLc, wipeD, q_dropc, q_dropxd, q_dropxb, q_dropxo, q_dropxn, q_drope, dYes, dCnt, q_revl, q_revt, q_revr, nListRg, dTupRg, exInts, exOpt, q_addr1, q_addrr, q_ixk0, q_ixk1, exRow, exTk, cntL, cntQ_some, cntQ_none, List.getElem?_cons_zero, List.getElem?_cons_succ, List.getElem?_nil, Option.some.injEq, SV.dat.injEq, SV.own.injEq, PyData.int.injEq, PyData.bool.injEq, PyData.tuple.injEq, PyData.list.injEq, PyData.str.injEq, RVd.new.injEq, RVd.dat.injEq, exists_eq_left, exists_eq_left', exists_eq_right, List.cons.injEq, List.set_cons_zero, List.set_cons_succ, reduceCtorEq, and_true, true_and, false_and, and_false, not_true_eq_false, not_false_eq_true, if_true, if_false, ite_true, ite_false, decide_eq_true_eq, Bool.not_eq_true', decide_eq_false_iff_not, Bool.and_true, Bool.true_and, Bool.and_false, Bool.false_and, Bool.not_true, Bool.not_false, Bool.false_eq_true, List.map_cons, List.map_nil, List.length_cons, List.length_nil, Nat.zero_add, Nat.reduceAdd, Nat.reduceLeDiff, startd, List.replicate_succ, List.replicate_zero, List.nil_append, List.cons_append, Nat.reduceSub, exists_const, and_self, shp_int, shp_none, shp_bool, eqv_int, dForL_nil, lcL_nil] at h ⊢
      by_cases h8 : ds.length ≤ 8
      · have h8' : (ds.length : Int) ≤ 8 := by omega
        simp only [h8, h8', decide_true, dSeq, dAsgG, dAsgN, dRet, dRetN, dRetO, dRet0, dDrop, dIfS, dNext, dApp, dInsert, q_setI, q_setQ, q_take, dFor, dFreeze, dNever, q_par, q_parQ, q_par3, q_parQ3, dParNE, dParDE, gdName, q_gnil, q_gcons, q_gtup, dVar, dOwn, dC, d1, d2, n2, nCons, nNil, nLst, dTup, dFr, dTest, dAnd, dOr, dNot, dAndV, dOrV, dNotV, dIf, dChain, dCB, nCB, dCall, nCall, aDat, aBag, aNil, q_neg, q_add, q_addl, q_addt, q_sub, q_mul, q_mull, q_mult, q_fdiv, q_mod, q_pow, q_lt, q_le, q_gt, q_ge, eqD, neD, isD, isntD, q_isnn, q_isni, q_isnb, q_isnt, q_isnl, q_lenl, q_lent, q_inti, q_intb, q_max2, q_min2, q_listl, q_listt, q_tuplel, q_tuplet, q_sum, q_min, q_max, allD, itSeq, itR1, q_itR2, q_rng2, q_en, q_en1, q_zip, q_zipQ, q_seqr, q_lenr, q_ixr, q_seql, q_seqt, q_rvd, q_rvn, q_catn, q_ixl, q_ixt, q_sl, q_sll, q_slt, q_slr, nSlL, oNone, oSome, nLc, wipeD, q_dropc, q_dropxd, q_dropxb, q_dropxo, q_dropxn, q_drope, dYes, dCnt, q_revl, q_revt, q_revr, nListRg, dTupRg, exInts, exOpt, q_addr1, q_addrr, q_ixk0, q_ixk1, exRow, exTk, cntL, cntQ_some, cntQ_none, List.getElem?_cons_zero, List.getElem?_cons_succ, List.getElem?_nil, Option.some.injEq, SV.dat.injEq, SV.own.injEq, PyData.int.injEq, PyData.bool.injEq, PyData.tuple.injEq, PyData.list.injEq, PyData.str.injEq, RVd.new.injEq, RVd.dat.injEq, exists_eq_left, exists_eq_left', exists_eq_right, List.cons.injEq, List.set_cons_zero, List.set_cons_succ, reduceCtorEq, and_true, true_and, false_and, and_false, not_true_eq_false, not_false_eq_true, if_true, if_false, ite_true, ite_false, decide_eq_true_eq, Bool.not_eq_true', decide_eq_false_iff_not, Bool.and_true, Bool.true_and, Bool.and_false, Bool.false_and, Bool.not_true, Bool.not_false, Bool.false_eq_true, List.map_cons, List.map_nil, List.length_cons, List.length_nil, Nat.zero_add, Nat.reduceAdd, Nat.reduceLeDiff, startd, List.replicate_succ, List.replicate_zero, List.nil_append, List.cons_append, Nat.reduceSub, exists_const, and_self, shp_int, shp_none, shp_bool, eqv_int, dForL_nil, lcL_nil] at h ⊢
        refine ⟨by omega, ?_⟩
        rw [lcL_map (f := fun d => .bool (takerB d)) (fun d Q => by simp only [sp_is_taker, dSeq, dAsgG, dAsgN, dRet, dRetN, dRetO, dRet0, dDrop, dIfS, dNext, dApp, dInsert, q_setI, q_setQ, q_take, dFor, dFreeze, dNever, q_par, q_parQ, q_par3, q_parQ3, dParNE, dParDE, gdName, q_gnil, q_gcons, q_gtup, dVar, dOwn, dC, d1, d2, n2, nCons, nNil, nLst, dTup, dFr, dTest, dAnd, dOr, dNot, dAndV, dOrV, dNotV, dIf, dChain, dCB, nCB, dCall, nCall, aDat, aBag, aNil, q_neg, q_add, q_addl, q_addt, q_sub, q_mul, q_mull, q_mult, q_fdiv, q_mod, q_pow, q_lt, q_le, q_gt, q_ge, eqD, neD, isD, isntD, q_isnn, q_isni, q_isnb, q_isnt, q_isnl, q_lenl, q_lent, q_inti, q_intb, q_max2, q_min2, q_listl, q_listt, q_tuplel, q_tuplet, q_sum, q_min, q_max, allD, itSeq, itR1, q_itR2, q_rng2, q_en, q_en1, q_zip, q_zipQ, q_seqr, q_lenr, q_ixr, q_seql, q_seqt, q_rvd, q_rvn, q_catn, q_ixl, q_ixt, q_sl, q_sll, q_slt, q_slr, nSlL, oNone, oSome, nLc, wipeD, q_dropc, q_dropxd, q_dropxb, q_dropxo, q_dropxn, q_drope, dYes, dCnt, q_revl, q_revt, q_revr, nListRg, dTupRg, exInts, exOpt, q_addr1, q_addrr, q_ixk0, q_ixk1, exRow, exTk, cntL, cntQ_some, cntQ_none, List.getElem?_cons_zero, List.getElem?_cons_succ, List.getElem?_nil, Option.some.injEq, SV.dat.injEq, SV.own.injEq, PyData.int.injEq, PyData.bool.injEq, PyData.tuple.injEq, PyData.list.injEq, PyData.str.injEq, RVd.new.injEq, RVd.dat.injEq, exists_eq_left, exists_eq_left', exists_eq_right, List.cons.injEq, List.set_cons_zero, List.set_cons_succ, reduceCtorEq, and_true, true_and, false_and, and_false, not_true_eq_false, not_false_eq_true, if_true, if_false, ite_true, ite_false, decide_eq_true_eq, Bool.not_eq_true', decide_eq_false_iff_not, Bool.and_true, Bool.true_and, Bool.and_false, Bool.false_and, Bool.not_true, Bool.not_false, Bool.false_eq_true, List.map_cons, List.map_nil, List.length_cons, List.length_nil, Nat.zero_add, Nat.reduceAdd, Nat.reduceLeDiff, startd, List.replicate_succ, List.replicate_zero, List.nil_append, List.cons_append, Nat.reduceSub, exists_const, and_self, shp_int, shp_none, shp_bool, eqv_int, dForL_nil, lcL_nil])]
        refine ⟨ds.map takerB, ?_, ?_⟩
        · rw [List.map_map]
          rfl
        · rw [List.all_map]
          exact h
      · have h8' : ¬ (ds.length : Int) ≤ 8 := by omega
        simp only [h8, h8', decide_false, dSeq, dAsgG, dAsgN, dRet, dRetN, dRetO, dRet0, dDrop, dIfS, dNext, dApp, dInsert, q_setI, q_setQ, q_take, dFor, dFreeze, dNever, q_par, q_parQ, q_par3, q_parQ3, dParNE, dParDE, gdName, q_gnil, q_gcons, q_gtup, dVar, dOwn, dC, d1, d2, n2, nCons, nNil, nLst, dTup, dFr, dTest, dAnd, dOr, dNot, dAndV, dOrV, dNotV, dIf, dChain, dCB, nCB, dCall, nCall, aDat, aBag, aNil, q_neg, q_add, q_addl, q_addt, q_sub, q_mul, q_mull, q_mult, q_fdiv, q_mod, q_pow, q_lt, q_le, q_gt, q_ge, eqD, neD, isD, isntD, q_isnn, q_isni, q_isnb, q_isnt, q_isnl, q_lenl, q_lent, q_inti, q_intb, q_max2, q_min2, q_listl, q_listt, q_tuplel, q_tuplet, q_sum, q_min, q_max, allD, itSeq, itR1, q_itR2, q_rng2, q_en, q_en1, q_zip, q_zipQ, q_seqr, q_lenr, q_ixr, q_seql, q_seqt, q_rvd, q_rvn, q_catn, q_ixl, q_ixt, q_sl, q_sll, q_slt, q_slr, nSlL, oNone, oSome, nLc, wipeD, q_dropc, q_dropxd, q_dropxb, q_dropxo, q_dropxn, q_drope, dYes, dCnt, q_revl, q_revt, q_revr, nListRg, dTupRg, exInts, exOpt, q_addr1, q_addrr, q_ixk0, q_ixk1, exRow, exTk, cntL, cntQ_some, cntQ_none, List.getElem?_cons_zero, List.getElem?_cons_succ, List.getElem?_nil, Option.some.injEq, SV.dat.injEq, SV.own.injEq, PyData.int.injEq, PyData.bool.injEq, PyData.tuple.injEq, PyData.list.injEq, PyData.str.injEq, RVd.new.injEq, RVd.dat.injEq, exists_eq_left, exists_eq_left', exists_eq_right, List.cons.injEq, List.set_cons_zero, List.set_cons_succ, reduceCtorEq, and_true, true_and, false_and, and_false, not_true_eq_false, not_false_eq_true, if_true, if_false, ite_true, ite_false, decide_eq_true_eq, Bool.not_eq_true', decide_eq_false_iff_not, Bool.and_true, Bool.true_and, Bool.and_false, Bool.false_and, Bool.not_true, Bool.not_false, Bool.false_eq_true, List.map_cons, List.map_nil, List.length_cons, List.length_nil, Nat.zero_add, Nat.reduceAdd, Nat.reduceLeDiff, startd, List.replicate_succ, List.replicate_zero, List.nil_append, List.cons_append, Nat.reduceSub, exists_const, and_self, shp_int, shp_none, shp_bool, eqv_int, dForL_nil, lcL_nil] at h ⊢
        exact h
    | _ =>
      simp only [isTupB, rowB, dSeq, dAsgG, dAsgN, dRet, dRetN, dRetO, dRet0, dDrop, dIfS, dNext, dApp, dInsert, q_setI, q_setQ, q_take, dFor, dFreeze, dNever, q_par, q_parQ, q_par3, q_parQ3, dParNE, dParDE, gdName, q_gnil, q_gcons, q_gtup, dVar, dOwn, dC, d1, d2, n2, nCons, nNil, nLst, dTup, dFr, dTest, dAnd, dOr, dNot, dAndV, dOrV, dNotV, dIf, dChain, dCB, nCB, dCall, nCall, aDat, aBag, aNil, q_neg, q_add, q_addl, q_addt, q_sub, q_mul, q_mull, q_mult, q_fdiv, q_mod, q_pow, q_lt, q_le, q_gt, q_ge, eqD, neD, isD, isntD, q_isnn, q_isni, q_isnb, q_isnt, q_isnl, q_lenl, q_lent, q_inti, q_intb, q_max2, q_min2, q_listl, q_listt, q_tuplel, q_tuplet, q_sum, q_min, q_max, allD, itSeq, itR1, q_itR2, q_rng2, q_en, q_en1, q_zip, q_zipQ, q_seqr, q_lenr, q_ixr, q_seql, q_seqt, q_rvd, q_rvn, q_catn, q_ixl, q_ixt, q_sl, q_sll, q_slt, q_slr, nSlL, oNone, oSome, nLc, wipeD, q_dropc, q_dropxd, q_dropxb, q_dropxo, q_dropxn, q_drope, dYes, dCnt, q_revl, q_revt, q_revr, nListRg, dTupRg, exInts, exOpt, q_addr1, q_addrr, q_ixk0, q_ixk1, exRow, exTk, cntL, cntQ_some, cntQ_none, List.getElem?_cons_zero, List.getElem?_cons_succ, List.getElem?_nil, Option.some.injEq, SV.dat.injEq, SV.own.injEq, PyData.int.injEq, PyData.bool.injEq, PyData.tuple.injEq, PyData.list.injEq, PyData.str.injEq, RVd.new.injEq, RVd.dat.injEq, exists_eq_left, exists_eq_left', exists_eq_right, List.cons.injEq, List.set_cons_zero, List.set_cons_succ, reduceCtorEq, and_true, true_and, false_and, and_false, not_true_eq_false, not_false_eq_true, if_true, if_false, ite_true, ite_false, decide_eq_true_eq, Bool.not_eq_true', decide_eq_false_iff_not, Bool.and_true, Bool.true_and, Bool.and_false, Bool.false_and, Bool.not_true, Bool.not_false, Bool.false_eq_true, List.map_cons, List.map_nil, List.length_cons, List.length_nil, Nat.zero_add, Nat.reduceAdd, Nat.reduceLeDiff, startd, List.replicate_succ, List.replicate_zero, List.nil_append, List.cons_append, Nat.reduceSub, exists_const, and_self, shp_int, shp_none, shp_bool, eqv_int, dForL_nil, lcL_nil] at h ⊢
      exact h
  · exact h.elim
theorem len_is_row (svs : List SV) (R : RVd → Prop) (h : sp_is_row svs R) : svs.length = 1 := by
  unfold sp_is_row at h
  split at h
  · rfl
  · exact h.elim
/-! ### need_row, need_number (where nothing is refused) -/
def sp_need_row : DSp
  | [.dat d], R => rowB d = true ∧ R (.dat .none)
  | _, _ => False
/-- need_row: 0 row -/
abbrev b_need_row : DS := (dIfS (dNot (dTest (dCall sp_is_row (aDat (dVar 0) aNil)))) dNever dNext)
theorem rd_need_row (svs : List SV) (R : RVd → Prop) (h : sp_need_row svs R) : b_need_row { nx := fun _ => R (.dat .none), rt := R } (startd 1 svs) := by
  unfold sp_need_row at h
  split at h
  · simp only [b_need_row, sp_is_row, h.1, dSeq, dAsgG, dAsgN, dRet, dRetN, dRetO, dRet0, dDrop, dIfS, dNext, dApp, dInsert, q_setI, q_setQ, q_take, dFor, dFreeze, dNever, q_par, q_parQ, q_par3, q_parQ3, dParNE, dParDE, gdName, q_gnil, q_gcons, q_gtup, dVar, dOwn, dC, d1, d2, n2, nCons, nNil, nLst, dTup, dFr, dTest, dAnd, dOr, dNot, dAndV, dOrV, dNotV, dIf, dChain, dCB, nCB, dCall, nCall, aDat, aBag, aNil, q_neg, q_add, q_addl, q_addt, q_sub, q_mul, q_mull, q_mult, q_fdiv, q_mod, q_pow, q_lt, q_le, q_gt, q_ge, eqD, neD, isD, isntD, q_isnn, q_isni, q_isnb, q_isnt, q_isnl, q_lenl, q_lent, q_inti, q_intb, q_max2, q_min2, q_listl, q_listt, q_tuplel, q_tuplet, q_sum, q_min, q_max, allD, itSeq, itR1, q_itR2, q_rng2, q_en, q_en1, q_zip, q_zipQ, q_seqr, q_lenr, q_ixr, q_seql, q_seqt, q_rvd, q_rvn, q_catn, q_ixl, q_ixt, q_sl, q_sll, q_slt, q_slr, nSlL, oNone, oSome, nLc, wipeD, q_dropc, q_dropxd, q_dropxb, q_dropxo, q_dropxn, q_drope, dYes, dCnt, q_revl, q_revt, q_revr, nListRg, dTupRg, exInts, exOpt, q_addr1, q_addrr, q_ixk0, q_ixk1, exRow, exTk, cntL, cntQ_some, cntQ_none, List.getElem?_cons_zero, List.getElem?_cons_succ, List.getElem?_nil, Option.some.injEq, SV.dat.injEq, SV.own.injEq, PyData.int.injEq, PyData.bool.injEq, PyData.tuple.injEq, PyData.list.injEq, PyData.str.injEq, RVd.new.injEq, RVd.dat.injEq, exists_eq_left, exists_eq_left', exists_eq_right, List.cons.injEq, List.set_cons_zero, List.set_cons_succ, reduceCtorEq, and_true, true_and, false_and, and_false, not_true_eq_false, not_false_eq_true, if_true, if_false, ite_true, ite_false, decide_eq_true_eq, Bool.not_eq_true', decide_eq_false_iff_not, Bool.and_true, Bool.true_and, Bool.and_false, Bool.false_and, Bool.not_true, Bool.not_false, Bool.false_eq_true, List.map_cons, List.map_nil, List.length_cons, List.length_nil, Nat.zero_add, Nat.reduceAdd, Nat.reduceLeDiff, startd, List.replicate_succ, List.replicate_zero, List.nil_append, List.cons_append, Nat.reduceSub, exists_const, and_self, shp_int, shp_none, shp_bool, eqv_int, dForL_nil, lcL_nil]
    exact h.2
  · exact h.elim
theorem len_need_row (svs : List SV) (R : RVd → Prop) (h : sp_need_row svs R) : svs.length = 1 := by
  unfold sp_need_row at h
  split at h
  · rfl
  · exact h.elim
/-! ### rows -/
def TkOk (t : Int × Int) : Prop := 2 ≤ t.1 ∧ t.1 ≤ 1000 ∧ 0 ≤ t.2 ∧ t.2 < t.1
def RowOk (rs : List (Int × Int)) : Prop := rs.length ≤ 8 ∧ ∀ t ∈ rs, TkOk t
theorem takerB_ok {t : Int × Int} (h : TkOk t) : takerB (tkD t) = true := by
  obtain ⟨e, c⟩ := t
  obtain ⟨h1, h2, h3, h4⟩ := h
  simp only [tkD, takerB, withinB, Bool.and_eq_true, decide_eq_true_eq]
  dsimp only at h1 h2 h3 h4
  omega
theorem rowB_ok {rs : List (Int × Int)} (h : RowOk rs) : rowB (rowD rs) = true := by
  simp only [rowD, rowB, List.length_map, Bool.and_eq_true, decide_eq_true_eq, List.all_eq_true]
  refine ⟨h.1, fun d hd => ?_⟩
  obtain ⟨t, ht, rfl⟩ := List.mem_map.mp hd
  exact takerB_ok (h.2 t ht)
theorem within_ok {i lo hi : Int} (h1 : lo ≤ i) (h2 : i ≤ hi) : withinB (.int i) lo hi = true := by simp only [withinB, h1, h2, decide_true, Bool.and_self]
/-! ### who -/
def whoG : Int → List (Int × Int) → Int → Option Int
  | _, [], _ => none
  | k, (e, c) :: rs, p => if (p + c) % e = 0 then some k else whoG (k + 1) rs (p - (p + c) / e)
/-! ### counts, taken -/
def countsG : List (Int × Int) → Int → List Int
  | [], n => [n]
  | (e, c) :: rs, n => (n + c) / e :: countsG rs (n - (n + c) / e)
end Pd

set_option maxRecDepth 100000
set_option maxHeartbeats 4000000
/-! The laws' own helpers: draws, takers, rows, pieces one by one, numbers. -/
namespace Pd
open PySem L2
open Evl (Ex)
abbrev sp_law_take : DSp := spTake
abbrev sp_law_draws : DSp := spDraws
/-! ### draws -/
/-- _law_draws: 0 cell, 1 many, 2 size, 3 found, 4 rest, 5 stirred, 6 k -/
abbrev b_law_draws : DS := (dSeq (dAsgN (nLst nNil) 3)
  (dSeq (dAsgG (d2 mulD (dVar 0) (dCB intD (nCons (d2 geD (dVar 0) (d2 powD (dC (.int 10)) (dC (.int 18)))) nNil))) (gdName 4))
  (dSeq (dAsgG (d2 modD (dVar 0) (dC (.int 2305843009213693951))) (gdName 5))
  (dSeq (dFor (itR1 (nCons (d2 addD (dVar 1) (dC (.int 3))) nNil)) (gdName 6)
  (dSeq (dAsgG (d2 modD (d2 addD (d2 addD (d2 addD (d2 mulD (dVar 5) (dVar 5)) (d2 mulD (dC (.int 48271)) (dVar 5))) (dVar 6)) (dC (.int 1))) (dC (.int 2305843009213693951))) (gdName 5))
  (dIfS (dAnd (dTest (d2 gtD (dVar 6) (dC (.int 2)))) (dTest (d2 gtD (dVar 4) (dC (.int 0))))) (dSeq (dApp 3 (d2 modD (dVar 4) (dVar 2)))
  (dAsgG (d2 fdivD (dVar 4) (dVar 2)) (gdName 4))) (dIfS (dTest (d2 gtD (dVar 6) (dC (.int 2)))) (dApp 3 (d2 modD (d2 fdivD (dVar 5) (dC (.int 4096))) (dVar 2))) dNext))))
  (dRetO 3)))))
theorem draws_loop {D : DEnds} {x0 x1 : Option SV} {g : DG} {tb : DS} (hg : g = gdName 6)
    (htb : tb = (dSeq (dAsgG (d2 modD (d2 addD (d2 addD (d2 addD (d2 mulD (dVar 5) (dVar 5)) (d2 mulD (dC (.int 48271)) (dVar 5))) (dVar 6)) (dC (.int 1))) (dC (.int 2305843009213693951))) (gdName 5))
  (dIfS (dAnd (dTest (d2 gtD (dVar 6) (dC (.int 2)))) (dTest (d2 gtD (dVar 4) (dC (.int 0))))) (dSeq (dApp 3 (d2 modD (dVar 4) (dVar 2)))
  (dAsgG (d2 fdivD (dVar 4) (dVar 2)) (gdName 4))) (dIfS (dTest (d2 gtD (dVar 6) (dC (.int 2)))) (dApp 3 (d2 modD (d2 fdivD (dVar 5) (dC (.int 4096))) (dVar 2))) dNext)))) :
    ∀ (m k : Nat) (acc : List Int) (rest st : Int) (x6 : Option SV), 0 ≤ st → st < 2305843009213693951 → (∀ x ∈ acc, 0 ≤ x ∧ x < 1000) → acc.length = k - 3 → k ≤ 1000 →
      (∀ (acc' : List Int) (rest st : Int) (x6 : Option SV), (∀ x ∈ acc', 0 ≤ x ∧ x < 1000) → acc'.length = k + m - 3 → D.nx [x0, x1, some (.dat (.int 1000)), some (.own (acc'.map .int)), some (.dat (.int rest)), some (.dat (.int st)), x6]) → m + k ≤ 1000 →
      dForL g tb ((List.range' k m).map fun i => .int ((0 : Int) + (i : Nat))) D [x0, x1, some (.dat (.int 1000)), some (.own (acc.map .int)), some (.dat (.int rest)), some (.dat (.int st)), x6]
  | 0, k, acc, rest, st, x6, _, _, ha, hl, _, h, _ => h acc rest st x6 ha (by simpa using hl)
  | m + 1, k, acc, rest, st, x6, s0, s1, ha, hl, hk, h, hm => by
    rw [List.range'_succ, List.map_cons, dForL_cons, hg, htb]
    have m1 : mulOk st st := .inl ⟨by omega, by omega⟩
    have m2 : mulOk 48271 st := .inl ⟨by decide, by omega⟩
    have l1 : acc.length < 1000000 := by omega
    simp only [m1, m2, List.length_map, l1, show (0 : Int) < 2305843009213693951 by decide, show (0 : Int) < 1000 by decide, show (0 : Int) < 4096 by decide, show (1000 : Int).natAbs < 2 ^ 1000 by decide, show (4096 : Int).natAbs < 2 ^ 1000 by decide, dSeq, dAsgG, dAsgN, dRet, dRetN, dRetO, dRet0, dDrop, dIfS, dNext, dApp, dInsert, q_setI, q_setQ, q_take, dFor, dFreeze, dNever, q_par, q_parQ, q_par3, q_parQ3, dParNE, dParDE, gdName, q_gnil, q_gcons, q_gtup, dVar, dOwn, dC, d1, d2, n2, nCons, nNil, nLst, dTup, dFr, dTest, dAnd, dOr, dNot, dAndV, dOrV, dNotV, dIf, dChain, dCB, nCB, dCall, nCall, aDat, aBag, aNil, q_neg, q_add, q_addl, q_addt, q_sub, q_mul, q_mull, q_mult, q_fdiv, q_mod, q_pow, q_lt, q_le, q_gt, q_ge, eqD, neD, isD, isntD, q_isnn, q_isni, q_isnb, q_isnt, q_isnl, q_lenl, q_lent, q_inti, q_intb, q_max2, q_min2, q_listl, q_listt, q_tuplel, q_tuplet, q_sum, q_min, q_max, allD, itSeq, itR1, q_itR2, q_rng2, q_en, q_en1, q_zip, q_zipQ, q_seqr, q_lenr, q_ixr, q_seql, q_seqt, q_rvd, q_rvn, q_catn, q_ixl, q_ixt, q_sl, q_sll, q_slt, q_slr, nSlL, oNone, oSome, nLc, wipeD, q_dropc, q_dropxd, q_dropxb, q_dropxo, q_dropxn, q_drope, dYes, dCnt, q_revl, q_revt, q_revr, nListRg, dTupRg, exInts, exOpt, q_addr1, q_addrr, q_ixk0, q_ixk1, exRow, exTk, cntL, cntQ_some, cntQ_none, List.getElem?_cons_zero, List.getElem?_cons_succ, List.getElem?_nil, Option.some.injEq, SV.dat.injEq, SV.own.injEq, PyData.int.injEq, PyData.bool.injEq, PyData.tuple.injEq, PyData.list.injEq, PyData.str.injEq, RVd.new.injEq, RVd.dat.injEq, exists_eq_left, exists_eq_left', exists_eq_right, List.cons.injEq, List.set_cons_zero, List.set_cons_succ, reduceCtorEq, and_true, true_and, false_and, and_false, not_true_eq_false, not_false_eq_true, if_true, if_false, ite_true, ite_false, decide_eq_true_eq, Bool.not_eq_true', decide_eq_false_iff_not, Bool.and_true, Bool.true_and, Bool.and_false, Bool.false_and, Bool.not_true, Bool.not_false, Bool.false_eq_true, List.map_cons, List.map_nil, List.length_cons, List.length_nil, Nat.zero_add, Nat.reduceAdd, Nat.reduceLeDiff, startd, List.replicate_succ, List.replicate_zero, List.nil_append, List.cons_append, Nat.reduceSub, exists_const, and_self, shp_int, shp_none, shp_bool, eqv_int, dForL_nil, lcL_nil]
    generalize hst : (st * st + 48271 * st + ((0 : Int) + (k : Nat)) + 1) % 2305843009213693951 = st'
    have s0' : 0 ≤ st' := by rw [← hst]; exact Int.emod_nonneg _ (by decide)
    have s1' : st' < 2305843009213693951 := by rw [← hst]; exact Int.emod_lt_of_pos _ (by decide)
    have app : ∀ v : Int, 0 ≤ v → v < 1000 → (∀ x ∈ acc ++ [v], 0 ≤ x ∧ x < 1000) := fun v v0 v1 x hx => by
      rcases List.mem_append.mp hx with hx | hx
      · exact ha x hx
      · have : x = v := by simpa using hx
        omega
    have next : ∀ (acc' : List Int) (rest : Int) (x6 : Option SV), (∀ x ∈ acc', 0 ≤ x ∧ x < 1000) → acc'.length = k + 1 - 3 → dForL (gdName 6) _ ((List.range' (k + 1) m).map fun i => .int ((0 : Int) + (i : Nat))) D [x0, x1, some (.dat (.int 1000)), some (.own (acc'.map .int)), some (.dat (.int rest)), some (.dat (.int st')), x6] :=
      fun acc' rest x6 h1 h2 => draws_loop rfl rfl m (k + 1) acc' rest st' x6 s0' s1' h1 h2 (by omega) (fun a r s y h3 h4 => h a r s y h3 (by omega)) (by omega)
    have ea : ∀ v : Int, acc.map PyData.int ++ [.int v] = (acc ++ [v]).map PyData.int := fun v => by simp
    by_cases h2 : (2 : Int) < 0 + (k : Nat)
    · have hk3 : k ≥ 3 := by omega
      by_cases h3 : 0 < rest
      · simp only [h2, h3, dSeq, dAsgG, dAsgN, dRet, dRetN, dRetO, dRet0, dDrop, dIfS, dNext, dApp, dInsert, q_setI, q_setQ, q_take, dFor, dFreeze, dNever, q_par, q_parQ, q_par3, q_parQ3, dParNE, dParDE, gdName, q_gnil, q_gcons, q_gtup, dVar, dOwn, dC, d1, d2, n2, nCons, nNil, nLst, dTup, dFr, dTest, dAnd, dOr, dNot, dAndV, dOrV, dNotV, dIf, dChain, dCB, nCB, dCall, nCall, aDat, aBag, aNil, q_neg, q_add, q_addl, q_addt, q_sub, q_mul, q_mull, q_mult, q_fdiv, q_mod, q_pow, q_lt, q_le, q_gt, q_ge, eqD, neD, isD, isntD, q_isnn, q_isni, q_isnb, q_isnt, q_isnl, q_lenl, q_lent, q_inti, q_intb, q_max2, q_min2, q_listl, q_listt, q_tuplel, q_tuplet, q_sum, q_min, q_max, allD, itSeq, itR1, q_itR2, q_rng2, q_en, q_en1, q_zip, q_zipQ, q_seqr, q_lenr, q_ixr, q_seql, q_seqt, q_rvd, q_rvn, q_catn, q_ixl, q_ixt, q_sl, q_sll, q_slt, q_slr, nSlL, oNone, oSome, nLc, wipeD, q_dropc, q_dropxd, q_dropxb, q_dropxo, q_dropxn, q_drope, dYes, dCnt, q_revl, q_revt, q_revr, nListRg, dTupRg, exInts, exOpt, q_addr1, q_addrr, q_ixk0, q_ixk1, exRow, exTk, cntL, cntQ_some, cntQ_none, List.getElem?_cons_zero, List.getElem?_cons_succ, List.getElem?_nil, Option.some.injEq, SV.dat.injEq, SV.own.injEq, PyData.int.injEq, PyData.bool.injEq, PyData.tuple.injEq, PyData.list.injEq, PyData.str.injEq, RVd.new.injEq, RVd.dat.injEq, exists_eq_left, exists_eq_left', exists_eq_right, List.cons.injEq, List.set_cons_zero, List.set_cons_succ, reduceCtorEq, and_true, true_and, false_and, and_false, not_true_eq_false, not_false_eq_true, if_true, if_false, ite_true, ite_false, decide_eq_true_eq, Bool.not_eq_true', decide_eq_false_iff_not, Bool.and_true, Bool.true_and, Bool.and_false, Bool.false_and, Bool.not_true, Bool.not_false, Bool.false_eq_true, List.map_cons, List.map_nil, List.length_cons, List.length_nil, Nat.zero_add, Nat.reduceAdd, Nat.reduceLeDiff, startd, List.replicate_succ, List.replicate_zero, List.nil_append, List.cons_append, Nat.reduceSub, exists_const, and_self, shp_int, shp_none, shp_bool, eqv_int, dForL_nil, lcL_nil]
        rw [ea]
        exact next _ _ _ (app _ (Int.emod_nonneg _ (by decide)) (Int.emod_lt_of_pos _ (by decide))) (by simp; omega)
      · simp only [h2, h3, dSeq, dAsgG, dAsgN, dRet, dRetN, dRetO, dRet0, dDrop, dIfS, dNext, dApp, dInsert, q_setI, q_setQ, q_take, dFor, dFreeze, dNever, q_par, q_parQ, q_par3, q_parQ3, dParNE, dParDE, gdName, q_gnil, q_gcons, q_gtup, dVar, dOwn, dC, d1, d2, n2, nCons, nNil, nLst, dTup, dFr, dTest, dAnd, dOr, dNot, dAndV, dOrV, dNotV, dIf, dChain, dCB, nCB, dCall, nCall, aDat, aBag, aNil, q_neg, q_add, q_addl, q_addt, q_sub, q_mul, q_mull, q_mult, q_fdiv, q_mod, q_pow, q_lt, q_le, q_gt, q_ge, eqD, neD, isD, isntD, q_isnn, q_isni, q_isnb, q_isnt, q_isnl, q_lenl, q_lent, q_inti, q_intb, q_max2, q_min2, q_listl, q_listt, q_tuplel, q_tuplet, q_sum, q_min, q_max, allD, itSeq, itR1, q_itR2, q_rng2, q_en, q_en1, q_zip, q_zipQ, q_seqr, q_lenr, q_ixr, q_seql, q_seqt, q_rvd, q_rvn, q_catn, q_ixl, q_ixt, q_sl, q_sll, q_slt, q_slr, nSlL, oNone, oSome, nLc, wipeD, q_dropc, q_dropxd, q_dropxb, q_dropxo, q_dropxn, q_drope, dYes, dCnt, q_revl, q_revt, q_revr, nListRg, dTupRg, exInts, exOpt, q_addr1, q_addrr, q_ixk0, q_ixk1, exRow, exTk, cntL, cntQ_some, cntQ_none, List.getElem?_cons_zero, List.getElem?_cons_succ, List.getElem?_nil, Option.some.injEq, SV.dat.injEq, SV.own.injEq, PyData.int.injEq, PyData.bool.injEq, PyData.tuple.injEq, PyData.list.injEq, PyData.str.injEq, RVd.new.injEq, RVd.dat.injEq, exists_eq_left, exists_eq_left', exists_eq_right, List.cons.injEq, List.set_cons_zero, List.set_cons_succ, reduceCtorEq, and_true, true_and, false_and, and_false, not_true_eq_false, not_false_eq_true, if_true, if_false, ite_true, ite_false, decide_eq_true_eq, Bool.not_eq_true', decide_eq_false_iff_not, Bool.and_true, Bool.true_and, Bool.and_false, Bool.false_and, Bool.not_true, Bool.not_false, Bool.false_eq_true, List.map_cons, List.map_nil, List.length_cons, List.length_nil, Nat.zero_add, Nat.reduceAdd, Nat.reduceLeDiff, startd, List.replicate_succ, List.replicate_zero, List.nil_append, List.cons_append, Nat.reduceSub, exists_const, and_self, shp_int, shp_none, shp_bool, eqv_int, dForL_nil, lcL_nil]
        rw [ea]
        exact next _ _ _ (app _ (Int.emod_nonneg _ (by decide)) (Int.emod_lt_of_pos _ (by decide))) (by simp; omega)
    · simp only [h2, dSeq, dAsgG, dAsgN, dRet, dRetN, dRetO, dRet0, dDrop, dIfS, dNext, dApp, dInsert, q_setI, q_setQ, q_take, dFor, dFreeze, dNever, q_par, q_parQ, q_par3, q_parQ3, dParNE, dParDE, gdName, q_gnil, q_gcons, q_gtup, dVar, dOwn, dC, d1, d2, n2, nCons, nNil, nLst, dTup, dFr, dTest, dAnd, dOr, dNot, dAndV, dOrV, dNotV, dIf, dChain, dCB, nCB, dCall, nCall, aDat, aBag, aNil, q_neg, q_add, q_addl, q_addt, q_sub, q_mul, q_mull, q_mult, q_fdiv, q_mod, q_pow, q_lt, q_le, q_gt, q_ge, eqD, neD, isD, isntD, q_isnn, q_isni, q_isnb, q_isnt, q_isnl, q_lenl, q_lent, q_inti, q_intb, q_max2, q_min2, q_listl, q_listt, q_tuplel, q_tuplet, q_sum, q_min, q_max, allD, itSeq, itR1, q_itR2, q_rng2, q_en, q_en1, q_zip, q_zipQ, q_seqr, q_lenr, q_ixr, q_seql, q_seqt, q_rvd, q_rvn, q_catn, q_ixl, q_ixt, q_sl, q_sll, q_slt, q_slr, nSlL, oNone, oSome, nLc, wipeD, q_dropc, q_dropxd, q_dropxb, q_dropxo, q_dropxn, q_drope, dYes, dCnt, q_revl, q_revt, q_revr, nListRg, dTupRg, exInts, exOpt, q_addr1, q_addrr, q_ixk0, q_ixk1, exRow, exTk, cntL, cntQ_some, cntQ_none, List.getElem?_cons_zero, List.getElem?_cons_succ, List.getElem?_nil, Option.some.injEq, SV.dat.injEq, SV.own.injEq, PyData.int.injEq, PyData.bool.injEq, PyData.tuple.injEq, PyData.list.injEq, PyData.str.injEq, RVd.new.injEq, RVd.dat.injEq, exists_eq_left, exists_eq_left', exists_eq_right, List.cons.injEq, List.set_cons_zero, List.set_cons_succ, reduceCtorEq, and_true, true_and, false_and, and_false, not_true_eq_false, not_false_eq_true, if_true, if_false, ite_true, ite_false, decide_eq_true_eq, Bool.not_eq_true', decide_eq_false_iff_not, Bool.and_true, Bool.true_and, Bool.and_false, Bool.false_and, Bool.not_true, Bool.not_false, Bool.false_eq_true, List.map_cons, List.map_nil, List.length_cons, List.length_nil, Nat.zero_add, Nat.reduceAdd, Nat.reduceLeDiff, startd, List.replicate_succ, List.replicate_zero, List.nil_append, List.cons_append, Nat.reduceSub, exists_const, and_self, shp_int, shp_none, shp_bool, eqv_int, dForL_nil, lcL_nil]
      exact next _ _ _ ha (by omega)
theorem rd_law_draws (svs : List SV) (R : RVd → Prop) (h : sp_law_draws svs R) : b_law_draws { nx := fun _ => R (.dat .none), rt := R } (startd 7 svs) := by
  obtain ⟨c, rfl, h⟩ := h
  simp only [b_law_draws, show (0 : Int) < 2305843009213693951 by decide, show (0 : Int) ≤ 18 by decide, show (18 : Int) ≤ 1000 by decide, show (10 : Int).natAbs < 2 ^ 64 by decide, show -(2 : Int) ^ 62 ≤ 400 + 3 by decide, show (400 : Int) + 3 < 2 ^ 62 by decide, rngD, dSeq, dAsgG, dAsgN, dRet, dRetN, dRetO, dRet0, dDrop, dIfS, dNext, dApp, dInsert, q_setI, q_setQ, q_take, dFor, dFreeze, dNever, q_par, q_parQ, q_par3, q_parQ3, dParNE, dParDE, gdName, q_gnil, q_gcons, q_gtup, dVar, dOwn, dC, d1, d2, n2, nCons, nNil, nLst, dTup, dFr, dTest, dAnd, dOr, dNot, dAndV, dOrV, dNotV, dIf, dChain, dCB, nCB, dCall, nCall, aDat, aBag, aNil, q_neg, q_add, q_addl, q_addt, q_sub, q_mul, q_mull, q_mult, q_fdiv, q_mod, q_pow, q_lt, q_le, q_gt, q_ge, eqD, neD, isD, isntD, q_isnn, q_isni, q_isnb, q_isnt, q_isnl, q_lenl, q_lent, q_inti, q_intb, q_max2, q_min2, q_listl, q_listt, q_tuplel, q_tuplet, q_sum, q_min, q_max, allD, itSeq, itR1, q_itR2, q_rng2, q_en, q_en1, q_zip, q_zipQ, q_seqr, q_lenr, q_ixr, q_seql, q_seqt, q_rvd, q_rvn, q_catn, q_ixl, q_ixt, q_sl, q_sll, q_slt, q_slr, nSlL, oNone, oSome, nLc, wipeD, q_dropc, q_dropxd, q_dropxb, q_dropxo, q_dropxn, q_drope, dYes, dCnt, q_revl, q_revt, q_revr, nListRg, dTupRg, exInts, exOpt, q_addr1, q_addrr, q_ixk0, q_ixk1, exRow, exTk, cntL, cntQ_some, cntQ_none, List.getElem?_cons_zero, List.getElem?_cons_succ, List.getElem?_nil, Option.some.injEq, SV.dat.injEq, SV.own.injEq, PyData.int.injEq, PyData.bool.injEq, PyData.tuple.injEq, PyData.list.injEq, PyData.str.injEq, RVd.new.injEq, RVd.dat.injEq, exists_eq_left, exists_eq_left', exists_eq_right, List.cons.injEq, List.set_cons_zero, List.set_cons_succ, reduceCtorEq, and_true, true_and, false_and, and_false, not_true_eq_false, not_false_eq_true, if_true, if_false, ite_true, ite_false, decide_eq_true_eq, Bool.not_eq_true', decide_eq_false_iff_not, Bool.and_true, Bool.true_and, Bool.and_false, Bool.false_and, Bool.not_true, Bool.not_false, Bool.false_eq_true, List.map_cons, List.map_nil, List.length_cons, List.length_nil, Nat.zero_add, Nat.reduceAdd, Nat.reduceLeDiff, startd, List.replicate_succ, List.replicate_zero, List.nil_append, List.cons_append, Nat.reduceSub, exists_const, and_self, shp_int, shp_none, shp_bool, eqv_int, dForL_nil, lcL_nil]
  refine ⟨?_, ?_⟩
  · split
    · exact .inr (.inr rfl)
    · exact .inr (.inl rfl)
  · rw [show (400 + 3 : Int).toNat = 403 by decide, List.range_eq_range']
    refine draws_loop rfl rfl 403 0 [] _ _ _ (Int.emod_nonneg _ (by decide)) (Int.emod_lt_of_pos _ (by decide)) (by simp) rfl (by decide) (fun acc' rest st x6 h1 h2 => ?_) (by decide)
    simp only [dSeq, dAsgG, dAsgN, dRet, dRetN, dRetO, dRet0, dDrop, dIfS, dNext, dApp, dInsert, q_setI, q_setQ, q_take, dFor, dFreeze, dNever, q_par, q_parQ, q_par3, q_parQ3, dParNE, dParDE, gdName, q_gnil, q_gcons, q_gtup, dVar, dOwn, dC, d1, d2, n2, nCons, nNil, nLst, dTup, dFr, dTest, dAnd, dOr, dNot, dAndV, dOrV, dNotV, dIf, dChain, dCB, nCB, dCall, nCall, aDat, aBag, aNil, q_neg, q_add, q_addl, q_addt, q_sub, q_mul, q_mull, q_mult, q_fdiv, q_mod, q_pow, q_lt, q_le, q_gt, q_ge, eqD, neD, isD, isntD, q_isnn, q_isni, q_isnb, q_isnt, q_isnl, q_lenl, q_lent, q_inti, q_intb, q_max2, q_min2, q_listl, q_listt, q_tuplel, q_tuplet, q_sum, q_min, q_max, allD, itSeq, itR1, q_itR2, q_rng2, q_en, q_en1, q_zip, q_zipQ, q_seqr, q_lenr, q_ixr, q_seql, q_seqt, q_rvd, q_rvn, q_catn, q_ixl, q_ixt, q_sl, q_sll, q_slt, q_slr, nSlL, oNone, oSome, nLc, wipeD, q_dropc, q_dropxd, q_dropxb, q_dropxo, q_dropxn, q_drope, dYes, dCnt, q_revl, q_revt, q_revr, nListRg, dTupRg, exInts, exOpt, q_addr1, q_addrr, q_ixk0, q_ixk1, exRow, exTk, cntL, cntQ_some, cntQ_none, List.getElem?_cons_zero, List.getElem?_cons_succ, List.getElem?_nil, Option.some.injEq, SV.dat.injEq, SV.own.injEq, PyData.int.injEq, PyData.bool.injEq, PyData.tuple.injEq, PyData.list.injEq, PyData.str.injEq, RVd.new.injEq, RVd.dat.injEq, exists_eq_left, exists_eq_left', exists_eq_right, List.cons.injEq, List.set_cons_zero, List.set_cons_succ, reduceCtorEq, and_true, true_and, false_and, and_false, not_true_eq_false, not_false_eq_true, if_true, if_false, ite_true, ite_false, decide_eq_true_eq, Bool.not_eq_true', decide_eq_false_iff_not, Bool.and_true, Bool.true_and, Bool.and_false, Bool.false_and, Bool.not_true, Bool.not_false, Bool.false_eq_true, List.map_cons, List.map_nil, List.length_cons, List.length_nil, Nat.zero_add, Nat.reduceAdd, Nat.reduceLeDiff, startd, List.replicate_succ, List.replicate_zero, List.nil_append, List.cons_append, Nat.reduceSub, exists_const, and_self, shp_int, shp_none, shp_bool, eqv_int, dForL_nil, lcL_nil]
    exact h acc' (by simpa using h2) h1
theorem len_law_draws (svs : List SV) (R : RVd → Prop) (h : sp_law_draws svs R) : svs.length = 3 := by
  obtain ⟨c, rfl, h⟩ := h
  rfl
/-! ### takers, rows -/
def sp_law_taker : DSp
  | [.bag, .dat (.int far)], R => 2 ≤ far ∧ ∀ e c : Int, 2 ≤ e → e ≤ far → 0 ≤ c → c < e → R (.dat (tkD (e, c)))
  | _, _ => False
/-- _law_taker: 0 bag, 1 far, 2 every -/
abbrev b_law_taker : DS := (dSeq (dAsgG (d2 addD (dC (.int 2)) (d2 ixD (dFr (nLst (nCons (dCall sp_law_take (aBag 0 (aDat (dCB min2D (nCons (dC (.int 4)) (nCons (d2 subD (dVar 1) (dC (.int 1))) nNil))) aNil))) (nCons (dCall sp_law_take (aBag 0 (aDat (d2 subD (dVar 1) (dC (.int 1))) aNil))) nNil)))) (dCall sp_law_take (aBag 0 (aDat (dC (.int 2)) aNil))))) (gdName 2))
  (dRet (dTup (nCons (dVar 2) (nCons (d2 ixD (dFr (nLst (nCons (dC (.int 0)) (nCons (dCall sp_law_take (aBag 0 (aDat (dVar 2) aNil))) (nCons (d2 subD (dVar 2) (dC (.int 1))) nNil))))) (dCall sp_law_take (aBag 0 (aDat (dC (.int 3)) aNil)))) nNil)))))
theorem rd_law_taker (svs : List SV) (R : RVd → Prop) (h : sp_law_taker svs R) : b_law_taker { nx := fun _ => R (.dat .none), rt := R } (startd 3 svs) := by
  unfold sp_law_taker at h
  split at h
  · rename_i far
    obtain ⟨hf, h⟩ := h
    have key : ∀ e : Int, 2 ≤ e → e ≤ far → 0 < e ∧ ∀ r : Int, 0 ≤ r → r < e → ((0 : Int) < 3) ∧ ∀ r' : Int, 0 ≤ r' → r' < 3 → ∃ z, atI [PyData.int 0, .int r, .int (e - 1)] r' = some z ∧ R (.dat (.tuple [.int e, z])) := fun e h1 h2 => ⟨by omega, fun r r0 r1 => ⟨by decide, fun r' s0 s1 => by
      have : r' = 0 ∨ r' = 1 ∨ r' = 2 := by omega
      rcases this with rfl | rfl | rfl
      · exact ⟨_, at0, h e 0 h1 h2 (by omega) (by omega)⟩
      · exact ⟨_, at1, h e r h1 h2 r0 r1⟩
      · exact ⟨_, atI_nat (j := 2) rfl, h e (e - 1) h1 h2 (by omega) (by omega)⟩⟩⟩
    simp only [b_law_taker, dSeq, dAsgG, dAsgN, dRet, dRetN, dRetO, dRet0, dDrop, dIfS, dNext, dApp, dInsert, q_setI, q_setQ, q_take, dFor, dFreeze, dNever, q_par, q_parQ, q_par3, q_parQ3, dParNE, dParDE, gdName, q_gnil, q_gcons, q_gtup, dVar, dOwn, dC, d1, d2, n2, nCons, nNil, nLst, dTup, dFr, dTest, dAnd, dOr, dNot, dAndV, dOrV, dNotV, dIf, dChain, dCB, nCB, dCall, nCall, aDat, aBag, aNil, q_neg, q_add, q_addl, q_addt, q_sub, q_mul, q_mull, q_mult, q_fdiv, q_mod, q_pow, q_lt, q_le, q_gt, q_ge, eqD, neD, isD, isntD, q_isnn, q_isni, q_isnb, q_isnt, q_isnl, q_lenl, q_lent, q_inti, q_intb, q_max2, q_min2, q_listl, q_listt, q_tuplel, q_tuplet, q_sum, q_min, q_max, allD, itSeq, itR1, q_itR2, q_rng2, q_en, q_en1, q_zip, q_zipQ, q_seqr, q_lenr, q_ixr, q_seql, q_seqt, q_rvd, q_rvn, q_catn, q_ixl, q_ixt, q_sl, q_sll, q_slt, q_slr, nSlL, oNone, oSome, nLc, wipeD, q_dropc, q_dropxd, q_dropxb, q_dropxo, q_dropxn, q_drope, dYes, dCnt, q_revl, q_revt, q_revr, nListRg, dTupRg, exInts, exOpt, q_addr1, q_addrr, q_ixk0, q_ixk1, exRow, exTk, cntL, cntQ_some, cntQ_none, List.getElem?_cons_zero, List.getElem?_cons_succ, List.getElem?_nil, Option.some.injEq, SV.dat.injEq, SV.own.injEq, PyData.int.injEq, PyData.bool.injEq, PyData.tuple.injEq, PyData.list.injEq, PyData.str.injEq, RVd.new.injEq, RVd.dat.injEq, exists_eq_left, exists_eq_left', exists_eq_right, List.cons.injEq, List.set_cons_zero, List.set_cons_succ, reduceCtorEq, and_true, true_and, false_and, and_false, not_true_eq_false, not_false_eq_true, if_true, if_false, ite_true, ite_false, decide_eq_true_eq, Bool.not_eq_true', decide_eq_false_iff_not, Bool.and_true, Bool.true_and, Bool.and_false, Bool.false_and, Bool.not_true, Bool.not_false, Bool.false_eq_true, List.map_cons, List.map_nil, List.length_cons, List.length_nil, Nat.zero_add, Nat.reduceAdd, Nat.reduceLeDiff, startd, List.replicate_succ, List.replicate_zero, List.nil_append, List.cons_append, Nat.reduceSub, exists_const, and_self, shp_int, shp_none, shp_bool, eqv_int, dForL_nil, lcL_nil]
    refine ⟨by omega, fun r1 a0 a1 => ⟨by omega, fun r2 b0 b1 => ⟨by decide, fun r3 c0 c1 => ?_⟩⟩⟩
    have : r3 = 0 ∨ r3 = 1 := by omega
    rcases this with rfl | rfl
    · refine ⟨_, at0, ?_⟩
      simp only [dSeq, dAsgG, dAsgN, dRet, dRetN, dRetO, dRet0, dDrop, dIfS, dNext, dApp, dInsert, q_setI, q_setQ, q_take, dFor, dFreeze, dNever, q_par, q_parQ, q_par3, q_parQ3, dParNE, dParDE, gdName, q_gnil, q_gcons, q_gtup, dVar, dOwn, dC, d1, d2, n2, nCons, nNil, nLst, dTup, dFr, dTest, dAnd, dOr, dNot, dAndV, dOrV, dNotV, dIf, dChain, dCB, nCB, dCall, nCall, aDat, aBag, aNil, q_neg, q_add, q_addl, q_addt, q_sub, q_mul, q_mull, q_mult, q_fdiv, q_mod, q_pow, q_lt, q_le, q_gt, q_ge, eqD, neD, isD, isntD, q_isnn, q_isni, q_isnb, q_isnt, q_isnl, q_lenl, q_lent, q_inti, q_intb, q_max2, q_min2, q_listl, q_listt, q_tuplel, q_tuplet, q_sum, q_min, q_max, allD, itSeq, itR1, q_itR2, q_rng2, q_en, q_en1, q_zip, q_zipQ, q_seqr, q_lenr, q_ixr, q_seql, q_seqt, q_rvd, q_rvn, q_catn, q_ixl, q_ixt, q_sl, q_sll, q_slt, q_slr, nSlL, oNone, oSome, nLc, wipeD, q_dropc, q_dropxd, q_dropxb, q_dropxo, q_dropxn, q_drope, dYes, dCnt, q_revl, q_revt, q_revr, nListRg, dTupRg, exInts, exOpt, q_addr1, q_addrr, q_ixk0, q_ixk1, exRow, exTk, cntL, cntQ_some, cntQ_none, List.getElem?_cons_zero, List.getElem?_cons_succ, List.getElem?_nil, Option.some.injEq, SV.dat.injEq, SV.own.injEq, PyData.int.injEq, PyData.bool.injEq, PyData.tuple.injEq, PyData.list.injEq, PyData.str.injEq, RVd.new.injEq, RVd.dat.injEq, exists_eq_left, exists_eq_left', exists_eq_right, List.cons.injEq, List.set_cons_zero, List.set_cons_succ, reduceCtorEq, and_true, true_and, false_and, and_false, not_true_eq_false, not_false_eq_true, if_true, if_false, ite_true, ite_false, decide_eq_true_eq, Bool.not_eq_true', decide_eq_false_iff_not, Bool.and_true, Bool.true_and, Bool.and_false, Bool.false_and, Bool.not_true, Bool.not_false, Bool.false_eq_true, List.map_cons, List.map_nil, List.length_cons, List.length_nil, Nat.zero_add, Nat.reduceAdd, Nat.reduceLeDiff, startd, List.replicate_succ, List.replicate_zero, List.nil_append, List.cons_append, Nat.reduceSub, exists_const, and_self, shp_int, shp_none, shp_bool, eqv_int, dForL_nil, lcL_nil]
      exact key (2 + r1) (by omega) (by omega)
    · refine ⟨_, at1, ?_⟩
      simp only [dSeq, dAsgG, dAsgN, dRet, dRetN, dRetO, dRet0, dDrop, dIfS, dNext, dApp, dInsert, q_setI, q_setQ, q_take, dFor, dFreeze, dNever, q_par, q_parQ, q_par3, q_parQ3, dParNE, dParDE, gdName, q_gnil, q_gcons, q_gtup, dVar, dOwn, dC, d1, d2, n2, nCons, nNil, nLst, dTup, dFr, dTest, dAnd, dOr, dNot, dAndV, dOrV, dNotV, dIf, dChain, dCB, nCB, dCall, nCall, aDat, aBag, aNil, q_neg, q_add, q_addl, q_addt, q_sub, q_mul, q_mull, q_mult, q_fdiv, q_mod, q_pow, q_lt, q_le, q_gt, q_ge, eqD, neD, isD, isntD, q_isnn, q_isni, q_isnb, q_isnt, q_isnl, q_lenl, q_lent, q_inti, q_intb, q_max2, q_min2, q_listl, q_listt, q_tuplel, q_tuplet, q_sum, q_min, q_max, allD, itSeq, itR1, q_itR2, q_rng2, q_en, q_en1, q_zip, q_zipQ, q_seqr, q_lenr, q_ixr, q_seql, q_seqt, q_rvd, q_rvn, q_catn, q_ixl, q_ixt, q_sl, q_sll, q_slt, q_slr, nSlL, oNone, oSome, nLc, wipeD, q_dropc, q_dropxd, q_dropxb, q_dropxo, q_dropxn, q_drope, dYes, dCnt, q_revl, q_revt, q_revr, nListRg, dTupRg, exInts, exOpt, q_addr1, q_addrr, q_ixk0, q_ixk1, exRow, exTk, cntL, cntQ_some, cntQ_none, List.getElem?_cons_zero, List.getElem?_cons_succ, List.getElem?_nil, Option.some.injEq, SV.dat.injEq, SV.own.injEq, PyData.int.injEq, PyData.bool.injEq, PyData.tuple.injEq, PyData.list.injEq, PyData.str.injEq, RVd.new.injEq, RVd.dat.injEq, exists_eq_left, exists_eq_left', exists_eq_right, List.cons.injEq, List.set_cons_zero, List.set_cons_succ, reduceCtorEq, and_true, true_and, false_and, and_false, not_true_eq_false, not_false_eq_true, if_true, if_false, ite_true, ite_false, decide_eq_true_eq, Bool.not_eq_true', decide_eq_false_iff_not, Bool.and_true, Bool.true_and, Bool.and_false, Bool.false_and, Bool.not_true, Bool.not_false, Bool.false_eq_true, List.map_cons, List.map_nil, List.length_cons, List.length_nil, Nat.zero_add, Nat.reduceAdd, Nat.reduceLeDiff, startd, List.replicate_succ, List.replicate_zero, List.nil_append, List.cons_append, Nat.reduceSub, exists_const, and_self, shp_int, shp_none, shp_bool, eqv_int, dForL_nil, lcL_nil]
      exact key (2 + r2) (by omega) (by omega)
  · exact h.elim
theorem len_law_taker (svs : List SV) (R : RVd → Prop) (h : sp_law_taker svs R) : svs.length = 2 := by
  unfold sp_law_taker at h
  split at h
  · rfl
  · exact h.elim
theorem pick3 {a b c r : Int} (P : Int → Prop) (h0 : 0 ≤ r) (h3 : r < 3) (ha : P a) (hb : P b) (hc : P c) : ∃ z, atI [PyData.int a, .int b, .int c] r = some (.int z) ∧ P z := by
  have : r = 0 ∨ r = 1 ∨ r = 2 := by omega
  rcases this with rfl | rfl | rfl
  · exact ⟨a, at0, ha⟩
  · exact ⟨b, at1, hb⟩
  · exact ⟨c, atI_nat (j := 2) rfl, hc⟩
theorem lcL_mapOn {g : DG} {te : DE} {env : Denv} {f : PyData → PyData} : ∀ {ds : List PyData} (hg : ∀ d ∈ ds, ∀ Q, (g d env fun env' => te env' Q) = Q (f d)) {Q : List PyData → Prop}, lcL g dYes te env ds Q = Q (ds.map f)
  | [], _, Q => rfl
  | d :: ds, hg, Q => by
    show (g d env fun env' => te env' fun y => lcL g dYes te env ds fun ys => Q (y :: ys)) = _
    rw [hg d List.mem_cons_self]
    exact lcL_mapOn (fun x hx => hg x (List.mem_cons_of_mem _ hx))
/-- a comprehension whose element is any of a kind -/
theorem lcL_any {α : Type} {g : DG} {te : DE} {env : Denv} {f : α → PyData} {P : α → Prop} (hg : ∀ d (Q : PyData → Prop), (∀ x, P x → Q (f x)) → g d env fun env' => te env' Q) : ∀ (ds : List PyData) (Q : List PyData → Prop), (∀ xs : List α, xs.length = ds.length → (∀ x ∈ xs, P x) → Q (xs.map f)) → lcL g dYes te env ds Q
  | [], Q, h => h [] rfl (by simp)
  | d :: ds, Q, h => by
    show g d env fun env' => te env' fun y => lcL g dYes te env ds fun ys => Q (y :: ys)
    refine hg d _ fun x hx => lcL_any hg ds _ fun xs hl hp => ?_
    exact h (x :: xs) (by rw [List.length_cons, List.length_cons, hl]) fun y hy => by
      rcases List.mem_cons.mp hy with rfl | hy
      · exact hx
      · exact hp y hy
/-- takers of every so-manieth up to a bound -/
def TkIn (far : Int) (t : Int × Int) : Prop := 2 ≤ t.1 ∧ t.1 ≤ far ∧ 0 ≤ t.2 ∧ t.2 < t.1
theorem TkIn.ok {far : Int} {t : Int × Int} (h : TkIn far t) (hf : far ≤ 1000) : TkOk t := ⟨h.1, by have := h.2.1; omega, h.2.2⟩
def sp_law_drawn_row : DSp
  | [.bag, .dat (.int takers), .dat (.int far)], R => 0 ≤ takers ∧ takers ≤ 8 ∧ 2 ≤ far ∧ far ≤ 1000 ∧ ∀ rs : List (Int × Int), (rs.length : Int) ≤ takers → (∀ t ∈ rs, TkIn far t) → R (.dat (rowD rs))
  | _, _ => False
/-- _law_drawn_row: 0 bag, 1 takers, 2 far, 3 turn -/
abbrev b_law_drawn_row : DS := (dRet (dCB tupleD (nCons (dFr (nLc (itR1 (nCons (dCall sp_law_take (aBag 0 (aDat (d2 addD (dVar 1) (dC (.int 1))) aNil))) nNil)) (gdName 3) dYes (dCall sp_law_taker (aBag 0 (aDat (dVar 2) aNil))) [3])) nNil)))
theorem rd_law_drawn_row (svs : List SV) (R : RVd → Prop) (h : sp_law_drawn_row svs R) : b_law_drawn_row { nx := fun _ => R (.dat .none), rt := R } (startd 4 svs) := by
  unfold sp_law_drawn_row at h
  split at h
  · rename_i takers far
    obtain ⟨h1, h2, h3, h4, h⟩ := h
    simp only [b_law_drawn_row, dSeq, dAsgG, dAsgN, dRet, dRetN, dRetO, dRet0, dDrop, dIfS, dNext, dApp, dInsert, q_setI, q_setQ, q_take, dFor, dFreeze, dNever, q_par, q_parQ, q_par3, q_parQ3, dParNE, dParDE, gdName, q_gnil, q_gcons, q_gtup, dVar, dOwn, dC, d1, d2, n2, nCons, nNil, nLst, dTup, dFr, dTest, dAnd, dOr, dNot, dAndV, dOrV, dNotV, dIf, dChain, dCB, nCB, dCall, nCall, aDat, aBag, aNil, q_neg, q_add, q_addl, q_addt, q_sub, q_mul, q_mull, q_mult, q_fdiv, q_mod, q_pow, q_lt, q_le, q_gt, q_ge, eqD, neD, isD, isntD, q_isnn, q_isni, q_isnb, q_isnt, q_isnl, q_lenl, q_lent, q_inti, q_intb, q_max2, q_min2, q_listl, q_listt, q_tuplel, q_tuplet, q_sum, q_min, q_max, allD, itSeq, itR1, q_itR2, q_rng2, q_en, q_en1, q_zip, q_zipQ, q_seqr, q_lenr, q_ixr, q_seql, q_seqt, q_rvd, q_rvn, q_catn, q_ixl, q_ixt, q_sl, q_sll, q_slt, q_slr, nSlL, oNone, oSome, nLc, wipeD, q_dropc, q_dropxd, q_dropxb, q_dropxo, q_dropxn, q_drope, dYes, dCnt, q_revl, q_revt, q_revr, nListRg, dTupRg, exInts, exOpt, q_addr1, q_addrr, q_ixk0, q_ixk1, exRow, exTk, cntL, cntQ_some, cntQ_none, List.getElem?_cons_zero, List.getElem?_cons_succ, List.getElem?_nil, Option.some.injEq, SV.dat.injEq, SV.own.injEq, PyData.int.injEq, PyData.bool.injEq, PyData.tuple.injEq, PyData.list.injEq, PyData.str.injEq, RVd.new.injEq, RVd.dat.injEq, exists_eq_left, exists_eq_left', exists_eq_right, List.cons.injEq, List.set_cons_zero, List.set_cons_succ, reduceCtorEq, and_true, true_and, false_and, and_false, not_true_eq_false, not_false_eq_true, if_true, if_false, ite_true, ite_false, decide_eq_true_eq, Bool.not_eq_true', decide_eq_false_iff_not, Bool.and_true, Bool.true_and, Bool.and_false, Bool.false_and, Bool.not_true, Bool.not_false, Bool.false_eq_true, List.map_cons, List.map_nil, List.length_cons, List.length_nil, Nat.zero_add, Nat.reduceAdd, Nat.reduceLeDiff, startd, List.replicate_succ, List.replicate_zero, List.nil_append, List.cons_append, Nat.reduceSub, exists_const, and_self, shp_int, shp_none, shp_bool, eqv_int, dForL_nil, lcL_nil]
    refine ⟨by omega, fun r r0 r1 => ⟨⟨by omega, by omega⟩, ?_, ?_⟩⟩
    · rw [rngD_len]
      omega
    · refine lcL_any (f := tkD) (P := TkIn far) (fun d Q hq => ?_) _ _ fun xs hl hp => h xs ?_ hp
      · simp only [sp_law_taker, dSeq, dAsgG, dAsgN, dRet, dRetN, dRetO, dRet0, dDrop, dIfS, dNext, dApp, dInsert, q_setI, q_setQ, q_take, dFor, dFreeze, dNever, q_par, q_parQ, q_par3, q_parQ3, dParNE, dParDE, gdName, q_gnil, q_gcons, q_gtup, dVar, dOwn, dC, d1, d2, n2, nCons, nNil, nLst, dTup, dFr, dTest, dAnd, dOr, dNot, dAndV, dOrV, dNotV, dIf, dChain, dCB, nCB, dCall, nCall, aDat, aBag, aNil, q_neg, q_add, q_addl, q_addt, q_sub, q_mul, q_mull, q_mult, q_fdiv, q_mod, q_pow, q_lt, q_le, q_gt, q_ge, eqD, neD, isD, isntD, q_isnn, q_isni, q_isnb, q_isnt, q_isnl, q_lenl, q_lent, q_inti, q_intb, q_max2, q_min2, q_listl, q_listt, q_tuplel, q_tuplet, q_sum, q_min, q_max, allD, itSeq, itR1, q_itR2, q_rng2, q_en, q_en1, q_zip, q_zipQ, q_seqr, q_lenr, q_ixr, q_seql, q_seqt, q_rvd, q_rvn, q_catn, q_ixl, q_ixt, q_sl, q_sll, q_slt, q_slr, nSlL, oNone, oSome, nLc, wipeD, q_dropc, q_dropxd, q_dropxb, q_dropxo, q_dropxn, q_drope, dYes, dCnt, q_revl, q_revt, q_revr, nListRg, dTupRg, exInts, exOpt, q_addr1, q_addrr, q_ixk0, q_ixk1, exRow, exTk, cntL, cntQ_some, cntQ_none, List.getElem?_cons_zero, List.getElem?_cons_succ, List.getElem?_nil, Option.some.injEq, SV.dat.injEq, SV.own.injEq, PyData.int.injEq, PyData.bool.injEq, PyData.tuple.injEq, PyData.list.injEq, PyData.str.injEq, RVd.new.injEq, RVd.dat.injEq, exists_eq_left, exists_eq_left', exists_eq_right, List.cons.injEq, List.set_cons_zero, List.set_cons_succ, reduceCtorEq, and_true, true_and, false_and, and_false, not_true_eq_false, not_false_eq_true, if_true, if_false, ite_true, ite_false, decide_eq_true_eq, Bool.not_eq_true', decide_eq_false_iff_not, Bool.and_true, Bool.true_and, Bool.and_false, Bool.false_and, Bool.not_true, Bool.not_false, Bool.false_eq_true, List.map_cons, List.map_nil, List.length_cons, List.length_nil, Nat.zero_add, Nat.reduceAdd, Nat.reduceLeDiff, startd, List.replicate_succ, List.replicate_zero, List.nil_append, List.cons_append, Nat.reduceSub, exists_const, and_self, shp_int, shp_none, shp_bool, eqv_int, dForL_nil, lcL_nil]
        exact ⟨h3, fun e c a1 a2 a3 a4 => hq (e, c) ⟨a1, a2, a3, a4⟩⟩
      · rw [hl, rngD_len]
        omega
  · exact h.elim
theorem len_law_drawn_row (svs : List SV) (R : RVd → Prop) (h : sp_law_drawn_row svs R) : svs.length = 3 := by
  unfold sp_law_drawn_row at h
  split at h
  · rfl
  · exact h.elim
/-! ### gone, piece by piece -/
def pieceG : Int → List (Int × Int) → List Int → Option Int × List Int
  | k, (e, _) :: rs, c :: cs => if (c + 1) % e = 0 then (some k, (c + 1) % e :: cs) else ((pieceG (k + 1) rs cs).1, (c + 1) % e :: (pieceG (k + 1) rs cs).2)
  | _, [], cs => (none, cs)
  | _, _ :: _, [] => (none, [])
def goneG (rs : List (Int × Int)) : List Int → Nat → List (Option Int) × List Int
  | cs, 0 => ([], cs)
  | cs, n + 1 => ((pieceG 0 rs cs).1 :: (goneG rs (pieceG 0 rs cs).2 n).1, (goneG rs (pieceG 0 rs cs).2 n).2)
theorem pieceG_len : ∀ (k : Int) (rs : List (Int × Int)) (cs : List Int), (pieceG k rs cs).2.length = cs.length
  | k, [], cs => by simp [pieceG]
  | k, _ :: _, [] => by simp [pieceG]
  | k, (e, b) :: rs, c :: cs => by
    unfold pieceG
    split
    · simp
    · simp [pieceG_len (k + 1) rs cs]
def sp_law_gone : DSp
  | [.dat d, .dat (.int n)], R => ∃ rs, d = rowD rs ∧ RowOk rs ∧ 0 ≤ n ∧ n ≤ 100000 ∧ R (.dat (.tuple [.list ((goneG rs (rs.map (·.2)) n.toNat).1.map optD), .list ((goneG rs (rs.map (·.2)) n.toNat).2.map .int)]))
  | _, _ => False
/-- _law_gone: 0 house, 1 many, 2 counted, 3 found, 4 piece, 5 took, 6 place, 7 every, 8 begun, 9 one -/
abbrev b_law_gone : DS := (dSeq (dParNE 2 3 (nLc (itSeq (dVar 0)) (gdName 9) dYes (d2 ixD (dVar 9) (dC (.int 1))) [9]))
  (dSeq (dFor (itR1 (nCons (dVar 1) nNil)) (gdName 4)
  (dSeq (dAsgG (dC .none) (gdName 5))
  (dSeq (dFor (itEn (nCons (dVar 0) nNil)) (gdTup 2 (gdCons (gdName 6) (gdCons (gdTup 2 (gdCons (gdName 7) (gdCons (gdName 8) gdNil))) gdNil)))
  (dIfS (dTest (d2 isD (dVar 5) (dC .none))) (dSeq (dSetI 2 (dVar 6) (d2 modD (d2 addD (d2 ixD (dOwn 2) (dVar 6)) (dC (.int 1))) (dVar 7)))
  (dIfS (dTest (d2 eqD (d2 ixD (dOwn 2) (dVar 6)) (dC (.int 0)))) (dAsgG (dVar 6) (gdName 5)) dNext)) dNext))
  (dApp 3 (dVar 5)))))
  (dFreeze 3 (dFreeze 2 (dRet (dTup (nCons (dVar 3) (nCons (dVar 2) nNil))))))))
theorem gone_in {D : DEnds} {x0 x1 x3 x4 x9 : Option SV} {g : DG} {tb : DS} (hg : g = gdTup 2 (gdCons (gdName 6) (gdCons (gdTup 2 (gdCons (gdName 7) (gdCons (gdName 8) gdNil))) gdNil)))
    (htb : tb = (dIfS (dTest (d2 isD (dVar 5) (dC .none))) (dSeq (dSetI 2 (dVar 6) (d2 modD (d2 addD (d2 ixD (dOwn 2) (dVar 6)) (dC (.int 1))) (dVar 7)))
  (dIfS (dTest (d2 eqD (d2 ixD (dOwn 2) (dVar 6)) (dC (.int 0)))) (dAsgG (dVar 6) (gdName 5)) dNext)) dNext)) :
    ∀ (rs : List (Int × Int)) (n : Nat) (pre cs : List Int) (took : Option Int) (x6 x7 x8 : Option SV), (∀ t ∈ rs, TkOk t) → pre.length = n → cs.length = rs.length →
      (∀ (x6 x7 x8 : Option SV), D.nx [x0, x1, some (.own ((pre ++ (if took = none then (pieceG n rs cs).2 else cs)).map .int)), x3, x4, some (.dat (optD (if took = none then (pieceG n rs cs).1 else took))), x6, x7, x8, x9]) →
      dForL g tb (enumD n (rs.map tkD)) D [x0, x1, some (.own ((pre ++ cs).map .int)), x3, x4, some (.dat (optD took)), x6, x7, x8, x9]
  | [], n, pre, cs, took, x6, x7, x8, _, _, hl, h => by
    have := h x6 x7 x8
    show D.nx _
    cases took with
    | none => simpa [pieceG] using this
    | some t => simpa [pieceG] using this
  | (e, b) :: rs, n, pre, [], took, x6, x7, x8, _, _, hl, h => by simp at hl
  | (e, b) :: rs, n, pre, c :: cs, took, x6, x7, x8, ht, hp, hl, h => by
    obtain ⟨t1, t2, t3, t4⟩ := ht (e, b) List.mem_cons_self
    dsimp only at t1 t2 t3 t4
    show dForL g tb (.tuple [.int (n : Nat), tkD (e, b)] :: enumD (n + 1) (rs.map tkD)) D _
    rw [dForL_cons, hg, htb]
    have he : 0 < e := by omega
    have hcs : cs.length = rs.length := by simpa using hl
    have ht' : ∀ t ∈ rs, TkOk t := fun t h => ht t (List.mem_cons_of_mem _ h)
    cases took with
    | some t =>
      simp only [tkD, optD, dSeq, dAsgG, dAsgN, dRet, dRetN, dRetO, dRet0, dDrop, dIfS, dNext, dApp, dInsert, q_setI, q_setQ, q_take, dFor, dFreeze, dNever, q_par, q_parQ, q_par3, q_parQ3, dParNE, dParDE, gdName, q_gnil, q_gcons, q_gtup, dVar, dOwn, dC, d1, d2, n2, nCons, nNil, nLst, dTup, dFr, dTest, dAnd, dOr, dNot, dAndV, dOrV, dNotV, dIf, dChain, dCB, nCB, dCall, nCall, aDat, aBag, aNil, q_neg, q_add, q_addl, q_addt, q_sub, q_mul, q_mull, q_mult, q_fdiv, q_mod, q_pow, q_lt, q_le, q_gt, q_ge, eqD, neD, isD, isntD, q_isnn, q_isni, q_isnb, q_isnt, q_isnl, q_lenl, q_lent, q_inti, q_intb, q_max2, q_min2, q_listl, q_listt, q_tuplel, q_tuplet, q_sum, q_min, q_max, allD, itSeq, itR1, q_itR2, q_rng2, q_en, q_en1, q_zip, q_zipQ, q_seqr, q_lenr, q_ixr, q_seql, q_seqt, q_rvd, q_rvn, q_catn, q_ixl, q_ixt, q_sl, q_sll, q_slt, q_slr, nSlL, oNone, oSome, nLc, wipeD, q_dropc, q_dropxd, q_dropxb, q_dropxo, q_dropxn, q_drope, dYes, dCnt, q_revl, q_revt, q_revr, nListRg, dTupRg, exInts, exOpt, q_addr1, q_addrr, q_ixk0, q_ixk1, exRow, exTk, cntL, cntQ_some, cntQ_none, List.getElem?_cons_zero, List.getElem?_cons_succ, List.getElem?_nil, Option.some.injEq, SV.dat.injEq, SV.own.injEq, PyData.int.injEq, PyData.bool.injEq, PyData.tuple.injEq, PyData.list.injEq, PyData.str.injEq, RVd.new.injEq, RVd.dat.injEq, exists_eq_left, exists_eq_left', exists_eq_right, List.cons.injEq, List.set_cons_zero, List.set_cons_succ, reduceCtorEq, and_true, true_and, false_and, and_false, not_true_eq_false, not_false_eq_true, if_true, if_false, ite_true, ite_false, decide_eq_true_eq, Bool.not_eq_true', decide_eq_false_iff_not, Bool.and_true, Bool.true_and, Bool.and_false, Bool.false_and, Bool.not_true, Bool.not_false, Bool.false_eq_true, List.map_cons, List.map_nil, List.length_cons, List.length_nil, Nat.zero_add, Nat.reduceAdd, Nat.reduceLeDiff, startd, List.replicate_succ, List.replicate_zero, List.nil_append, List.cons_append, Nat.reduceSub, exists_const, and_self, shp_int, shp_none, shp_bool, eqv_int, dForL_nil, lcL_nil]
      have e1 : pre ++ c :: cs = (pre ++ [c]) ++ cs := by simp
      rw [e1]
      refine gone_in rfl rfl rs (n + 1) (pre ++ [c]) cs (some t) _ _ _ ht' (by simp [hp]) hcs fun y6 y7 y8 => ?_
      simpa using h y6 y7 y8
    | none =>
      have hix : ixN ((pre ++ c :: cs).map PyData.int).length (n : Int) = some n := Evl.ixN_nat (by simp; omega)
      simp only [tkD, optD, he, at_midI pre c cs hp, hix, set_midI pre c _ cs hp, at_midI pre ((c + 1) % e) cs hp, dSeq, dAsgG, dAsgN, dRet, dRetN, dRetO, dRet0, dDrop, dIfS, dNext, dApp, dInsert, q_setI, q_setQ, q_take, dFor, dFreeze, dNever, q_par, q_parQ, q_par3, q_parQ3, dParNE, dParDE, gdName, q_gnil, q_gcons, q_gtup, dVar, dOwn, dC, d1, d2, n2, nCons, nNil, nLst, dTup, dFr, dTest, dAnd, dOr, dNot, dAndV, dOrV, dNotV, dIf, dChain, dCB, nCB, dCall, nCall, aDat, aBag, aNil, q_neg, q_add, q_addl, q_addt, q_sub, q_mul, q_mull, q_mult, q_fdiv, q_mod, q_pow, q_lt, q_le, q_gt, q_ge, eqD, neD, isD, isntD, q_isnn, q_isni, q_isnb, q_isnt, q_isnl, q_lenl, q_lent, q_inti, q_intb, q_max2, q_min2, q_listl, q_listt, q_tuplel, q_tuplet, q_sum, q_min, q_max, allD, itSeq, itR1, q_itR2, q_rng2, q_en, q_en1, q_zip, q_zipQ, q_seqr, q_lenr, q_ixr, q_seql, q_seqt, q_rvd, q_rvn, q_catn, q_ixl, q_ixt, q_sl, q_sll, q_slt, q_slr, nSlL, oNone, oSome, nLc, wipeD, q_dropc, q_dropxd, q_dropxb, q_dropxo, q_dropxn, q_drope, dYes, dCnt, q_revl, q_revt, q_revr, nListRg, dTupRg, exInts, exOpt, q_addr1, q_addrr, q_ixk0, q_ixk1, exRow, exTk, cntL, cntQ_some, cntQ_none, List.getElem?_cons_zero, List.getElem?_cons_succ, List.getElem?_nil, Option.some.injEq, SV.dat.injEq, SV.own.injEq, PyData.int.injEq, PyData.bool.injEq, PyData.tuple.injEq, PyData.list.injEq, PyData.str.injEq, RVd.new.injEq, RVd.dat.injEq, exists_eq_left, exists_eq_left', exists_eq_right, List.cons.injEq, List.set_cons_zero, List.set_cons_succ, reduceCtorEq, and_true, true_and, false_and, and_false, not_true_eq_false, not_false_eq_true, if_true, if_false, ite_true, ite_false, decide_eq_true_eq, Bool.not_eq_true', decide_eq_false_iff_not, Bool.and_true, Bool.true_and, Bool.and_false, Bool.false_and, Bool.not_true, Bool.not_false, Bool.false_eq_true, List.map_cons, List.map_nil, List.length_cons, List.length_nil, Nat.zero_add, Nat.reduceAdd, Nat.reduceLeDiff, startd, List.replicate_succ, List.replicate_zero, List.nil_append, List.cons_append, Nat.reduceSub, exists_const, and_self, shp_int, shp_none, shp_bool, eqv_int, dForL_nil, lcL_nil]
      simp only [if_true, pieceG] at h
      by_cases hz : (c + 1) % e = 0
      · simp only [hz, if_true, dSeq, dAsgG, dAsgN, dRet, dRetN, dRetO, dRet0, dDrop, dIfS, dNext, dApp, dInsert, q_setI, q_setQ, q_take, dFor, dFreeze, dNever, q_par, q_parQ, q_par3, q_parQ3, dParNE, dParDE, gdName, q_gnil, q_gcons, q_gtup, dVar, dOwn, dC, d1, d2, n2, nCons, nNil, nLst, dTup, dFr, dTest, dAnd, dOr, dNot, dAndV, dOrV, dNotV, dIf, dChain, dCB, nCB, dCall, nCall, aDat, aBag, aNil, q_neg, q_add, q_addl, q_addt, q_sub, q_mul, q_mull, q_mult, q_fdiv, q_mod, q_pow, q_lt, q_le, q_gt, q_ge, eqD, neD, isD, isntD, q_isnn, q_isni, q_isnb, q_isnt, q_isnl, q_lenl, q_lent, q_inti, q_intb, q_max2, q_min2, q_listl, q_listt, q_tuplel, q_tuplet, q_sum, q_min, q_max, allD, itSeq, itR1, q_itR2, q_rng2, q_en, q_en1, q_zip, q_zipQ, q_seqr, q_lenr, q_ixr, q_seql, q_seqt, q_rvd, q_rvn, q_catn, q_ixl, q_ixt, q_sl, q_sll, q_slt, q_slr, nSlL, oNone, oSome, nLc, wipeD, q_dropc, q_dropxd, q_dropxb, q_dropxo, q_dropxn, q_drope, dYes, dCnt, q_revl, q_revt, q_revr, nListRg, dTupRg, exInts, exOpt, q_addr1, q_addrr, q_ixk0, q_ixk1, exRow, exTk, cntL, cntQ_some, cntQ_none, List.getElem?_cons_zero, List.getElem?_cons_succ, List.getElem?_nil, Option.some.injEq, SV.dat.injEq, SV.own.injEq, PyData.int.injEq, PyData.bool.injEq, PyData.tuple.injEq, PyData.list.injEq, PyData.str.injEq, RVd.new.injEq, RVd.dat.injEq, exists_eq_left, exists_eq_left', exists_eq_right, List.cons.injEq, List.set_cons_zero, List.set_cons_succ, reduceCtorEq, and_true, true_and, false_and, and_false, not_true_eq_false, not_false_eq_true, if_true, if_false, ite_true, ite_false, decide_eq_true_eq, Bool.not_eq_true', decide_eq_false_iff_not, Bool.and_true, Bool.true_and, Bool.and_false, Bool.false_and, Bool.not_true, Bool.not_false, Bool.false_eq_true, List.map_cons, List.map_nil, List.length_cons, List.length_nil, Nat.zero_add, Nat.reduceAdd, Nat.reduceLeDiff, startd, List.replicate_succ, List.replicate_zero, List.nil_append, List.cons_append, Nat.reduceSub, exists_const, and_self, shp_int, shp_none, shp_bool, eqv_int, dForL_nil, lcL_nil] at h ⊢
        have e1 : pre ++ 0 :: cs = (pre ++ [0]) ++ cs := by simp
        rw [e1]
        refine gone_in (took := some (n : Int)) rfl rfl rs (n + 1) (pre ++ [0]) cs _ _ _ ht' (by simp [hp]) hcs fun y6 y7 y8 => ?_
        simpa using h y6 y7 y8
      · simp only [hz, if_false, dSeq, dAsgG, dAsgN, dRet, dRetN, dRetO, dRet0, dDrop, dIfS, dNext, dApp, dInsert, q_setI, q_setQ, q_take, dFor, dFreeze, dNever, q_par, q_parQ, q_par3, q_parQ3, dParNE, dParDE, gdName, q_gnil, q_gcons, q_gtup, dVar, dOwn, dC, d1, d2, n2, nCons, nNil, nLst, dTup, dFr, dTest, dAnd, dOr, dNot, dAndV, dOrV, dNotV, dIf, dChain, dCB, nCB, dCall, nCall, aDat, aBag, aNil, q_neg, q_add, q_addl, q_addt, q_sub, q_mul, q_mull, q_mult, q_fdiv, q_mod, q_pow, q_lt, q_le, q_gt, q_ge, eqD, neD, isD, isntD, q_isnn, q_isni, q_isnb, q_isnt, q_isnl, q_lenl, q_lent, q_inti, q_intb, q_max2, q_min2, q_listl, q_listt, q_tuplel, q_tuplet, q_sum, q_min, q_max, allD, itSeq, itR1, q_itR2, q_rng2, q_en, q_en1, q_zip, q_zipQ, q_seqr, q_lenr, q_ixr, q_seql, q_seqt, q_rvd, q_rvn, q_catn, q_ixl, q_ixt, q_sl, q_sll, q_slt, q_slr, nSlL, oNone, oSome, nLc, wipeD, q_dropc, q_dropxd, q_dropxb, q_dropxo, q_dropxn, q_drope, dYes, dCnt, q_revl, q_revt, q_revr, nListRg, dTupRg, exInts, exOpt, q_addr1, q_addrr, q_ixk0, q_ixk1, exRow, exTk, cntL, cntQ_some, cntQ_none, List.getElem?_cons_zero, List.getElem?_cons_succ, List.getElem?_nil, Option.some.injEq, SV.dat.injEq, SV.own.injEq, PyData.int.injEq, PyData.bool.injEq, PyData.tuple.injEq, PyData.list.injEq, PyData.str.injEq, RVd.new.injEq, RVd.dat.injEq, exists_eq_left, exists_eq_left', exists_eq_right, List.cons.injEq, List.set_cons_zero, List.set_cons_succ, reduceCtorEq, and_true, true_and, false_and, and_false, not_true_eq_false, not_false_eq_true, if_true, if_false, ite_true, ite_false, decide_eq_true_eq, Bool.not_eq_true', decide_eq_false_iff_not, Bool.and_true, Bool.true_and, Bool.and_false, Bool.false_and, Bool.not_true, Bool.not_false, Bool.false_eq_true, List.map_cons, List.map_nil, List.length_cons, List.length_nil, Nat.zero_add, Nat.reduceAdd, Nat.reduceLeDiff, startd, List.replicate_succ, List.replicate_zero, List.nil_append, List.cons_append, Nat.reduceSub, exists_const, and_self, shp_int, shp_none, shp_bool, eqv_int, dForL_nil, lcL_nil] at h ⊢
        have e1 : pre ++ (c + 1) % e :: cs = (pre ++ [(c + 1) % e]) ++ cs := by simp
        rw [e1]
        refine gone_in (took := none) rfl rfl rs (n + 1) (pre ++ [(c + 1) % e]) cs _ _ _ ht' (by simp [hp]) hcs fun y6 y7 y8 => ?_
        simpa using h y6 y7 y8
theorem gone_out {D : DEnds} {rs : List (Int × Int)} {x1 : Option SV} {g gi : DG} {tb tbi : DS} (ok : RowOk rs) (hgi : gi = gdTup 2 (gdCons (gdName 6) (gdCons (gdTup 2 (gdCons (gdName 7) (gdCons (gdName 8) gdNil))) gdNil)))
    (htbi : tbi = (dIfS (dTest (d2 isD (dVar 5) (dC .none))) (dSeq (dSetI 2 (dVar 6) (d2 modD (d2 addD (d2 ixD (dOwn 2) (dVar 6)) (dC (.int 1))) (dVar 7)))
  (dIfS (dTest (d2 eqD (d2 ixD (dOwn 2) (dVar 6)) (dC (.int 0)))) (dAsgG (dVar 6) (gdName 5)) dNext)) dNext))
    (hg : g = gdName 4) (htb : tb = (dSeq (dAsgG (dC .none) (gdName 5)) (dSeq (dFor (itEn (nCons (dVar 0) nNil)) gi tbi) (dApp 3 (dVar 5))))) :
    ∀ (m k : Nat) (cs : List Int) (acc : List (Option Int)) (x4 x5 x6 x7 x8 x9 : Option SV), cs.length = rs.length → acc.length + m ≤ 100000 →
      (∀ (x4 x5 x6 x7 x8 x9 : Option SV), D.nx [some (.dat (rowD rs)), x1, some (.own ((goneG rs cs m).2.map .int)), some (.own ((acc ++ (goneG rs cs m).1).map optD)), x4, x5, x6, x7, x8, x9]) →
      dForL g tb ((List.range' k m).map fun i => .int ((0 : Int) + (i : Nat))) D [some (.dat (rowD rs)), x1, some (.own (cs.map .int)), some (.own (acc.map optD)), x4, x5, x6, x7, x8, x9]
  | 0, k, cs, acc, x4, x5, x6, x7, x8, x9, _, _, h => by
    have := h x4 x5 x6 x7 x8 x9
    show D.nx _
    simpa [goneG] using this
  | m + 1, k, cs, acc, x4, x5, x6, x7, x8, x9, hc, hl, h => by
    rw [List.range'_succ, List.map_cons, dForL_cons, hg, htb]
    simp only [dSeq, dAsgG, dAsgN, dRet, dRetN, dRetO, dRet0, dDrop, dIfS, dNext, dApp, dInsert, q_setI, q_setQ, q_take, dFor, dFreeze, dNever, q_par, q_parQ, q_par3, q_parQ3, dParNE, dParDE, gdName, q_gnil, q_gcons, q_gtup, dVar, dOwn, dC, d1, d2, n2, nCons, nNil, nLst, dTup, dFr, dTest, dAnd, dOr, dNot, dAndV, dOrV, dNotV, dIf, dChain, dCB, nCB, dCall, nCall, aDat, aBag, aNil, q_neg, q_add, q_addl, q_addt, q_sub, q_mul, q_mull, q_mult, q_fdiv, q_mod, q_pow, q_lt, q_le, q_gt, q_ge, eqD, neD, isD, isntD, q_isnn, q_isni, q_isnb, q_isnt, q_isnl, q_lenl, q_lent, q_inti, q_intb, q_max2, q_min2, q_listl, q_listt, q_tuplel, q_tuplet, q_sum, q_min, q_max, allD, itSeq, itR1, q_itR2, q_rng2, q_en, q_en1, q_zip, q_zipQ, q_seqr, q_lenr, q_ixr, q_seql, q_seqt, q_rvd, q_rvn, q_catn, q_ixl, q_ixt, q_sl, q_sll, q_slt, q_slr, nSlL, oNone, oSome, nLc, wipeD, q_dropc, q_dropxd, q_dropxb, q_dropxo, q_dropxn, q_drope, dYes, dCnt, q_revl, q_revt, q_revr, nListRg, dTupRg, exInts, exOpt, q_addr1, q_addrr, q_ixk0, q_ixk1, exRow, exTk, cntL, cntQ_some, cntQ_none, List.getElem?_cons_zero, List.getElem?_cons_succ, List.getElem?_nil, Option.some.injEq, SV.dat.injEq, SV.own.injEq, PyData.int.injEq, PyData.bool.injEq, PyData.tuple.injEq, PyData.list.injEq, PyData.str.injEq, RVd.new.injEq, RVd.dat.injEq, exists_eq_left, exists_eq_left', exists_eq_right, List.cons.injEq, List.set_cons_zero, List.set_cons_succ, reduceCtorEq, and_true, true_and, false_and, and_false, not_true_eq_false, not_false_eq_true, if_true, if_false, ite_true, ite_false, decide_eq_true_eq, Bool.not_eq_true', decide_eq_false_iff_not, Bool.and_true, Bool.true_and, Bool.and_false, Bool.false_and, Bool.not_true, Bool.not_false, Bool.false_eq_true, List.map_cons, List.map_nil, List.length_cons, List.length_nil, Nat.zero_add, Nat.reduceAdd, Nat.reduceLeDiff, startd, List.replicate_succ, List.replicate_zero, List.nil_append, List.cons_append, Nat.reduceSub, exists_const, and_self, shp_int, shp_none, shp_bool, eqv_int, dForL_nil, lcL_nil]
    have e0 : cs = ([] : List Int) ++ cs := rfl
    rw [e0]
    refine gone_in (took := none) hgi htbi rs 0 [] cs _ _ _ ok.2 rfl hc fun y6 y7 y8 => ?_
    have l1 : acc.length < 1000000 := by omega
    simp only [List.length_map, l1, dSeq, dAsgG, dAsgN, dRet, dRetN, dRetO, dRet0, dDrop, dIfS, dNext, dApp, dInsert, q_setI, q_setQ, q_take, dFor, dFreeze, dNever, q_par, q_parQ, q_par3, q_parQ3, dParNE, dParDE, gdName, q_gnil, q_gcons, q_gtup, dVar, dOwn, dC, d1, d2, n2, nCons, nNil, nLst, dTup, dFr, dTest, dAnd, dOr, dNot, dAndV, dOrV, dNotV, dIf, dChain, dCB, nCB, dCall, nCall, aDat, aBag, aNil, q_neg, q_add, q_addl, q_addt, q_sub, q_mul, q_mull, q_mult, q_fdiv, q_mod, q_pow, q_lt, q_le, q_gt, q_ge, eqD, neD, isD, isntD, q_isnn, q_isni, q_isnb, q_isnt, q_isnl, q_lenl, q_lent, q_inti, q_intb, q_max2, q_min2, q_listl, q_listt, q_tuplel, q_tuplet, q_sum, q_min, q_max, allD, itSeq, itR1, q_itR2, q_rng2, q_en, q_en1, q_zip, q_zipQ, q_seqr, q_lenr, q_ixr, q_seql, q_seqt, q_rvd, q_rvn, q_catn, q_ixl, q_ixt, q_sl, q_sll, q_slt, q_slr, nSlL, oNone, oSome, nLc, wipeD, q_dropc, q_dropxd, q_dropxb, q_dropxo, q_dropxn, q_drope, dYes, dCnt, q_revl, q_revt, q_revr, nListRg, dTupRg, exInts, exOpt, q_addr1, q_addrr, q_ixk0, q_ixk1, exRow, exTk, cntL, cntQ_some, cntQ_none, List.getElem?_cons_zero, List.getElem?_cons_succ, List.getElem?_nil, Option.some.injEq, SV.dat.injEq, SV.own.injEq, PyData.int.injEq, PyData.bool.injEq, PyData.tuple.injEq, PyData.list.injEq, PyData.str.injEq, RVd.new.injEq, RVd.dat.injEq, exists_eq_left, exists_eq_left', exists_eq_right, List.cons.injEq, List.set_cons_zero, List.set_cons_succ, reduceCtorEq, and_true, true_and, false_and, and_false, not_true_eq_false, not_false_eq_true, if_true, if_false, ite_true, ite_false, decide_eq_true_eq, Bool.not_eq_true', decide_eq_false_iff_not, Bool.and_true, Bool.true_and, Bool.and_false, Bool.false_and, Bool.not_true, Bool.not_false, Bool.false_eq_true, List.map_cons, List.map_nil, List.length_cons, List.length_nil, Nat.zero_add, Nat.reduceAdd, Nat.reduceLeDiff, startd, List.replicate_succ, List.replicate_zero, List.nil_append, List.cons_append, Nat.reduceSub, exists_const, and_self, shp_int, shp_none, shp_bool, eqv_int, dForL_nil, lcL_nil]
    have ea : acc.map optD ++ [optD (pieceG 0 rs cs).1] = (acc ++ [(pieceG 0 rs cs).1]).map optD := by simp
    show dForL _ _ _ D [_, _, some (.own ((pieceG 0 rs cs).2.map .int)), some (.own (acc.map optD ++ [optD (pieceG 0 rs cs).1])), _, _, _, _, _, _]
    rw [ea]
    refine gone_out ok rfl rfl rfl (by rw [hgi, htbi]) m (k + 1) _ _ _ _ _ _ _ _ (by rw [pieceG_len, hc]) (by simp only [List.length_append, List.length_cons, List.length_nil]; omega) fun z4 z5 z6 z7 z8 z9 => ?_
    have := h z4 z5 z6 z7 z8 z9
    simpa [goneG] using this
theorem rd_law_gone (svs : List SV) (R : RVd → Prop) (h : sp_law_gone svs R) : b_law_gone { nx := fun _ => R (.dat .none), rt := R } (startd 10 svs) := by
  unfold sp_law_gone at h
  split at h
  · rename_i n
    obtain ⟨rs, rfl, ok, n0, n1, h⟩ := h
    simp only [b_law_gone, dSeq, dAsgG, dAsgN, dRet, dRetN, dRetO, dRet0, dDrop, dIfS, dNext, dApp, dInsert, q_setI, q_setQ, q_take, dFor, dFreeze, dNever, q_par, q_parQ, q_par3, q_parQ3, dParNE, dParDE, gdName, q_gnil, q_gcons, q_gtup, dVar, dOwn, dC, d1, d2, n2, nCons, nNil, nLst, dTup, dFr, dTest, dAnd, dOr, dNot, dAndV, dOrV, dNotV, dIf, dChain, dCB, nCB, dCall, nCall, aDat, aBag, aNil, q_neg, q_add, q_addl, q_addt, q_sub, q_mul, q_mull, q_mult, q_fdiv, q_mod, q_pow, q_lt, q_le, q_gt, q_ge, eqD, neD, isD, isntD, q_isnn, q_isni, q_isnb, q_isnt, q_isnl, q_lenl, q_lent, q_inti, q_intb, q_max2, q_min2, q_listl, q_listt, q_tuplel, q_tuplet, q_sum, q_min, q_max, allD, itSeq, itR1, q_itR2, q_rng2, q_en, q_en1, q_zip, q_zipQ, q_seqr, q_lenr, q_ixr, q_seql, q_seqt, q_rvd, q_rvn, q_catn, q_ixl, q_ixt, q_sl, q_sll, q_slt, q_slr, nSlL, oNone, oSome, nLc, wipeD, q_dropc, q_dropxd, q_dropxb, q_dropxo, q_dropxn, q_drope, dYes, dCnt, q_revl, q_revt, q_revr, nListRg, dTupRg, exInts, exOpt, q_addr1, q_addrr, q_ixk0, q_ixk1, exRow, exTk, cntL, cntQ_some, cntQ_none, List.getElem?_cons_zero, List.getElem?_cons_succ, List.getElem?_nil, Option.some.injEq, SV.dat.injEq, SV.own.injEq, PyData.int.injEq, PyData.bool.injEq, PyData.tuple.injEq, PyData.list.injEq, PyData.str.injEq, RVd.new.injEq, RVd.dat.injEq, exists_eq_left, exists_eq_left', exists_eq_right, List.cons.injEq, List.set_cons_zero, List.set_cons_succ, reduceCtorEq, and_true, true_and, false_and, and_false, not_true_eq_false, not_false_eq_true, if_true, if_false, ite_true, ite_false, decide_eq_true_eq, Bool.not_eq_true', decide_eq_false_iff_not, Bool.and_true, Bool.true_and, Bool.and_false, Bool.false_and, Bool.not_true, Bool.not_false, Bool.false_eq_true, List.map_cons, List.map_nil, List.length_cons, List.length_nil, Nat.zero_add, Nat.reduceAdd, Nat.reduceLeDiff, startd, List.replicate_succ, List.replicate_zero, List.nil_append, List.cons_append, Nat.reduceSub, exists_const, and_self, shp_int, shp_none, shp_bool, eqv_int, dForL_nil, lcL_nil]
    have hl := ok.1
    refine ⟨by rw [List.length_map]; omega, ?_⟩
    have hmap : (rs.map tkD).map (fun d => match d with | .tuple [_, c] => c | _ => .none) = (rs.map (·.2)).map PyData.int := by
      rw [List.map_map, List.map_map]
      rfl
    rw [lcL_mapOn (f := fun d => match d with | .tuple [_, c] => c | _ => .none) (fun d hd Q => by
      obtain ⟨t, _, rfl⟩ := List.mem_map.mp hd
      simp only [tkD, at1, dSeq, dAsgG, dAsgN, dRet, dRetN, dRetO, dRet0, dDrop, dIfS, dNext, dApp, dInsert, q_setI, q_setQ, q_take, dFor, dFreeze, dNever, q_par, q_parQ, q_par3, q_parQ3, dParNE, dParDE, gdName, q_gnil, q_gcons, q_gtup, dVar, dOwn, dC, d1, d2, n2, nCons, nNil, nLst, dTup, dFr, dTest, dAnd, dOr, dNot, dAndV, dOrV, dNotV, dIf, dChain, dCB, nCB, dCall, nCall, aDat, aBag, aNil, q_neg, q_add, q_addl, q_addt, q_sub, q_mul, q_mull, q_mult, q_fdiv, q_mod, q_pow, q_lt, q_le, q_gt, q_ge, eqD, neD, isD, isntD, q_isnn, q_isni, q_isnb, q_isnt, q_isnl, q_lenl, q_lent, q_inti, q_intb, q_max2, q_min2, q_listl, q_listt, q_tuplel, q_tuplet, q_sum, q_min, q_max, allD, itSeq, itR1, q_itR2, q_rng2, q_en, q_en1, q_zip, q_zipQ, q_seqr, q_lenr, q_ixr, q_seql, q_seqt, q_rvd, q_rvn, q_catn, q_ixl, q_ixt, q_sl, q_sll, q_slt, q_slr, nSlL, oNone, oSome, nLc, wipeD, q_dropc, q_dropxd, q_dropxb, q_dropxo, q_dropxn, q_drope, dYes, dCnt, q_revl, q_revt, q_revr, nListRg, dTupRg, exInts, exOpt, q_addr1, q_addrr, q_ixk0, q_ixk1, exRow, exTk, cntL, cntQ_some, cntQ_none, List.getElem?_cons_zero, List.getElem?_cons_succ, List.getElem?_nil, Option.some.injEq, SV.dat.injEq, SV.own.injEq, PyData.int.injEq, PyData.bool.injEq, PyData.tuple.injEq, PyData.list.injEq, PyData.str.injEq, RVd.new.injEq, RVd.dat.injEq, exists_eq_left, exists_eq_left', exists_eq_right, List.cons.injEq, List.set_cons_zero, List.set_cons_succ, reduceCtorEq, and_true, true_and, false_and, and_false, not_true_eq_false, not_false_eq_true, if_true, if_false, ite_true, ite_false, decide_eq_true_eq, Bool.not_eq_true', decide_eq_false_iff_not, Bool.and_true, Bool.true_and, Bool.and_false, Bool.false_and, Bool.not_true, Bool.not_false, Bool.false_eq_true, List.map_cons, List.map_nil, List.length_cons, List.length_nil, Nat.zero_add, Nat.reduceAdd, Nat.reduceLeDiff, startd, List.replicate_succ, List.replicate_zero, List.nil_append, List.cons_append, Nat.reduceSub, exists_const, and_self, shp_int, shp_none, shp_bool, eqv_int, dForL_nil, lcL_nil]), hmap]
    refine ⟨⟨by omega, by omega⟩, ?_⟩
    unfold rngD
    rw [List.range_eq_range']
    refine gone_out (acc := []) ok rfl rfl rfl rfl n.toNat 0 _ _ _ _ _ _ _ (by simp) (by simp; omega) fun z4 z5 z6 z7 z8 z9 => ?_
    simp only [dSeq, dAsgG, dAsgN, dRet, dRetN, dRetO, dRet0, dDrop, dIfS, dNext, dApp, dInsert, q_setI, q_setQ, q_take, dFor, dFreeze, dNever, q_par, q_parQ, q_par3, q_parQ3, dParNE, dParDE, gdName, q_gnil, q_gcons, q_gtup, dVar, dOwn, dC, d1, d2, n2, nCons, nNil, nLst, dTup, dFr, dTest, dAnd, dOr, dNot, dAndV, dOrV, dNotV, dIf, dChain, dCB, nCB, dCall, nCall, aDat, aBag, aNil, q_neg, q_add, q_addl, q_addt, q_sub, q_mul, q_mull, q_mult, q_fdiv, q_mod, q_pow, q_lt, q_le, q_gt, q_ge, eqD, neD, isD, isntD, q_isnn, q_isni, q_isnb, q_isnt, q_isnl, q_lenl, q_lent, q_inti, q_intb, q_max2, q_min2, q_listl, q_listt, q_tuplel, q_tuplet, q_sum, q_min, q_max, allD, itSeq, itR1, q_itR2, q_rng2, q_en, q_en1, q_zip, q_zipQ, q_seqr, q_lenr, q_ixr, q_seql, q_seqt, q_rvd, q_rvn, q_catn, q_ixl, q_ixt, q_sl, q_sll, q_slt, q_slr, nSlL, oNone, oSome, nLc, wipeD, q_dropc, q_dropxd, q_dropxb, q_dropxo, q_dropxn, q_drope, dYes, dCnt, q_revl, q_revt, q_revr, nListRg, dTupRg, exInts, exOpt, q_addr1, q_addrr, q_ixk0, q_ixk1, exRow, exTk, cntL, cntQ_some, cntQ_none, List.getElem?_cons_zero, List.getElem?_cons_succ, List.getElem?_nil, Option.some.injEq, SV.dat.injEq, SV.own.injEq, PyData.int.injEq, PyData.bool.injEq, PyData.tuple.injEq, PyData.list.injEq, PyData.str.injEq, RVd.new.injEq, RVd.dat.injEq, exists_eq_left, exists_eq_left', exists_eq_right, List.cons.injEq, List.set_cons_zero, List.set_cons_succ, reduceCtorEq, and_true, true_and, false_and, and_false, not_true_eq_false, not_false_eq_true, if_true, if_false, ite_true, ite_false, decide_eq_true_eq, Bool.not_eq_true', decide_eq_false_iff_not, Bool.and_true, Bool.true_and, Bool.and_false, Bool.false_and, Bool.not_true, Bool.not_false, Bool.false_eq_true, List.map_cons, List.map_nil, List.length_cons, List.length_nil, Nat.zero_add, Nat.reduceAdd, Nat.reduceLeDiff, startd, List.replicate_succ, List.replicate_zero, List.nil_append, List.cons_append, Nat.reduceSub, exists_const, and_self, shp_int, shp_none, shp_bool, eqv_int, dForL_nil, lcL_nil]
    exact h
  · exact h.elim
theorem len_law_gone (svs : List SV) (R : RVd → Prop) (h : sp_law_gone svs R) : svs.length = 2 := by
  unfold sp_law_gone at h
  split at h
  · rfl
  · exact h.elim
/-! ### numbers -/
def numbersG (n : Nat) (os : List (Option Int)) : List Int := ((List.range n).map fun (i : Nat) => ((os.count (some ((i : Nat) : Int)) : Nat) : Int)) ++ [((os.count none : Nat) : Int)]
end Pd

set_option maxRecDepth 100000
set_option maxHeartbeats 4000000
/-! came_as, piece_of, a far draw -/
namespace Pd
open PySem L2
def upG (t : Int × Int) (m : Int) : Int := (m + t.2) + (m + t.2 - 1) / (t.1 - 1) - t.2
def cameG : List (Int × Int) → Int → Int
  | [], m => m
  | t :: rs, m => upG t (cameG rs m)
theorem cameG_app (m : Int) : ∀ (rs : List (Int × Int)) (t : Int × Int), cameG (rs ++ [t]) m = cameG rs (upG t m)
  | [], t => rfl
  | u :: rs, t => by
    show upG u (cameG (rs ++ [t]) m) = upG u (cameG rs (upG t m))
    rw [cameG_app m rs t]
def sp_came_as : DSp
  | [.dat d, .dat (.int m)], R => ∃ rs, d = rowD rs ∧ (∀ t ∈ rs, TkOk t) ∧ R (.dat (.int (cameG rs m)))
  | _, _ => False
/-- came_as: 0 row, 1 number, 2 every, 3 counted, 4 among -/
abbrev b_came_as : DS := (dSeq (dFor (itSeq (d1 revD (dVar 0))) (gdTup 2 (gdCons (gdName 2) (gdCons (gdName 3) gdNil)))
  (dSeq (dAsgG (d2 addD (dVar 1) (dVar 3)) (gdName 4))
  (dAsgG (d2 subD (d2 addD (dVar 4) (d2 fdivD (d2 subD (dVar 4) (dC (.int 1))) (d2 subD (dVar 2) (dC (.int 1))))) (dVar 3)) (gdName 1))))
  (dRet (dVar 1)))
theorem came_loop {D : DEnds} {x0 : Option SV} {g : DG} {tb : DS} (hg : g = gdTup 2 (gdCons (gdName 2) (gdCons (gdName 3) gdNil)))
    (htb : tb = (dSeq (dAsgG (d2 addD (dVar 1) (dVar 3)) (gdName 4))
  (dAsgG (d2 subD (d2 addD (dVar 4) (d2 fdivD (d2 subD (dVar 4) (dC (.int 1))) (d2 subD (dVar 2) (dC (.int 1))))) (dVar 3)) (gdName 1)))) :
    ∀ (rs : List (Int × Int)) (m : Int) (x2 x3 x4 : Option SV), (∀ t ∈ rs, TkOk t) → (∀ x2 x3 x4, D.nx [x0, some (.dat (.int (cameG rs.reverse m))), x2, x3, x4]) → dForL g tb (rs.map tkD) D [x0, some (.dat (.int m)), x2, x3, x4]
  | [], m, x2, x3, x4, _, h => h x2 x3 x4
  | (e, c) :: rs, m, x2, x3, x4, ht, h => by
    obtain ⟨t1, t2, t3, t4⟩ := ht (e, c) List.mem_cons_self
    dsimp only at t1 t2 t3 t4
    rw [List.map_cons, dForL_cons, hg, htb]
    have he : 0 < e - 1 := by omega
    have he2 : (e - 1).natAbs < 2 ^ 1000 := by omega
    simp only [tkD, he, he2, dSeq, dAsgG, dAsgN, dRet, dRetN, dRetO, dRet0, dDrop, dIfS, dNext, dApp, dInsert, q_setI, q_setQ, q_take, dFor, dFreeze, dNever, q_par, q_parQ, q_par3, q_parQ3, dParNE, dParDE, gdName, q_gnil, q_gcons, q_gtup, dVar, dOwn, dC, d1, d2, n2, nCons, nNil, nLst, dTup, dFr, dTest, dAnd, dOr, dNot, dAndV, dOrV, dNotV, dIf, dChain, dCB, nCB, dCall, nCall, aDat, aBag, aNil, q_neg, q_add, q_addl, q_addt, q_sub, q_mul, q_mull, q_mult, q_fdiv, q_mod, q_pow, q_lt, q_le, q_gt, q_ge, eqD, neD, isD, isntD, q_isnn, q_isni, q_isnb, q_isnt, q_isnl, q_lenl, q_lent, q_inti, q_intb, q_max2, q_min2, q_listl, q_listt, q_tuplel, q_tuplet, q_sum, q_min, q_max, allD, itSeq, itR1, q_itR2, q_rng2, q_en, q_en1, q_zip, q_zipQ, q_seqr, q_lenr, q_ixr, q_seql, q_seqt, q_rvd, q_rvn, q_catn, q_ixl, q_ixt, q_sl, q_sll, q_slt, q_slr, nSlL, oNone, oSome, nLc, wipeD, q_dropc, q_dropxd, q_dropxb, q_dropxo, q_dropxn, q_drope, dYes, dCnt, q_revl, q_revt, q_revr, nListRg, dTupRg, exInts, exOpt, q_addr1, q_addrr, q_ixk0, q_ixk1, exRow, exTk, cntL, cntQ_some, cntQ_none, List.getElem?_cons_zero, List.getElem?_cons_succ, List.getElem?_nil, Option.some.injEq, SV.dat.injEq, SV.own.injEq, PyData.int.injEq, PyData.bool.injEq, PyData.tuple.injEq, PyData.list.injEq, PyData.str.injEq, RVd.new.injEq, RVd.dat.injEq, exists_eq_left, exists_eq_left', exists_eq_right, List.cons.injEq, List.set_cons_zero, List.set_cons_succ, reduceCtorEq, and_true, true_and, false_and, and_false, not_true_eq_false, not_false_eq_true, if_true, if_false, ite_true, ite_false, decide_eq_true_eq, Bool.not_eq_true', decide_eq_false_iff_not, Bool.and_true, Bool.true_and, Bool.and_false, Bool.false_and, Bool.not_true, Bool.not_false, Bool.false_eq_true, List.map_cons, List.map_nil, List.length_cons, List.length_nil, Nat.zero_add, Nat.reduceAdd, Nat.reduceLeDiff, startd, List.replicate_succ, List.replicate_zero, List.nil_append, List.cons_append, Nat.reduceSub, exists_const, and_self, shp_int, shp_none, shp_bool, eqv_int, dForL_nil, lcL_nil]
    refine came_loop rfl rfl rs _ _ _ _ (fun t h => ht t (List.mem_cons_of_mem _ h)) fun y2 y3 y4 => ?_
    have := h y2 y3 y4
    rw [List.reverse_cons, cameG_app] at this
    exact this
theorem rd_came_as (svs : List SV) (R : RVd → Prop) (h : sp_came_as svs R) : b_came_as { nx := fun _ => R (.dat .none), rt := R } (startd 5 svs) := by
  unfold sp_came_as at h
  split at h
  · obtain ⟨rs, rfl, ok, h⟩ := h
    simp only [b_came_as, dSeq, dAsgG, dAsgN, dRet, dRetN, dRetO, dRet0, dDrop, dIfS, dNext, dApp, dInsert, q_setI, q_setQ, q_take, dFor, dFreeze, dNever, q_par, q_parQ, q_par3, q_parQ3, dParNE, dParDE, gdName, q_gnil, q_gcons, q_gtup, dVar, dOwn, dC, d1, d2, n2, nCons, nNil, nLst, dTup, dFr, dTest, dAnd, dOr, dNot, dAndV, dOrV, dNotV, dIf, dChain, dCB, nCB, dCall, nCall, aDat, aBag, aNil, q_neg, q_add, q_addl, q_addt, q_sub, q_mul, q_mull, q_mult, q_fdiv, q_mod, q_pow, q_lt, q_le, q_gt, q_ge, eqD, neD, isD, isntD, q_isnn, q_isni, q_isnb, q_isnt, q_isnl, q_lenl, q_lent, q_inti, q_intb, q_max2, q_min2, q_listl, q_listt, q_tuplel, q_tuplet, q_sum, q_min, q_max, allD, itSeq, itR1, q_itR2, q_rng2, q_en, q_en1, q_zip, q_zipQ, q_seqr, q_lenr, q_ixr, q_seql, q_seqt, q_rvd, q_rvn, q_catn, q_ixl, q_ixt, q_sl, q_sll, q_slt, q_slr, nSlL, oNone, oSome, nLc, wipeD, q_dropc, q_dropxd, q_dropxb, q_dropxo, q_dropxn, q_drope, dYes, dCnt, q_revl, q_revt, q_revr, nListRg, dTupRg, exInts, exOpt, q_addr1, q_addrr, q_ixk0, q_ixk1, exRow, exTk, cntL, cntQ_some, cntQ_none, List.getElem?_cons_zero, List.getElem?_cons_succ, List.getElem?_nil, Option.some.injEq, SV.dat.injEq, SV.own.injEq, PyData.int.injEq, PyData.bool.injEq, PyData.tuple.injEq, PyData.list.injEq, PyData.str.injEq, RVd.new.injEq, RVd.dat.injEq, exists_eq_left, exists_eq_left', exists_eq_right, List.cons.injEq, List.set_cons_zero, List.set_cons_succ, reduceCtorEq, and_true, true_and, false_and, and_false, not_true_eq_false, not_false_eq_true, if_true, if_false, ite_true, ite_false, decide_eq_true_eq, Bool.not_eq_true', decide_eq_false_iff_not, Bool.and_true, Bool.true_and, Bool.and_false, Bool.false_and, Bool.not_true, Bool.not_false, Bool.false_eq_true, List.map_cons, List.map_nil, List.length_cons, List.length_nil, Nat.zero_add, Nat.reduceAdd, Nat.reduceLeDiff, startd, List.replicate_succ, List.replicate_zero, List.nil_append, List.cons_append, Nat.reduceSub, exists_const, and_self, shp_int, shp_none, shp_bool, eqv_int, dForL_nil, lcL_nil]
    refine came_loop rfl rfl rs.reverse _ _ _ _ (fun t ht => ok t (List.mem_reverse.mp ht)) fun x2 x3 x4 => ?_
    rw [List.reverse_reverse]
    simp only [dSeq, dAsgG, dAsgN, dRet, dRetN, dRetO, dRet0, dDrop, dIfS, dNext, dApp, dInsert, q_setI, q_setQ, q_take, dFor, dFreeze, dNever, q_par, q_parQ, q_par3, q_parQ3, dParNE, dParDE, gdName, q_gnil, q_gcons, q_gtup, dVar, dOwn, dC, d1, d2, n2, nCons, nNil, nLst, dTup, dFr, dTest, dAnd, dOr, dNot, dAndV, dOrV, dNotV, dIf, dChain, dCB, nCB, dCall, nCall, aDat, aBag, aNil, q_neg, q_add, q_addl, q_addt, q_sub, q_mul, q_mull, q_mult, q_fdiv, q_mod, q_pow, q_lt, q_le, q_gt, q_ge, eqD, neD, isD, isntD, q_isnn, q_isni, q_isnb, q_isnt, q_isnl, q_lenl, q_lent, q_inti, q_intb, q_max2, q_min2, q_listl, q_listt, q_tuplel, q_tuplet, q_sum, q_min, q_max, allD, itSeq, itR1, q_itR2, q_rng2, q_en, q_en1, q_zip, q_zipQ, q_seqr, q_lenr, q_ixr, q_seql, q_seqt, q_rvd, q_rvn, q_catn, q_ixl, q_ixt, q_sl, q_sll, q_slt, q_slr, nSlL, oNone, oSome, nLc, wipeD, q_dropc, q_dropxd, q_dropxb, q_dropxo, q_dropxn, q_drope, dYes, dCnt, q_revl, q_revt, q_revr, nListRg, dTupRg, exInts, exOpt, q_addr1, q_addrr, q_ixk0, q_ixk1, exRow, exTk, cntL, cntQ_some, cntQ_none, List.getElem?_cons_zero, List.getElem?_cons_succ, List.getElem?_nil, Option.some.injEq, SV.dat.injEq, SV.own.injEq, PyData.int.injEq, PyData.bool.injEq, PyData.tuple.injEq, PyData.list.injEq, PyData.str.injEq, RVd.new.injEq, RVd.dat.injEq, exists_eq_left, exists_eq_left', exists_eq_right, List.cons.injEq, List.set_cons_zero, List.set_cons_succ, reduceCtorEq, and_true, true_and, false_and, and_false, not_true_eq_false, not_false_eq_true, if_true, if_false, ite_true, ite_false, decide_eq_true_eq, Bool.not_eq_true', decide_eq_false_iff_not, Bool.and_true, Bool.true_and, Bool.and_false, Bool.false_and, Bool.not_true, Bool.not_false, Bool.false_eq_true, List.map_cons, List.map_nil, List.length_cons, List.length_nil, Nat.zero_add, Nat.reduceAdd, Nat.reduceLeDiff, startd, List.replicate_succ, List.replicate_zero, List.nil_append, List.cons_append, Nat.reduceSub, exists_const, and_self, shp_int, shp_none, shp_bool, eqv_int, dForL_nil, lcL_nil]
    exact h
  · exact h.elim
theorem len_came_as (svs : List SV) (R : RVd → Prop) (h : sp_came_as svs R) : svs.length = 2 := by
  unfold sp_came_as at h
  split at h
  · rfl
  · exact h.elim
/-! ### piece_of -/
def pieceOfG (rs : List (Int × Int)) : Option Int → Int → Int
  | none, n => cameG rs n
  | some j, n => match rs[j.toNat]? with
    | some t => cameG (rs.take j.toNat) (n * t.1 - t.2)
    | none => 0
theorem pieceOfG_some {rs : List (Int × Int)} {k : Nat} {t : Int × Int} {n : Int} (et : rs[k]? = some t) : pieceOfG rs (some (k : Int)) n = cameG (rs.take k) (n * t.1 - t.2) := by
  show (match rs[((k : Int)).toNat]? with | some t => cameG (rs.take ((k : Int)).toNat) (n * t.1 - t.2) | none => 0) = _
  rw [Int.toNat_natCast, et]
def InRow (rs : List (Int × Int)) (o : Option Int) : Prop := ∀ j, o = some j → 0 ≤ j ∧ j < (rs.length : Nat)
theorem mul_small {i j : Int} (hi : i.natAbs < 2 ^ 1000) (hj : j.natAbs < 2 ^ 1000) : mulOk i j := .inl ⟨hi, hj⟩
theorem take_ok {rs : List (Int × Int)} (h : ∀ t ∈ rs, TkOk t) (n : Nat) : ∀ t ∈ rs.take n, TkOk t := fun t ht => h t (List.mem_of_mem_take ht)
/-! ### a far draw -/
theorem pick4 {a b c d r : Int} (P : Int → Prop) (h0 : 0 ≤ r) (h3 : r < 4) (ha : P a) (hb : P b) (hc : P c) (hd : P d) : ∃ z, atI [PyData.int a, .int b, .int c, .int d] r = some (.int z) ∧ P z := by
  have : r = 0 ∨ r = 1 ∨ r = 2 ∨ r = 3 := by omega
  rcases this with rfl | rfl | rfl | rfl
  · exact ⟨a, at0, ha⟩
  · exact ⟨b, at1, hb⟩
  · exact ⟨c, atI_nat (j := 2) rfl, hc⟩
  · exact ⟨d, atI_nat (j := 3) rfl, hd⟩
end Pd

set_option maxRecDepth 100000
set_option maxHeartbeats 4000000
/-! Plain mathematics: who, counts, piece by piece. -/
namespace Pd
open PySem L2
theorem emod_succ {x e : Int} (he : 0 < e) : (x % e + 1) % e = (x + 1) % e := by
  rw [Int.add_emod (x % e) 1, Int.emod_emod, ← Int.add_emod]
theorem ediv_succ_z {x e : Int} (he : 0 < e) (h : (x + 1) % e = 0) : (x + 1) / e = x / e + 1 := by
  have h1 := Int.mul_ediv_add_emod x e
  have h2 := Int.mul_ediv_add_emod (x + 1) e
  rw [h] at h2
  have r0 := Int.emod_nonneg x (by omega : e ≠ 0)
  have r1 := Int.emod_lt_of_pos x he
  generalize hq : x / e = q at *
  generalize hq' : (x + 1) / e = q' at *
  generalize x % e = r at *
  have e1 : e * q' = e * q + (r + 1) := by omega
  have e2 : e * (q' - q) = r + 1 := by rw [Int.mul_sub]; omega
  have h3 : 0 < q' - q := by
    refine Int.pos_of_mul_pos_right (a := e) ?_ he
    omega
  have h4 : q' - q < 2 := by
    refine Int.lt_of_mul_lt_mul_left (a := e) ?_ (Int.le_of_lt he)
    omega
  omega
theorem ediv_succ_n {x e : Int} (he : 0 < e) (h : (x + 1) % e ≠ 0) : (x + 1) / e = x / e := by
  have h1 := Int.mul_ediv_add_emod x e
  have r0 := Int.emod_nonneg x (by omega : e ≠ 0)
  have r1 := Int.emod_lt_of_pos x he
  have h2 : (x % e + 1) % e = (x + 1) % e := emod_succ he
  have hr : x % e + 1 < e := by
    rcases Int.lt_or_eq_of_le (show x % e + 1 ≤ e by omega) with z | z
    · exact z
    · exact absurd (by rw [← h2, z, Int.emod_self]) h
  have e1 : x + 1 = (x % e + 1) + e * (x / e) := by omega
  rw [e1, Int.add_mul_ediv_left _ _ (by omega), Int.ediv_eq_zero_of_lt (by omega) hr]
  omega
/-! ### what each has counted behind n pieces -/
def stG : List (Int × Int) → Int → List Int
  | [], _ => []
  | (e, c) :: rs, n => (c + n) % e :: stG rs (n - (n + c) / e)
theorem stG_len : ∀ (rs : List (Int × Int)) (n : Int), (stG rs n).length = rs.length
  | [], _ => rfl
  | (e, c) :: rs, n => by
    show (stG rs _).length + 1 = rs.length + 1
    rw [stG_len]
theorem piece_st : ∀ (rs : List (Int × Int)) (k n : Int), (∀ t ∈ rs, TkOk t) → pieceG k rs (stG rs n) = (whoG k rs (n + 1), stG rs (n + 1))
  | [], k, n, _ => rfl
  | (e, c) :: rs, k, n, ht => by
    obtain ⟨t1, t2, t3, t4⟩ := ht (e, c) List.mem_cons_self
    dsimp only at t1 t2 t3 t4
    have he : 0 < e := by omega
    have e0 : ((c + n) % e + 1) % e = (n + 1 + c) % e := by rw [emod_succ he]; congr 1; omega
    have e1 : n + 1 + c = (n + c) + 1 := by omega
    have e2 : (c + (n + 1)) % e = (n + 1 + c) % e := by congr 1; omega
    simp only [stG, pieceG, whoG, e0, e2]
    by_cases hz : (n + 1 + c) % e = 0
    · have hd : (n + 1 + c) / e = (n + c) / e + 1 := by
        rw [e1] at hz ⊢
        exact ediv_succ_z he hz
      simp only [hz, if_true, hd]
      rw [show n + 1 - ((n + c) / e + 1) = n - (n + c) / e by omega]
    · have hd : (n + 1 + c) / e = (n + c) / e := by
        rw [e1] at hz ⊢
        exact ediv_succ_n he hz
      simp only [hz, if_false, hd]
      rw [piece_st rs (k + 1) (n - (n + c) / e) fun t h => ht t (List.mem_cons_of_mem _ h)]
      rw [show n + 1 - (n + c) / e = n - (n + c) / e + 1 by omega]
theorem stG_zero : ∀ (rs : List (Int × Int)), (∀ t ∈ rs, TkOk t) → stG rs 0 = rs.map (·.2)
  | [], _ => rfl
  | (e, c) :: rs, ht => by
    obtain ⟨t1, t2, t3, t4⟩ := ht (e, c) List.mem_cons_self
    dsimp only at t1 t2 t3 t4
    show (c + 0) % e :: stG rs (0 - (0 + c) / e) = c :: rs.map (·.2)
    rw [Int.zero_add, Int.add_zero, Int.ediv_eq_zero_of_lt t3 t4, Int.emod_eq_of_lt t3 t4, show (0 : Int) - 0 = 0 by omega, stG_zero rs fun t h => ht t (List.mem_cons_of_mem _ h)]
/-- who takes the pieces from n on -/
def seenF (rs : List (Int × Int)) (n : Int) : Nat → List (Option Int)
  | 0 => []
  | m + 1 => whoG 0 rs (n + 1) :: seenF rs (n + 1) m
theorem gone_st {rs : List (Int × Int)} (ht : ∀ t ∈ rs, TkOk t) : ∀ (m : Nat) (n : Int), goneG rs (stG rs n) m = (seenF rs n m, stG rs (n + (m : Nat)))
  | 0, n => by simp [goneG, seenF]
  | m + 1, n => by
    simp only [goneG, piece_st rs 0 n ht, gone_st ht m (n + 1), seenF]
    rw [show n + 1 + (m : Nat) = n + ((m + 1 : Nat) : Int) by omega]
theorem gone_eq {rs : List (Int × Int)} (ht : ∀ t ∈ rs, TkOk t) (m : Nat) : goneG rs (rs.map (·.2)) m = (seenF rs 0 m, stG rs (m : Nat)) := by
  rw [← stG_zero rs ht, gone_st ht, Int.zero_add]
theorem seenF_len (rs : List (Int × Int)) : ∀ (m : Nat) (n : Int), (seenF rs n m).length = m
  | 0, _ => rfl
  | m + 1, n => by
    show (seenF rs (n + 1) m).length + 1 = m + 1
    rw [seenF_len]
theorem seenF_get (rs : List (Int × Int)) : ∀ (m : Nat) (n : Int) (i : Nat), i < m → (seenF rs n m)[i]? = some (whoG 0 rs (n + 1 + (i : Nat)))
  | 0, _, _, h => by omega
  | m + 1, n, 0, _ => by simp [seenF]
  | m + 1, n, i + 1, h => by
    show (seenF rs (n + 1) m)[i]? = _
    rw [seenF_get rs m (n + 1) i (by omega), show n + 1 + 1 + (i : Nat) = n + 1 + ((i + 1 : Nat) : Int) by omega]
theorem seenF_take (rs : List (Int × Int)) : ∀ (m : Nat) (n : Int) (k : Nat), k ≤ m → (seenF rs n m).take k = seenF rs n k
  | m, n, 0, _ => by simp [seenF]
  | 0, n, k + 1, h => by omega
  | m + 1, n, k + 1, h => by
    show whoG 0 rs (n + 1) :: (seenF rs (n + 1) m).take k = whoG 0 rs (n + 1) :: seenF rs (n + 1) k
    rw [seenF_take rs m (n + 1) k (by omega)]
theorem seenF_succ (rs : List (Int × Int)) : ∀ (m : Nat) (n : Int), seenF rs n (m + 1) = seenF rs n m ++ [whoG 0 rs (n + 1 + (m : Nat))]
  | 0, n => by simp [seenF]
  | m + 1, n => by
    show whoG 0 rs (n + 1) :: seenF rs (n + 1) (m + 1) = whoG 0 rs (n + 1) :: (seenF rs (n + 1) m ++ _)
    rw [seenF_succ rs m (n + 1), show n + 1 + 1 + (m : Nat) = n + 1 + ((m + 1 : Nat) : Int) by omega]
/-! ### numbers grow where somebody takes -/
def addO : Int → List Int → Option Int → List Int
  | _, [], _ => []
  | _, [x], o => [if o = none then x + 1 else x]
  | k, x :: y :: r, o => (if o = some k then x + 1 else x) :: addO (k + 1) (y :: r) o
theorem whoG_ge : ∀ (rs : List (Int × Int)) (k p j : Int), whoG k rs p = some j → k ≤ j ∧ j < k + (rs.length : Nat)
  | [], k, p, j, h => by cases h
  | (e, c) :: rs, k, p, j, h => by
    unfold whoG at h
    split at h
    · cases h
      simp
      omega
    · have := whoG_ge rs (k + 1) _ j h
      simp
      omega
theorem addO_lt : ∀ (l : List Int) (k j : Int), j < k → addO k l (some j) = l
  | [], _, _, _ => rfl
  | [x], k, j, _ => by simp [addO]
  | x :: y :: r, k, j, h => by
    unfold addO
    rw [addO_lt (y :: r) (k + 1) j (by omega), if_neg (by intro z; cases z; omega)]
theorem countsG_ne (rs : List (Int × Int)) (n : Int) : ∃ y r, countsG rs n = y :: r := by
  cases rs with
  | nil => exact ⟨n, [], rfl⟩
  | cons t rs =>
    obtain ⟨e, c⟩ := t
    exact ⟨_, _, rfl⟩
theorem countsG_len : ∀ (rs : List (Int × Int)) (n : Int), (countsG rs n).length = rs.length + 1
  | [], _ => rfl
  | (e, c) :: rs, n => by
    show (countsG rs _).length + 1 = rs.length + 1 + 1
    rw [countsG_len]
theorem counts_succ : ∀ (rs : List (Int × Int)) (k n : Int), (∀ t ∈ rs, TkOk t) → countsG rs (n + 1) = addO k (countsG rs n) (whoG k rs (n + 1))
  | [], k, n, _ => by simp [countsG, whoG, addO]
  | (e, c) :: rs, k, n, ht => by
    obtain ⟨t1, t2, t3, t4⟩ := ht (e, c) List.mem_cons_self
    dsimp only at t1 t2 t3 t4
    have he : 0 < e := by omega
    have e1 : n + 1 + c = (n + c) + 1 := by omega
    have ht' : ∀ t ∈ rs, TkOk t := fun t h => ht t (List.mem_cons_of_mem _ h)
    simp only [countsG, whoG]
    obtain ⟨y, r, hy⟩ := countsG_ne rs (n - (n + c) / e)
    by_cases hz : (n + 1 + c) % e = 0
    · have hd : (n + 1 + c) / e = (n + c) / e + 1 := by
        rw [e1] at hz ⊢
        exact ediv_succ_z he hz
      simp only [hz, if_true, hd]
      rw [show n + 1 - ((n + c) / e + 1) = n - (n + c) / e by omega, hy]
      show _ = (if some k = some k then _ else _) :: addO (k + 1) (y :: r) (some k)
      rw [if_pos rfl, addO_lt _ _ _ (by omega)]
    · have hd : (n + 1 + c) / e = (n + c) / e := by
        rw [e1] at hz ⊢
        exact ediv_succ_n he hz
      simp only [hz, if_false, hd]
      rw [show n + 1 - (n + c) / e = n - (n + c) / e + 1 by omega, counts_succ rs (k + 1) _ ht', hy]
      show _ = (if whoG (k + 1) rs (n - (n + c) / e + 1) = some k then _ else _) :: addO (k + 1) (y :: r) _
      rw [if_neg fun z => by
        have := (whoG_ge rs (k + 1) _ k z).1
        omega]
theorem counts_zero : ∀ (rs : List (Int × Int)), (∀ t ∈ rs, TkOk t) → countsG rs 0 = List.replicate (rs.length + 1) 0
  | [], _ => rfl
  | (e, c) :: rs, ht => by
    obtain ⟨t1, t2, t3, t4⟩ := ht (e, c) List.mem_cons_self
    dsimp only at t1 t2 t3 t4
    show (0 + c) / e :: countsG rs (0 - (0 + c) / e) = _
    rw [Int.zero_add, Int.ediv_eq_zero_of_lt t3 t4, show (0 : Int) - 0 = 0 by omega, counts_zero rs fun t h => ht t (List.mem_cons_of_mem _ h)]
    rfl
def numFrom (k : Int) : Nat → List (Option Int) → List Int
  | 0, os => [((os.count none : Nat) : Int)]
  | n + 1, os => ((os.count (some k) : Nat) : Int) :: numFrom (k + 1) n os
theorem numFrom_eq : ∀ (n : Nat) (k : Int) (os : List (Option Int)), numFrom k n os = ((List.range n).map fun (i : Nat) => ((os.count (some (k + ((i : Nat) : Int))) : Nat) : Int)) ++ [((os.count none : Nat) : Int)]
  | 0, _, _ => rfl
  | n + 1, k, os => by
    unfold numFrom
    rw [numFrom_eq n (k + 1) os, List.range_succ_eq_map, List.map_cons, List.map_map]
    simp only [List.cons_append, List.cons.injEq]
    refine ⟨by simp, ?_⟩
    congr 1
    refine List.map_congr_left fun i _ => ?_
    show ((os.count (some (k + 1 + ((i : Nat) : Int))) : Nat) : Int) = ((os.count (some (k + ((i + 1 : Nat) : Int))) : Nat) : Int)
    rw [show k + 1 + ((i : Nat) : Int) = k + ((i + 1 : Nat) : Int) by omega]
theorem numbers_from (n : Nat) (os : List (Option Int)) : numbersG n os = numFrom 0 n os := by
  rw [numFrom_eq]
  unfold numbersG
  congr 1
  refine List.map_congr_left fun i _ => ?_
  rw [Int.zero_add]
theorem numFrom_add : ∀ (n : Nat) (k : Int) (os : List (Option Int)) (o : Option Int), (∀ j, o = some j → j < k + (n : Nat)) → numFrom k n (os ++ [o]) = addO k (numFrom k n os) o
  | 0, k, os, o, h => by
    show [(((os ++ [o]).count none : Nat) : Int)] = [if o = none then ((os.count none : Nat) : Int) + 1 else ((os.count none : Nat) : Int)]
    rw [List.count_append]
    cases o with
    | none => simp
    | some j => simp
  | n + 1, k, os, o, h => by
    have hne : ∃ y r, numFrom (k + 1) n os = y :: r := by
      cases n with
      | zero => exact ⟨_, _, rfl⟩
      | succ n => exact ⟨_, _, rfl⟩
    obtain ⟨y, r, hy⟩ := hne
    unfold numFrom
    rw [numFrom_add n (k + 1) os o (fun j hj => by have := h j hj; omega), hy]
    show _ = (if o = some k then _ else _) :: addO (k + 1) (y :: r) o
    rw [List.count_append]
    congr 1
    by_cases ho : o = some k
    · rw [if_pos ho, ho]
      simp
    · rw [if_neg ho]
      have : List.count (some k) [o] = 0 := List.count_eq_zero.mpr (by simpa using fun z => ho z.symm)
      rw [this]
      simp
theorem counts_numbers {rs : List (Int × Int)} (ht : ∀ t ∈ rs, TkOk t) : ∀ m : Nat, countsG rs (m : Nat) = numbersG rs.length (seenF rs 0 m)
  | 0 => by
    rw [show ((0 : Nat) : Int) = 0 from rfl, counts_zero rs ht, numbers_from]
    show _ = numFrom 0 rs.length []
    rw [numFrom_eq]
    rw [List.replicate_succ']
    congr 1
    refine (List.eq_replicate_iff.mpr ⟨by simp, fun b hb => ?_⟩).symm
    obtain ⟨i, _, rfl⟩ := List.mem_map.mp hb
    rfl
  | m + 1 => by
    rw [show ((m + 1 : Nat) : Int) = (m : Int) + 1 by omega, counts_succ rs 0 _ ht, counts_numbers ht m, seenF_succ, numbers_from, numbers_from, Int.zero_add]
    rw [numFrom_add]
    · rw [Int.add_comm 1 (m : Int)]
    · intro j hj
      have := (whoG_ge rs 0 _ j hj).2
      omega
/-! ### slices -/
theorem cut_to (ds : List PyData) (m : Nat) : cutD ds none (some (m : Int)) = ds.take m := by
  unfold cutD
  rw [HT.sIx_none, HT.sIx_nat, List.drop_zero, Nat.sub_zero]
  rcases Nat.le_total m ds.length with h | h
  · rw [Nat.min_eq_left h]
  · rw [Nat.min_eq_right h, List.take_of_length_le (Nat.le_refl _), List.take_of_length_le h]
theorem cut_from (ds : List PyData) (m : Nat) : cutD ds (some (m : Int)) none = ds.drop m := by
  unfold cutD
  rw [HT.sIx_none, HT.sIx_nat]
  rcases Nat.le_total m ds.length with h | h
  · rw [Nat.min_eq_left h, List.take_of_length_le (by rw [List.length_drop]; exact Nat.le_refl _)]
  · rw [Nat.min_eq_right h, List.drop_of_length_le (Nat.le_refl _), List.drop_of_length_le h]
    simp
theorem cut_last (ds : List PyData) (x : PyData) : cutD (ds ++ [x]) none (some (-1)) = ds := by
  unfold cutD
  rw [HT.sIx_none, List.drop_zero, Nat.sub_zero]
  have : HT.sIx (ds ++ [x]).length (ds ++ [x]).length (some (-1)) = ds.length := by
    show (if (-1 : Int) < 0 then ((-1 : Int) + ((ds ++ [x]).length : Int)).toNat else min (-1 : Int).toNat (ds ++ [x]).length) = _
    rw [if_pos (by decide), List.length_append, List.length_singleton]
    omega
  rw [this, List.take_left]
end Pd

set_option maxRecDepth 100000
set_option maxHeartbeats 4000000
/-! Plain mathematics: the piece that is somebody's so-manieth. -/
namespace Pd
open PySem L2
def lfG (t : Int × Int) (n : Int) : Int := n - (n + t.2) / t.1
def leftG : List (Int × Int) → Int → Int
  | [], n => n
  | t :: rs, n => leftG rs (lfG t n)
theorem ediv_of {x e q s : Int} (he : 0 < e) (h : x = e * q + s) (h0 : 0 ≤ s) (h1 : s < e) : x / e = q ∧ x % e = s := by
  have e1 : x = s + e * q := by omega
  constructor
  · rw [e1, Int.add_mul_ediv_left _ _ (by omega), Int.ediv_eq_zero_of_lt h0 h1, Int.zero_add]
  · rw [e1, Int.add_mul_emod_self_left, Int.emod_eq_of_lt h0 h1]
/-- the m-th piece that a taker lets by -/
theorem up_facts {t : Int × Int} (h : TkOk t) {m : Int} (hm : 1 ≤ m) : lfG t (upG t m) = m ∧ lfG t (upG t m - 1) = m - 1 ∧ (upG t m + t.2) % t.1 ≠ 0 ∧ m ≤ upG t m := by
  obtain ⟨e, c⟩ := t
  obtain ⟨t1, t2, t3, t4⟩ := h
  dsimp only at t1 t2 t3 t4
  unfold lfG upG
  dsimp only
  have h1 := Int.mul_ediv_add_emod (m + c - 1) (e - 1)
  have r0 := Int.emod_nonneg (m + c - 1) (by omega : e - 1 ≠ 0)
  have r1 := Int.emod_lt_of_pos (m + c - 1) (by omega : 0 < e - 1)
  have q0 : 0 ≤ (m + c - 1) / (e - 1) := Int.ediv_nonneg (by omega) (by omega)
  generalize (m + c - 1) / (e - 1) = q at *
  generalize (m + c - 1) % (e - 1) = r at *
  have e1 : (e - 1) * q = e * q - q := by rw [Int.sub_mul, Int.one_mul]
  obtain ⟨d1, d2⟩ := ediv_of (x := m + c + q - c + c) (e := e) (q := q) (s := r + 1) (by omega) (by omega) (by omega) (by omega)
  obtain ⟨d3, d4⟩ := ediv_of (x := m + c + q - c - 1 + c) (e := e) (q := q) (s := r) (by omega) (by omega) (by omega) (by omega)
  rw [d1, d2, d3]
  omega
theorem up_lf {t : Int × Int} (h : TkOk t) {p : Int} (hp : (p + t.2) % t.1 ≠ 0) : upG t (lfG t p) = p := by
  obtain ⟨e, c⟩ := t
  obtain ⟨t1, t2, t3, t4⟩ := h
  dsimp only at t1 t2 t3 t4 hp
  unfold lfG upG
  dsimp only
  have h1 := Int.mul_ediv_add_emod (p + c) e
  have r0 := Int.emod_nonneg (p + c) (by omega : e ≠ 0)
  have r1 := Int.emod_lt_of_pos (p + c) (by omega : 0 < e)
  generalize (p + c) / e = q at *
  generalize (p + c) % e = r at *
  have e1 : (e - 1) * q = e * q - q := by rw [Int.sub_mul, Int.one_mul]
  obtain ⟨d1, d2⟩ := ediv_of (x := p - q + c - 1) (e := e - 1) (q := q) (s := r - 1) (by omega) (by omega) (by omega) (by omega)
  rw [d1]
  omega
theorem up_lt {t : Int × Int} (h : TkOk t) {m m' : Int} (hm : m < m') : upG t m < upG t m' := by
  obtain ⟨e, c⟩ := t
  obtain ⟨t1, t2, t3, t4⟩ := h
  dsimp only at t1 t2 t3 t4
  unfold upG
  dsimp only
  have := Int.ediv_le_ediv (a := m + c - 1) (b := m' + c - 1) (c := e - 1) (by omega) (by omega)
  omega
theorem came_lt : ∀ {rs : List (Int × Int)} (ht : ∀ t ∈ rs, TkOk t) {m m' : Int}, m < m' → cameG rs m < cameG rs m'
  | [], _, m, m', h => h
  | t :: rs, ht, m, m', h => up_lt (ht t List.mem_cons_self) (came_lt (fun t h => ht t (List.mem_cons_of_mem _ h)) h)
theorem came_facts : ∀ (rs : List (Int × Int)) (k : Int) (ht : ∀ t ∈ rs, TkOk t) {m : Int}, 1 ≤ m → leftG rs (cameG rs m) = m ∧ leftG rs (cameG rs m - 1) = m - 1 ∧ whoG k rs (cameG rs m) = none ∧ m ≤ cameG rs m
  | [], k, _, m, _ => ⟨rfl, rfl, rfl, Int.le_refl m⟩
  | t :: rs, k, ht, m, hm => by
    have ht' : ∀ t ∈ rs, TkOk t := fun t h => ht t (List.mem_cons_of_mem _ h)
    obtain ⟨a1, a2, a3, a4⟩ := came_facts rs (k + 1) ht' hm
    obtain ⟨b1, b2, b3, b4⟩ := up_facts (ht t List.mem_cons_self) (m := cameG rs m) (by omega)
    refine ⟨?_, ?_, ?_, ?_⟩
    · show leftG rs (lfG t (upG t (cameG rs m))) = m
      rw [b1, a1]
    · show leftG rs (lfG t (upG t (cameG rs m) - 1)) = m - 1
      rw [b2, a2]
    · obtain ⟨e, c⟩ := t
      show (if (upG (e, c) (cameG rs m) + c) % e = 0 then some k else whoG (k + 1) rs (lfG (e, c) (upG (e, c) (cameG rs m)))) = none
      rw [if_neg b3, b1, a3]
    · show m ≤ upG t (cameG rs m)
      omega
theorem came_left : ∀ (rs : List (Int × Int)) (k : Int) (ht : ∀ t ∈ rs, TkOk t) {p : Int}, whoG k rs p = none → cameG rs (leftG rs p) = p
  | [], _, _, p, _ => rfl
  | (e, c) :: rs, k, ht, p, h => by
    have h' : (if (p + c) % e = 0 then some k else whoG (k + 1) rs (lfG (e, c) p)) = none := h
    by_cases hz : (p + c) % e = 0
    · rw [if_pos hz] at h'
      cases h'
    · rw [if_neg hz] at h'
      show upG (e, c) (cameG rs (leftG rs (lfG (e, c) p))) = p
      rw [came_left rs (k + 1) (fun t h => ht t (List.mem_cons_of_mem _ h)) h']
      exact up_lf (ht (e, c) List.mem_cons_self) hz
theorem who_app : ∀ (pre : List (Int × Int)) (k : Int) (post : List (Int × Int)) {p : Int}, whoG k pre p = none → whoG k (pre ++ post) p = whoG (k + (pre.length : Nat)) post (leftG pre p)
  | [], k, post, p, _ => by
    show whoG k post p = whoG (k + ((0 : Nat) : Int)) post p
    rw [show k + ((0 : Nat) : Int) = k by omega]
  | (e, c) :: pre, k, post, p, h => by
    have h' : (if (p + c) % e = 0 then some k else whoG (k + 1) pre (lfG (e, c) p)) = none := h
    show (if (p + c) % e = 0 then some k else whoG (k + 1) (pre ++ post) (lfG (e, c) p)) = whoG (k + ((pre.length + 1 : Nat) : Int)) post (leftG pre (lfG (e, c) p))
    by_cases hz : (p + c) % e = 0
    · rw [if_pos hz] at h'
      cases h'
    · rw [if_neg hz] at h'
      rw [if_neg hz, who_app pre (k + 1) post h', show k + 1 + (pre.length : Nat) = k + ((pre.length + 1 : Nat) : Int) by omega]
theorem who_some : ∀ (rs : List (Int × Int)) (k : Int) {p : Int} {j : Int}, whoG k rs p = some j → ∃ (pre : List (Int × Int)) (t : Int × Int) (post : List (Int × Int)), rs = pre ++ t :: post ∧ j = k + (pre.length : Nat) ∧ whoG k pre p = none ∧ (leftG pre p + t.2) % t.1 = 0
  | [], k, p, j, h => by cases h
  | (e, c) :: rs, k, p, j, h => by
    have h' : (if (p + c) % e = 0 then some k else whoG (k + 1) rs (lfG (e, c) p)) = some j := h
    by_cases hz : (p + c) % e = 0
    · rw [if_pos hz] at h'
      cases h'
      exact ⟨[], (e, c), rs, rfl, by simp, rfl, hz⟩
    · rw [if_neg hz] at h'
      obtain ⟨pre, t, post, rfl, rfl, h1, h2⟩ := who_some rs (k + 1) h'
      refine ⟨(e, c) :: pre, t, post, rfl, ?_, ?_, h2⟩
      · rw [List.length_cons]
        omega
      · show (if (p + c) % e = 0 then some k else whoG (k + 1) pre (lfG (e, c) p)) = none
        rw [if_neg hz, h1]
/-! ### how many at a place -/
theorem counts_app : ∀ (pre : List (Int × Int)) (post : List (Int × Int)) (n : Int), (countsG (pre ++ post) n)[pre.length]? = (countsG post (leftG pre n))[0]?
  | [], post, n => rfl
  | (e, c) :: pre, post, n => by
    show (countsG (pre ++ post) (lfG (e, c) n))[pre.length]? = (countsG post (leftG pre (lfG (e, c) n)))[0]?
    rw [counts_app pre post _]
theorem counts_mid (pre : List (Int × Int)) (t : Int × Int) (post : List (Int × Int)) (n : Int) : (countsG (pre ++ t :: post) n)[pre.length]? = some ((leftG pre n + t.2) / t.1) := by
  rw [counts_app]
  rfl
theorem counts_end (rs : List (Int × Int)) (n : Int) : (countsG rs n)[rs.length]? = some (leftG rs n) := by
  have := counts_app rs [] n
  rw [List.append_nil] at this
  rw [this]
  rfl
/-- at which place -/
def atO (rs : List (Int × Int)) : Option Int → Int
  | none => (rs.length : Nat)
  | some j => j
/-- the piece that is somebody's so-manieth: who, how many, how many just ahead -/
theorem piece_facts {rs : List (Int × Int)} (ht : ∀ t ∈ rs, TkOk t) {o : Option Int} (ho : InRow rs o) {n : Int} (hn : 1 ≤ n) :
    1 ≤ pieceOfG rs o n ∧ whoG 0 rs (pieceOfG rs o n) = o ∧ atI (countsG rs (pieceOfG rs o n)) (atO rs o) = some n ∧ atI (countsG rs (pieceOfG rs o n - 1)) (atO rs o) = some (n - 1) := by
  cases o with
  | none =>
    obtain ⟨a1, a2, a3, a4⟩ := came_facts rs 0 ht hn
    show 1 ≤ cameG rs n ∧ whoG 0 rs (cameG rs n) = none ∧ atI (countsG rs (cameG rs n)) ((rs.length : Nat) : Int) = some n ∧ atI (countsG rs (cameG rs n - 1)) ((rs.length : Nat) : Int) = some (n - 1)
    exact ⟨by omega, a3, atI_nat (by rw [counts_end, a1]), atI_nat (by rw [counts_end, a2])⟩
  | some j =>
    obtain ⟨j0, j1⟩ := ho j rfl
    obtain ⟨k, rfl⟩ : ∃ k : Nat, j = (k : Int) := ⟨j.toNat, by omega⟩
    have hk : k < rs.length := by omega
    obtain ⟨t, et⟩ : ∃ t, rs[k]? = some t := ⟨_, List.getElem?_eq_getElem hk⟩
    obtain ⟨t1, t2, t3, t4⟩ := ht t (List.mem_of_getElem? et)
    have es : rs = rs.take k ++ t :: rs.drop (k + 1) := by
      conv => lhs; rw [← List.take_append_drop k rs]
      congr 1
      rw [List.drop_eq_getElem_cons hk]
      congr 1
      rw [List.getElem?_eq_getElem hk] at et
      exact Option.some.inj et
    have hl : (rs.take k).length = k := by rw [List.length_take]; omega
    rw [pieceOfG_some et]
    have hm : 1 ≤ n * t.1 - t.2 := by
      have : 1 * t.1 ≤ n * t.1 := Int.mul_le_mul_of_nonneg_right hn (by omega)
      omega
    obtain ⟨a1, a2, a3, a4⟩ := came_facts (rs.take k) 0 (take_ok ht k) hm
    generalize hp : cameG (rs.take k) (n * t.1 - t.2) = p at *
    have at_ : ∀ q : Int, atI (countsG rs q) (atO rs (some (k : Int))) = some ((leftG (rs.take k) q + t.2) / t.1) := fun q => by
      refine atI_nat (j := k) ?_
      have := counts_mid (rs.take k) t (rs.drop (k + 1)) q
      rw [← es, hl] at this
      exact this
    refine ⟨by omega, ?_, ?_, ?_⟩
    · have := who_app (rs.take k) 0 (t :: rs.drop (k + 1)) a3
      rw [← es, a1, hl] at this
      rw [this]
      obtain ⟨e, c⟩ := t
      show (if (n * e - c + c) % e = 0 then some (0 + (k : Int)) else _) = some (k : Int)
      rw [if_pos (by rw [Int.sub_add_cancel, Int.mul_emod_left]), Int.zero_add]
    · rw [at_, a1, Int.sub_add_cancel, Int.mul_ediv_cancel _ (by omega)]
    · rw [at_, a2]
      have := (ediv_of (x := n * t.1 - t.2 - 1 + t.2) (e := t.1) (q := n - 1) (s := t.1 - 1) (by omega) (by rw [Int.mul_comm n, Int.mul_sub]; omega) (by omega) (by omega)).1
      rw [this]
theorem piece_lt {rs : List (Int × Int)} (ht : ∀ t ∈ rs, TkOk t) {o : Option Int} (ho : InRow rs o) {n : Int} : pieceOfG rs o n < pieceOfG rs o (n + 1) := by
  cases o with
  | none => exact came_lt ht (by omega)
  | some j =>
    obtain ⟨j0, j1⟩ := ho j rfl
    obtain ⟨k, rfl⟩ : ∃ k : Nat, j = (k : Int) := ⟨j.toNat, by omega⟩
    obtain ⟨t, et⟩ : ∃ t, rs[k]? = some t := ⟨_, List.getElem?_eq_getElem (by omega)⟩
    obtain ⟨t1, t2, t3, t4⟩ := ht t (List.mem_of_getElem? et)
    rw [pieceOfG_some et, pieceOfG_some et]
    refine came_lt (take_ok ht k) ?_
    rw [Int.add_mul, Int.one_mul]
    omega
theorem who_in {rs : List (Int × Int)} {p : Int} : InRow rs (whoG 0 rs p) := fun j h => by
  have := whoG_ge rs 0 p j h
  omega
/-- and there is no other piece -/
theorem piece_back {rs : List (Int × Int)} (ht : ∀ t ∈ rs, TkOk t) {p n : Int} (h : atI (countsG rs p) (atO rs (whoG 0 rs p)) = some n) : pieceOfG rs (whoG 0 rs p) n = p := by
  cases hw : whoG 0 rs p with
  | none =>
    rw [hw] at h
    have h' : atI (countsG rs p) ((rs.length : Nat) : Int) = some n := h
    rw [atI_nat (counts_end rs p)] at h'
    cases h'
    exact came_left rs 0 ht hw
  | some j =>
    rw [hw] at h
    obtain ⟨pre, t, post, rfl, rfl, h1, h2⟩ := who_some rs 0 hw
    have h' : atI (countsG (pre ++ t :: post) p) (0 + (pre.length : Nat)) = some n := h
    rw [Int.zero_add] at h' ⊢
    rw [atI_nat (counts_mid pre t post p)] at h'
    cases h'
    have et : (pre ++ t :: post)[pre.length]? = some t := by simp
    have ht' : ∀ t ∈ pre, TkOk t := fun u hu => ht u (List.mem_append_left _ hu)
    have hm := Int.mul_ediv_add_emod (leftG pre p + t.2) t.1
    rw [h2] at hm
    rw [pieceOfG_some et, List.take_left, Int.mul_comm, show t.1 * ((leftG pre p + t.2) / t.1) - t.2 = leftG pre p by omega]
    exact came_left pre 0 ht' h1
/-! ### sums, and none below nought -/
theorem counts_sum : ∀ (rs : List (Int × Int)) (n : Int), (countsG rs n).sum = n
  | [], n => by simp [countsG]
  | (e, c) :: rs, n => by
    show ((n + c) / e :: countsG rs (n - (n + c) / e)).sum = n
    rw [List.sum_cons, counts_sum rs]
    omega
theorem lf_nonneg {t : Int × Int} (h : TkOk t) {n : Int} (hn : 0 ≤ n) : 0 ≤ (n + t.2) / t.1 ∧ 0 ≤ lfG t n := by
  obtain ⟨e, c⟩ := t
  obtain ⟨t1, t2, t3, t4⟩ := h
  dsimp only at t1 t2 t3 t4
  unfold lfG
  dsimp only
  have h1 := Int.mul_ediv_add_emod (n + c) e
  have r0 := Int.emod_nonneg (n + c) (by omega : e ≠ 0)
  have q0 : 0 ≤ (n + c) / e := Int.ediv_nonneg (by omega) (by omega)
  generalize (n + c) / e = q at *
  refine ⟨q0, ?_⟩
  rcases Int.lt_or_eq_of_le q0 with hq | hq
  · have : e * 1 ≤ e * q := Int.mul_le_mul_of_nonneg_left hq (by omega)
    have e1 : (e - 1) * q = e * q - q := by rw [Int.sub_mul, Int.one_mul]
    have e2 : (e - 1) * 1 ≤ (e - 1) * q := Int.mul_le_mul_of_nonneg_left hq (by omega)
    omega
  · omega
theorem counts_nonneg : ∀ (rs : List (Int × Int)) (ht : ∀ t ∈ rs, TkOk t) {n : Int}, 0 ≤ n → ∀ y ∈ countsG rs n, 0 ≤ y
  | [], _, n, hn, y, hy => by
    have : y = n := by simpa [countsG] using hy
    omega
  | (e, c) :: rs, ht, n, hn, y, hy => by
    obtain ⟨h1, h2⟩ := lf_nonneg (ht (e, c) List.mem_cons_self) hn
    rcases List.mem_cons.mp (show y ∈ (n + c) / e :: countsG rs (lfG (e, c) n) from hy) with rfl | hy
    · exact h1
    · exact counts_nonneg rs (fun t h => ht t (List.mem_cons_of_mem _ h)) h2 y hy
def bumpG (a : Int) : Int → List Int → List Int
  | _, [] => []
  | k, x :: xs => (x + (if k = a then 1 else 0)) :: bumpG a (k + 1) xs
theorem bump_id (a : Int) : ∀ (l : List Int) (k : Int), a < k → bumpG a k l = l
  | [], _, _ => rfl
  | x :: xs, k, h => by
    show (x + (if k = a then 1 else 0)) :: bumpG a (k + 1) xs = _
    rw [bump_id a xs (k + 1) (by omega), if_neg (by omega), Int.add_zero]
theorem addO_bump : ∀ (l : List Int) (k : Int) (o : Option Int), (∀ j, o = some j → j < k + (l.length : Nat) - 1) → addO k l o = bumpG (match o with | none => k + (l.length : Nat) - 1 | some j => j) k l
  | [], _, _, _ => rfl
  | [x], k, none, h => by
    show [x + 1] = [x + (if k = k + ((1 : Nat) : Int) - 1 then 1 else 0)]
    rw [if_pos (by omega)]
  | [x], k, some j, h => by
    have := h j rfl
    show [x] = [x + (if k = j then 1 else 0)]
    have hl : (([x] : List Int).length : Int) = 1 := rfl
    rw [if_neg (by omega), Int.add_zero]
  | x :: y :: r, k, o, h => by
    have hl : ((x :: y :: r : List Int).length : Int) = ((y :: r : List Int).length : Int) + 1 := by simp
    have ih := addO_bump (y :: r) (k + 1) o (fun j hj => by have := h j hj; omega)
    cases o with
    | none =>
      show x :: addO (k + 1) (y :: r) none = (x + (if k = k + ((x :: y :: r : List Int).length : Nat) - 1 then 1 else 0)) :: bumpG _ (k + 1) (y :: r)
      have hp : ((y :: r : List Int).length : Int) = (r.length : Int) + 1 := by simp
      rw [ih, if_neg (by omega), Int.add_zero]
      show x :: bumpG (k + 1 + ((y :: r : List Int).length : Nat) - 1) (k + 1) (y :: r) = x :: bumpG (k + ((x :: y :: r : List Int).length : Nat) - 1) (k + 1) (y :: r)
      rw [show k + 1 + ((y :: r : List Int).length : Nat) - 1 = k + ((x :: y :: r : List Int).length : Nat) - 1 by omega]
    | some j =>
      show (if some j = some k then x + 1 else x) :: addO (k + 1) (y :: r) (some j) = (x + (if k = j then 1 else 0)) :: bumpG j (k + 1) (y :: r)
      rw [ih]
      by_cases hj : j = k
      · subst hj
        rw [if_pos rfl, if_pos rfl]
      · rw [if_neg (by intro z; cases z; exact hj rfl), if_neg (fun z => hj z.symm), Int.add_zero]
theorem counts_bump {rs : List (Int × Int)} (ht : ∀ t ∈ rs, TkOk t) (n : Int) : countsG rs n = bumpG (atO rs (whoG 0 rs n)) 0 (countsG rs (n - 1)) := by
  have h := counts_succ rs 0 (n - 1) ht
  rw [Int.sub_add_cancel] at h
  rw [h, addO_bump _ _ _ fun j hj => by
    have := (whoG_ge rs 0 _ j hj).2
    rw [countsG_len]
    omega]
  cases whoG 0 rs n with
  | none =>
    show bumpG (0 + ((countsG rs (n - 1)).length : Nat) - 1) 0 _ = bumpG ((rs.length : Nat) : Int) 0 _
    rw [countsG_len, show (0 : Int) + ((rs.length + 1 : Nat) : Int) - 1 = ((rs.length : Nat) : Int) by omega]
  | some j => rfl
theorem bump_at : ∀ (l : List Int) (a k : Int), k ≤ a → ∀ x, l[(a - k).toNat]? = some x → (bumpG a k l)[(a - k).toNat]? = some (x + 1)
  | [], a, k, _, x, h => by simp at h
  | y :: l, a, k, hk, x, h => by
    by_cases ha : k = a
    · subst ha
      rw [Int.sub_self] at h ⊢
      have : y = x := by simpa using h
      subst this
      show some (y + (if k = k then 1 else 0)) = some (y + 1)
      rw [if_pos rfl]
    · have e1 : (a - k).toNat = (a - (k + 1)).toNat + 1 := by omega
      rw [e1] at h ⊢
      show (bumpG a (k + 1) l)[(a - (k + 1)).toNat]? = some (x + 1)
      exact bump_at l a (k + 1) (by omega) x (by simpa using h)
theorem piece_there {rs : List (Int × Int)} (ht : ∀ t ∈ rs, TkOk t) {n : Int} (hn : 1 ≤ n) : ∃ m : Int, 1 ≤ m ∧ atI (countsG rs n) (atO rs (whoG 0 rs n)) = some m := by
  have ha : 0 ≤ atO rs (whoG 0 rs n) ∧ atO rs (whoG 0 rs n) ≤ (rs.length : Nat) := by
    cases h : whoG 0 rs n with
    | none => exact ⟨by show (0 : Int) ≤ ((rs.length : Nat) : Int); omega, Int.le_refl _⟩
    | some j =>
      have := whoG_ge rs 0 n j h
      show 0 ≤ j ∧ j ≤ ((rs.length : Nat) : Int)
      omega
  have hl : (atO rs (whoG 0 rs n)).toNat < (countsG rs (n - 1)).length := by
    rw [countsG_len]
    omega
  have h0 := counts_nonneg rs ht (show 0 ≤ n - 1 by omega) _ (List.getElem_mem hl)
  have hb := bump_at (countsG rs (n - 1)) (atO rs (whoG 0 rs n)) 0 ha.1 _ (by rw [Int.sub_zero]; exact List.getElem?_eq_getElem hl)
  rw [← counts_bump ht, Int.sub_zero] at hb
  refine ⟨_, ?_, by
    have := atI_nat hb
    rw [show (((atO rs (whoG 0 rs n)).toNat : Nat) : Int) = atO rs (whoG 0 rs n) by omega] at this
    exact this⟩
  omega
end Pd

set_option maxRecDepth 100000
set_option maxHeartbeats 4000000
/-! Plain mathematics: where two rows part. -/
namespace Pd
open PySem L2
def tkB (t : Int × Int) (q : Int) : Prop := (q + t.2) % t.1 = 0
def fuG (x y : Int × Int) : Option Int := if x.1 - x.2 ≠ y.1 - y.2 then some (min (x.1 - x.2) (y.1 - y.2)) else if x = y then none else some (x.1 - x.2 + min x.1 y.1)
theorem emod_ne {x e q s : Int} (he : 0 < e) (h : x = e * q + s) (h0 : 0 < s) (h1 : s < e) : x % e ≠ 0 := by
  rw [(ediv_of he h (by omega) h1).2]
  omega
theorem emod_z {x e q : Int} (h : x = e * q) : x % e = 0 := by
  rw [h, Int.mul_emod_right]
/-- not taken ahead of the first -/
theorem tk_no {t : Int × Int} (h : TkOk t) {q : Int} (q1 : 1 ≤ q) (q2 : q < t.1 - t.2) : ¬ tkB t q := by
  obtain ⟨h1, h2, h3, h4⟩ := h
  exact emod_ne (q := 0) (s := q + t.2) (by omega) (by omega) (by omega) (by omega)
theorem tk_first {t : Int × Int} : tkB t (t.1 - t.2) := emod_z (q := 1) (by omega)
theorem tk_between {t : Int × Int} (h : TkOk t) {q : Int} (q1 : t.1 - t.2 < q) (q2 : q < t.1 - t.2 + t.1) : ¬ tkB t q := by
  obtain ⟨h1, h2, h3, h4⟩ := h
  exact emod_ne (q := 1) (s := q + t.2 - t.1) (by omega) (by omega) (by omega) (by omega)
theorem tk_second {t : Int × Int} : tkB t (t.1 - t.2 + t.1) := emod_z (q := 2) (by omega)
theorem fu_none {x y : Int × Int} (h : fuG x y = none) : x = y := by
  unfold fuG at h
  split at h
  · cases h
  · split at h
    · assumption
    · cases h
theorem fu_some {x y : Int × Int} (hx : TkOk x) (hy : TkOk y) {a : Int} (h : fuG x y = some a) : 1 ≤ a ∧ (∀ q, 1 ≤ q → q < a → (tkB x q ↔ tkB y q)) ∧ ¬ (tkB x a ↔ tkB y a) := by
  have hx' := hx
  have hy' := hy
  obtain ⟨x1, x2, x3, x4⟩ := hx'
  obtain ⟨y1, y2, y3, y4⟩ := hy'
  unfold fuG at h
  split at h
  · rename_i hne
    have h := Option.some.inj h
    refine ⟨by omega, fun q q1 q2 => ⟨fun z => absurd z (tk_no hx q1 (by omega)), fun z => absurd z (tk_no hy q1 (by omega))⟩, fun hh => ?_⟩
    rcases Int.lt_or_lt_of_ne hne with hl | hl
    · have ea : a = x.1 - x.2 := by omega
      subst ea
      exact tk_no hy (by omega) hl (hh.mp tk_first)
    · have ea : a = y.1 - y.2 := by omega
      subst ea
      exact tk_no hx (by omega) hl (hh.mpr tk_first)
  · rename_i he
    have he : x.1 - x.2 = y.1 - y.2 := by omega
    split at h
    · cases h
    · rename_i hxy
      have h := Option.some.inj h
      have hne : x.1 ≠ y.1 := fun z => hxy (by
        obtain ⟨e, c⟩ := x
        obtain ⟨e', c'⟩ := y
        dsimp only at he z
        rw [show c = c' by omega, z])
      refine ⟨by omega, fun q q1 q2 => ?_, fun hh => ?_⟩
      · rcases Int.lt_trichotomy q (x.1 - x.2) with hq | hq | hq
        · exact ⟨fun z => absurd z (tk_no hx q1 hq), fun z => absurd z (tk_no hy q1 (by omega))⟩
        · subst hq
          exact ⟨fun _ => by rw [he]; exact tk_first, fun _ => tk_first⟩
        · exact ⟨fun z => absurd z (tk_between hx hq (by omega)), fun z => absurd z (tk_between hy (by omega) (by omega))⟩
      · rcases Int.lt_or_lt_of_ne hne with hl | hl
        · have ea : a = x.1 - x.2 + x.1 := by omega
          subst ea
          exact tk_between hy (by omega) (by omega) (hh.mp tk_second)
        · have ea : a = y.1 - y.2 + y.1 := by omega
          subst ea
          exact tk_between hx (by omega) (by omega) (hh.mpr tk_second)
/-- alike so far: as many let by -/
theorem lf_alike {x y : Int × Int} (hx : TkOk x) (hy : TkOk y) : ∀ (n : Nat), (∀ q : Int, 1 ≤ q → q ≤ (n : Nat) → (tkB x q ↔ tkB y q)) → ((n : Int) + x.2) / x.1 = ((n : Int) + y.2) / y.1
  | 0, _ => by
    obtain ⟨x1, x2, x3, x4⟩ := hx
    obtain ⟨y1, y2, y3, y4⟩ := hy
    rw [show ((0 : Nat) : Int) = 0 from rfl, Int.zero_add, Int.zero_add, Int.ediv_eq_zero_of_lt x3 x4, Int.ediv_eq_zero_of_lt y3 y4]
  | n + 1, h => by
    have ih := lf_alike hx hy n fun q q1 q2 => h q q1 (by omega)
    obtain ⟨x1, x2, x3, x4⟩ := hx
    obtain ⟨y1, y2, y3, y4⟩ := hy
    have hn := h ((n + 1 : Nat) : Int) (by omega) (Int.le_refl _)
    unfold tkB at hn
    have e1 : ∀ c : Int, ((n + 1 : Nat) : Int) + c = ((n : Int) + c) + 1 := fun c => by omega
    rw [e1, e1] at hn
    rw [e1, e1]
    by_cases hz : ((n : Int) + x.2 + 1) % x.1 = 0
    · rw [ediv_succ_z (by omega) hz, ediv_succ_z (by omega) (hn.mp hz), ih]
    · rw [ediv_succ_n (by omega) hz, ediv_succ_n (by omega) (fun z => hz (hn.mpr z)), ih]
theorem lf_alike' {x y : Int × Int} (hx : TkOk x) (hy : TkOk y) {p : Int} (hp : 0 ≤ p) (h : ∀ q : Int, 1 ≤ q → q ≤ p → (tkB x q ↔ tkB y q)) : lfG x p = lfG y p := by
  obtain ⟨n, rfl⟩ : ∃ n : Nat, p = (n : Int) := ⟨p.toNat, by omega⟩
  unfold lfG
  rw [lf_alike hx hy n h]
theorem lf_mono {t : Int × Int} (h : TkOk t) {a b : Int} (hab : a ≤ b) : lfG t a ≤ lfG t b := by
  obtain ⟨e, c⟩ := t
  obtain ⟨t1, t2, t3, t4⟩ := h
  dsimp only at t1 t2 t3 t4
  unfold lfG
  dsimp only
  have h1 := Int.mul_ediv_add_emod (a + c) e
  have r1 := Int.emod_lt_of_pos (a + c) (by omega : 0 < e)
  have : (b + c) / e < (a + c) / e + (b - a) + 1 := by
    refine Int.ediv_lt_of_lt_mul (by omega) ?_
    generalize (a + c) / e = q at *
    have e1 : (q + (b - a) + 1) * e = e * q + (b - a) * e + e := by rw [Int.add_mul, Int.add_mul, Int.one_mul, Int.mul_comm q]
    have e2 : (b - a) * 1 ≤ (b - a) * e := Int.mul_le_mul_of_nonneg_left (by omega) (by omega)
    omega
  omega
theorem lf_pos {t : Int × Int} (h : TkOk t) {q : Int} (q1 : 1 ≤ q) (hq : ¬ tkB t q) : 1 ≤ lfG t q := by
  have h0 := (lf_nonneg h (show 0 ≤ q - 1 by omega)).2
  obtain ⟨t1, t2, t3, t4⟩ := h
  unfold lfG at h0 ⊢
  have e1 : q + t.2 = (q - 1 + t.2) + 1 := by omega
  unfold tkB at hq
  rw [e1] at hq ⊢
  rw [ediv_succ_n (by omega) hq]
  omega
theorem who_cons {t : Int × Int} {rs : List (Int × Int)} {k p : Int} : whoG k (t :: rs) p = if (p + t.2) % t.1 = 0 then some k else whoG (k + 1) rs (lfG t p) := by
  obtain ⟨e, c⟩ := t
  rfl
/-- two rows part first at a piece; None: they are the same -/
def FirstD (xs ys : List (Int × Int)) : Option Int → Prop
  | none => xs = ys
  | some p => 1 ≤ p ∧ (∀ q, 1 ≤ q → q < p → ∀ k, whoG k xs q = whoG k ys q) ∧ ∀ k, whoG k xs p ≠ whoG k ys p
def foundF : List (Int × Int) → List (Int × Int) → List Int
  | x :: xs, y :: ys => (fuG x y).toList ++ (foundF xs ys).map (upG x)
  | _, _ => []
theorem exMin : ∀ (l : List Int), l ≠ [] → ∃ m ∈ l, ∀ y ∈ l, m ≤ y
  | [], h => absurd rfl h
  | [x], _ => ⟨x, List.mem_cons_self, fun y hy => by
    have : y = x := by simpa using hy
    omega⟩
  | x :: y :: r, _ => by
    obtain ⟨m, hm, hl⟩ := exMin (y :: r) (by simp)
    by_cases h : x ≤ m
    · refine ⟨x, List.mem_cons_self, fun z hz => ?_⟩
      rcases List.mem_cons.mp hz with rfl | hz
      · exact Int.le_refl _
      · have := hl z hz
        omega
    · refine ⟨m, List.mem_cons_of_mem _ hm, fun z hz => ?_⟩
      rcases List.mem_cons.mp hz with rfl | hz
      · omega
      · exact hl z hz
theorem parts_at : ∀ (xs ys : List (Int × Int)), xs.length = ys.length → (∀ t ∈ xs, TkOk t) → (∀ t ∈ ys, TkOk t) → (foundF xs ys = [] → xs = ys) ∧ ∀ m ∈ foundF xs ys, (∀ y ∈ foundF xs ys, m ≤ y) → FirstD xs ys (some m)
  | [], [], _, _, _ => ⟨fun _ => rfl, fun m hm => by simp [foundF] at hm⟩
  | [], _ :: _, h, _, _ => by simp at h
  | _ :: _, [], h, _, _ => by simp at h
  | x :: xs, y :: ys, hl, hxs, hys => by
    have hx := hxs x List.mem_cons_self
    have hy := hys y List.mem_cons_self
    obtain ⟨i1, i2⟩ := parts_at xs ys (by simpa using hl) (fun t h => hxs t (List.mem_cons_of_mem _ h)) (fun t h => hys t (List.mem_cons_of_mem _ h))
    have hf : foundF (x :: xs) (y :: ys) = (fuG x y).toList ++ (foundF xs ys).map (upG x) := rfl
    refine ⟨fun h => ?_, fun m hm hmin => ?_⟩
    · rw [hf, List.append_eq_nil_iff, List.map_eq_nil_iff] at h
      have h1 : fuG x y = none := by
        cases e : fuG x y with
        | none => rfl
        | some a =>
          rw [e] at h
          simp at h
      rw [fu_none h1, i1 h.2]
    · rw [hf] at hm hmin
      -- the takers are alike ahead of m
      have alike : ∀ q, 1 ≤ q → q < m → (tkB x q ↔ tkB y q) := fun q q1 q2 => by
        cases e : fuG x y with
        | none => rw [fu_none e]
        | some a =>
          have ha : m ≤ a := hmin a (by rw [e]; simp)
          exact (fu_some hx hy e).2.1 q q1 (by omega)
      -- the tails are alike ahead of m
      have tails : ∀ q, 1 ≤ q → q < m → ¬ tkB x q → ∀ k, whoG k xs (lfG x q) = whoG k ys (lfG x q) := fun q q1 q2 hq k => by
        by_cases hL : foundF xs ys = []
        · rw [i1 hL]
        · obtain ⟨r, hr, hrm⟩ := exMin _ hL
          obtain ⟨r1, r2, r3⟩ := i2 r hr hrm
          have hup : m ≤ upG x r := hmin _ (List.mem_append_right _ (List.mem_map_of_mem hr))
          have h1 := lf_mono hx (show q ≤ upG x r - 1 by omega)
          rw [(up_facts hx r1).2.1] at h1
          exact r2 _ (lf_pos hx q1 hq) (by omega) k
      have m1 : 1 ≤ m := by
        rcases List.mem_append.mp hm with h | h
        · cases e : fuG x y with
          | none =>
            rw [e] at h
            simp at h
          | some a =>
            rw [e] at h
            have : m = a := by simpa using h
            rw [this]
            exact (fu_some hx hy e).1
        · obtain ⟨r, hr, rfl⟩ := List.mem_map.mp h
          obtain ⟨r0, hr0, hrm⟩ := exMin _ (List.ne_nil_of_mem hr)
          have h1 := (i2 r0 hr0 hrm).1
          have h2 := hrm r hr
          have := (up_facts hx (show 1 ≤ r by omega)).2.2.2
          omega
      refine ⟨m1, fun q q1 q2 k => ?_, fun k => ?_⟩
      · rw [who_cons, who_cons]
        have ha := alike q q1 q2
        unfold tkB at ha
        by_cases hz : (q + x.2) % x.1 = 0
        · rw [if_pos hz, if_pos (ha.mp hz)]
        · rw [if_neg hz, if_neg (fun z => hz (ha.mpr z)), ← lf_alike' hx hy (show 0 ≤ q by omega) fun q' a b => alike q' a (by omega)]
          exact tails q q1 q2 hz (k + 1)
      · have differ : ∀ a, fuG x y = some a → m = a → whoG k (x :: xs) m ≠ whoG k (y :: ys) m := fun a e em => by
          subst em
          have h3 := (fu_some hx hy e).2.2
          rw [who_cons, who_cons]
          unfold tkB at h3
          by_cases hz : (m + x.2) % x.1 = 0
          · have hz' : ¬ (m + y.2) % y.1 = 0 := fun z => h3 ⟨fun _ => z, fun _ => hz⟩
            rw [if_pos hz, if_neg hz']
            intro z
            have := (whoG_ge ys (k + 1) _ k z.symm).1
            omega
          · have hz' : (m + y.2) % y.1 = 0 := Decidable.byContradiction fun z => h3 ⟨fun w => absurd w hz, fun w => absurd w z⟩
            rw [if_neg hz, if_pos hz']
            intro z
            have := (whoG_ge xs (k + 1) _ k z).1
            omega
        rcases List.mem_append.mp hm with h | h
        · cases e : fuG x y with
          | none =>
            rw [e] at h
            simp at h
          | some a =>
            rw [e] at h
            exact differ a e (by simpa using h)
        · obtain ⟨r, hr, rfl⟩ := List.mem_map.mp h
          have hrm : ∀ s ∈ foundF xs ys, r ≤ s := fun s hs => by
            have h1 := hmin _ (List.mem_append_right _ (List.mem_map_of_mem hs))
            rcases Int.lt_or_le s r with z | z
            · have := up_lt hx z
              omega
            · exact z
          obtain ⟨r1, r2, r3⟩ := i2 r hr hrm
          obtain ⟨u1, u2, u3, u4⟩ := up_facts hx r1
          by_cases hd : ∃ a, fuG x y = some a ∧ upG x r = a
          · obtain ⟨a, e, ea⟩ := hd
            exact differ a e ea
          · have al : ∀ q, 1 ≤ q → q ≤ upG x r → (tkB x q ↔ tkB y q) := fun q q1 q2 => by
              cases e : fuG x y with
              | none => rw [fu_none e]
              | some a =>
                have ha : upG x r ≤ a := hmin a (by rw [e]; simp)
                have : upG x r ≠ a := fun z => hd ⟨a, e, z⟩
                exact (fu_some hx hy e).2.1 q q1 (by omega)
            have hz' : ¬ (upG x r + y.2) % y.1 = 0 := fun z => u3 ((al _ m1 (Int.le_refl _)).mpr z)
            rw [who_cons, who_cons, if_neg u3, if_neg hz', ← lf_alike' hx hy (show 0 ≤ upG x r by omega) al, u1]
            exact r3 (k + 1)
/-- numbers are alike where all was alike -/
theorem counts_alike {xs ys : List (Int × Int)} (hl : xs.length = ys.length) (hx : ∀ t ∈ xs, TkOk t) (hy : ∀ t ∈ ys, TkOk t) : ∀ n : Nat, (∀ q : Int, 1 ≤ q → q ≤ (n : Nat) → whoG 0 xs q = whoG 0 ys q) → countsG xs (n : Nat) = countsG ys (n : Nat)
  | 0, _ => by
    rw [show ((0 : Nat) : Int) = 0 from rfl, counts_zero xs hx, counts_zero ys hy, hl]
  | n + 1, h => by
    have ih := counts_alike hl hx hy n fun q q1 q2 => h q q1 (by omega)
    rw [show ((n + 1 : Nat) : Int) = (n : Int) + 1 by omega, counts_succ xs 0 n hx, counts_succ ys 0 n hy, ih, h ((n : Int) + 1) (by omega) (by omega)]
theorem first_counts {xs ys : List (Int × Int)} (hl : xs.length = ys.length) (hx : ∀ t ∈ xs, TkOk t) (hy : ∀ t ∈ ys, TkOk t) {p : Int} (h : FirstD xs ys (some p)) : countsG xs (p - 1) = countsG ys (p - 1) := by
  obtain ⟨p1, p2, p3⟩ := h
  obtain ⟨n, hn⟩ : ∃ n : Nat, p - 1 = (n : Int) := ⟨(p - 1).toNat, by omega⟩
  rw [hn]
  exact counts_alike hl hx hy n fun q q1 q2 => p2 q q1 (by omega) 0
theorem firstD_none {xs ys : List (Int × Int)} {o : Option Int} (h : FirstD xs ys o) : o = none ↔ xs = ys := by
  cases o with
  | none => exact ⟨fun _ => h, fun _ => rfl⟩
  | some p =>
    refine ⟨fun z => (by cases z), fun z => ?_⟩
    subst z
    exact absurd rfl (h.2.2 0)
end Pd

set_option maxRecDepth 100000
set_option maxHeartbeats 4000000
/-! first_unlike, parted; a row bent -/
namespace Pd
open PySem L2
def sp_first_unlike : DSp
  | [.dat d, .dat d'], R => ∃ x, d = tkD x ∧ ∃ y, d' = tkD y ∧ R (.dat (optD (fuG x y)))
  | _, _ => False
/-- first_unlike: 0 one, 1 other, 2 first, 3 second -/
abbrev b_first_unlike : DS := (dSeq (dPar 2 3 (nCons (d2 subD (d2 ixD (dVar 0) (dC (.int 0))) (d2 ixD (dVar 0) (dC (.int 1)))) (nCons (d2 subD (d2 ixD (dVar 1) (dC (.int 0))) (d2 ixD (dVar 1) (dC (.int 1)))) nNil)))
  (dSeq (dIfS (dTest (d2 neD (dVar 2) (dVar 3))) (dRet (dCB min2D (nCons (dVar 2) (nCons (dVar 3) nNil)))) dNext)
  (dRet (dIf (dTest (d2 eqD (dVar 0) (dVar 1))) (dC .none) (d2 addD (dVar 2) (dCB min2D (nCons (d2 ixD (dVar 0) (dC (.int 0))) (nCons (d2 ixD (dVar 1) (dC (.int 0))) nNil))))))))
theorem rd_first_unlike (svs : List SV) (R : RVd → Prop) (h : sp_first_unlike svs R) : b_first_unlike { nx := fun _ => R (.dat .none), rt := R } (startd 4 svs) := by
  unfold sp_first_unlike at h
  split at h
  · obtain ⟨x, rfl, y, rfl, h⟩ := h
    simp only [b_first_unlike, shp_tk, eqv_tk, dSeq, dAsgG, dAsgN, dRet, dRetN, dRetO, dRet0, dDrop, dIfS, dNext, dApp, dInsert, q_setI, q_setQ, q_take, dFor, dFreeze, dNever, q_par, q_parQ, q_par3, q_parQ3, dParNE, dParDE, gdName, q_gnil, q_gcons, q_gtup, dVar, dOwn, dC, d1, d2, n2, nCons, nNil, nLst, dTup, dFr, dTest, dAnd, dOr, dNot, dAndV, dOrV, dNotV, dIf, dChain, dCB, nCB, dCall, nCall, aDat, aBag, aNil, q_neg, q_add, q_addl, q_addt, q_sub, q_mul, q_mull, q_mult, q_fdiv, q_mod, q_pow, q_lt, q_le, q_gt, q_ge, eqD, neD, isD, isntD, q_isnn, q_isni, q_isnb, q_isnt, q_isnl, q_lenl, q_lent, q_inti, q_intb, q_max2, q_min2, q_listl, q_listt, q_tuplel, q_tuplet, q_sum, q_min, q_max, allD, itSeq, itR1, q_itR2, q_rng2, q_en, q_en1, q_zip, q_zipQ, q_seqr, q_lenr, q_ixr, q_seql, q_seqt, q_rvd, q_rvn, q_catn, q_ixl, q_ixt, q_sl, q_sll, q_slt, q_slr, nSlL, oNone, oSome, nLc, wipeD, q_dropc, q_dropxd, q_dropxb, q_dropxo, q_dropxn, q_drope, dYes, dCnt, q_revl, q_revt, q_revr, nListRg, dTupRg, exInts, exOpt, q_addr1, q_addrr, q_ixk0, q_ixk1, exRow, exTk, cntL, cntQ_some, cntQ_none, List.getElem?_cons_zero, List.getElem?_cons_succ, List.getElem?_nil, Option.some.injEq, SV.dat.injEq, SV.own.injEq, PyData.int.injEq, PyData.bool.injEq, PyData.tuple.injEq, PyData.list.injEq, PyData.str.injEq, RVd.new.injEq, RVd.dat.injEq, exists_eq_left, exists_eq_left', exists_eq_right, List.cons.injEq, List.set_cons_zero, List.set_cons_succ, reduceCtorEq, and_true, true_and, false_and, and_false, not_true_eq_false, not_false_eq_true, if_true, if_false, ite_true, ite_false, decide_eq_true_eq, Bool.not_eq_true', decide_eq_false_iff_not, Bool.and_true, Bool.true_and, Bool.and_false, Bool.false_and, Bool.not_true, Bool.not_false, Bool.false_eq_true, List.map_cons, List.map_nil, List.length_cons, List.length_nil, Nat.zero_add, Nat.reduceAdd, Nat.reduceLeDiff, startd, List.replicate_succ, List.replicate_zero, List.nil_append, List.cons_append, Nat.reduceSub, exists_const, and_self, shp_int, shp_none, shp_bool, eqv_int, dForL_nil, lcL_nil]
    unfold fuG at h
    by_cases h1 : x.1 - x.2 = y.1 - y.2
    · rw [if_neg (fun z => z h1)] at h
      simp only [h1, decide_true, dSeq, dAsgG, dAsgN, dRet, dRetN, dRetO, dRet0, dDrop, dIfS, dNext, dApp, dInsert, q_setI, q_setQ, q_take, dFor, dFreeze, dNever, q_par, q_parQ, q_par3, q_parQ3, dParNE, dParDE, gdName, q_gnil, q_gcons, q_gtup, dVar, dOwn, dC, d1, d2, n2, nCons, nNil, nLst, dTup, dFr, dTest, dAnd, dOr, dNot, dAndV, dOrV, dNotV, dIf, dChain, dCB, nCB, dCall, nCall, aDat, aBag, aNil, q_neg, q_add, q_addl, q_addt, q_sub, q_mul, q_mull, q_mult, q_fdiv, q_mod, q_pow, q_lt, q_le, q_gt, q_ge, eqD, neD, isD, isntD, q_isnn, q_isni, q_isnb, q_isnt, q_isnl, q_lenl, q_lent, q_inti, q_intb, q_max2, q_min2, q_listl, q_listt, q_tuplel, q_tuplet, q_sum, q_min, q_max, allD, itSeq, itR1, q_itR2, q_rng2, q_en, q_en1, q_zip, q_zipQ, q_seqr, q_lenr, q_ixr, q_seql, q_seqt, q_rvd, q_rvn, q_catn, q_ixl, q_ixt, q_sl, q_sll, q_slt, q_slr, nSlL, oNone, oSome, nLc, wipeD, q_dropc, q_dropxd, q_dropxb, q_dropxo, q_dropxn, q_drope, dYes, dCnt, q_revl, q_revt, q_revr, nListRg, dTupRg, exInts, exOpt, q_addr1, q_addrr, q_ixk0, q_ixk1, exRow, exTk, cntL, cntQ_some, cntQ_none, List.getElem?_cons_zero, List.getElem?_cons_succ, List.getElem?_nil, Option.some.injEq, SV.dat.injEq, SV.own.injEq, PyData.int.injEq, PyData.bool.injEq, PyData.tuple.injEq, PyData.list.injEq, PyData.str.injEq, RVd.new.injEq, RVd.dat.injEq, exists_eq_left, exists_eq_left', exists_eq_right, List.cons.injEq, List.set_cons_zero, List.set_cons_succ, reduceCtorEq, and_true, true_and, false_and, and_false, not_true_eq_false, not_false_eq_true, if_true, if_false, ite_true, ite_false, decide_eq_true_eq, Bool.not_eq_true', decide_eq_false_iff_not, Bool.and_true, Bool.true_and, Bool.and_false, Bool.false_and, Bool.not_true, Bool.not_false, Bool.false_eq_true, List.map_cons, List.map_nil, List.length_cons, List.length_nil, Nat.zero_add, Nat.reduceAdd, Nat.reduceLeDiff, startd, List.replicate_succ, List.replicate_zero, List.nil_append, List.cons_append, Nat.reduceSub, exists_const, and_self, shp_int, shp_none, shp_bool, eqv_int, dForL_nil, lcL_nil]
      by_cases h2 : x = y
      · rw [if_pos h2] at h
        simp only [h2, decide_true, dSeq, dAsgG, dAsgN, dRet, dRetN, dRetO, dRet0, dDrop, dIfS, dNext, dApp, dInsert, q_setI, q_setQ, q_take, dFor, dFreeze, dNever, q_par, q_parQ, q_par3, q_parQ3, dParNE, dParDE, gdName, q_gnil, q_gcons, q_gtup, dVar, dOwn, dC, d1, d2, n2, nCons, nNil, nLst, dTup, dFr, dTest, dAnd, dOr, dNot, dAndV, dOrV, dNotV, dIf, dChain, dCB, nCB, dCall, nCall, aDat, aBag, aNil, q_neg, q_add, q_addl, q_addt, q_sub, q_mul, q_mull, q_mult, q_fdiv, q_mod, q_pow, q_lt, q_le, q_gt, q_ge, eqD, neD, isD, isntD, q_isnn, q_isni, q_isnb, q_isnt, q_isnl, q_lenl, q_lent, q_inti, q_intb, q_max2, q_min2, q_listl, q_listt, q_tuplel, q_tuplet, q_sum, q_min, q_max, allD, itSeq, itR1, q_itR2, q_rng2, q_en, q_en1, q_zip, q_zipQ, q_seqr, q_lenr, q_ixr, q_seql, q_seqt, q_rvd, q_rvn, q_catn, q_ixl, q_ixt, q_sl, q_sll, q_slt, q_slr, nSlL, oNone, oSome, nLc, wipeD, q_dropc, q_dropxd, q_dropxb, q_dropxo, q_dropxn, q_drope, dYes, dCnt, q_revl, q_revt, q_revr, nListRg, dTupRg, exInts, exOpt, q_addr1, q_addrr, q_ixk0, q_ixk1, exRow, exTk, cntL, cntQ_some, cntQ_none, List.getElem?_cons_zero, List.getElem?_cons_succ, List.getElem?_nil, Option.some.injEq, SV.dat.injEq, SV.own.injEq, PyData.int.injEq, PyData.bool.injEq, PyData.tuple.injEq, PyData.list.injEq, PyData.str.injEq, RVd.new.injEq, RVd.dat.injEq, exists_eq_left, exists_eq_left', exists_eq_right, List.cons.injEq, List.set_cons_zero, List.set_cons_succ, reduceCtorEq, and_true, true_and, false_and, and_false, not_true_eq_false, not_false_eq_true, if_true, if_false, ite_true, ite_false, decide_eq_true_eq, Bool.not_eq_true', decide_eq_false_iff_not, Bool.and_true, Bool.true_and, Bool.and_false, Bool.false_and, Bool.not_true, Bool.not_false, Bool.false_eq_true, List.map_cons, List.map_nil, List.length_cons, List.length_nil, Nat.zero_add, Nat.reduceAdd, Nat.reduceLeDiff, startd, List.replicate_succ, List.replicate_zero, List.nil_append, List.cons_append, Nat.reduceSub, exists_const, and_self, shp_int, shp_none, shp_bool, eqv_int, dForL_nil, lcL_nil]
        exact h
      · rw [if_neg h2, h1] at h
        simp only [h2, decide_false, dSeq, dAsgG, dAsgN, dRet, dRetN, dRetO, dRet0, dDrop, dIfS, dNext, dApp, dInsert, q_setI, q_setQ, q_take, dFor, dFreeze, dNever, q_par, q_parQ, q_par3, q_parQ3, dParNE, dParDE, gdName, q_gnil, q_gcons, q_gtup, dVar, dOwn, dC, d1, d2, n2, nCons, nNil, nLst, dTup, dFr, dTest, dAnd, dOr, dNot, dAndV, dOrV, dNotV, dIf, dChain, dCB, nCB, dCall, nCall, aDat, aBag, aNil, q_neg, q_add, q_addl, q_addt, q_sub, q_mul, q_mull, q_mult, q_fdiv, q_mod, q_pow, q_lt, q_le, q_gt, q_ge, eqD, neD, isD, isntD, q_isnn, q_isni, q_isnb, q_isnt, q_isnl, q_lenl, q_lent, q_inti, q_intb, q_max2, q_min2, q_listl, q_listt, q_tuplel, q_tuplet, q_sum, q_min, q_max, allD, itSeq, itR1, q_itR2, q_rng2, q_en, q_en1, q_zip, q_zipQ, q_seqr, q_lenr, q_ixr, q_seql, q_seqt, q_rvd, q_rvn, q_catn, q_ixl, q_ixt, q_sl, q_sll, q_slt, q_slr, nSlL, oNone, oSome, nLc, wipeD, q_dropc, q_dropxd, q_dropxb, q_dropxo, q_dropxn, q_drope, dYes, dCnt, q_revl, q_revt, q_revr, nListRg, dTupRg, exInts, exOpt, q_addr1, q_addrr, q_ixk0, q_ixk1, exRow, exTk, cntL, cntQ_some, cntQ_none, List.getElem?_cons_zero, List.getElem?_cons_succ, List.getElem?_nil, Option.some.injEq, SV.dat.injEq, SV.own.injEq, PyData.int.injEq, PyData.bool.injEq, PyData.tuple.injEq, PyData.list.injEq, PyData.str.injEq, RVd.new.injEq, RVd.dat.injEq, exists_eq_left, exists_eq_left', exists_eq_right, List.cons.injEq, List.set_cons_zero, List.set_cons_succ, reduceCtorEq, and_true, true_and, false_and, and_false, not_true_eq_false, not_false_eq_true, if_true, if_false, ite_true, ite_false, decide_eq_true_eq, Bool.not_eq_true', decide_eq_false_iff_not, Bool.and_true, Bool.true_and, Bool.and_false, Bool.false_and, Bool.not_true, Bool.not_false, Bool.false_eq_true, List.map_cons, List.map_nil, List.length_cons, List.length_nil, Nat.zero_add, Nat.reduceAdd, Nat.reduceLeDiff, startd, List.replicate_succ, List.replicate_zero, List.nil_append, List.cons_append, Nat.reduceSub, exists_const, and_self, shp_int, shp_none, shp_bool, eqv_int, dForL_nil, lcL_nil]
        exact h
    · rw [if_pos h1] at h
      simp only [h1, decide_false, dSeq, dAsgG, dAsgN, dRet, dRetN, dRetO, dRet0, dDrop, dIfS, dNext, dApp, dInsert, q_setI, q_setQ, q_take, dFor, dFreeze, dNever, q_par, q_parQ, q_par3, q_parQ3, dParNE, dParDE, gdName, q_gnil, q_gcons, q_gtup, dVar, dOwn, dC, d1, d2, n2, nCons, nNil, nLst, dTup, dFr, dTest, dAnd, dOr, dNot, dAndV, dOrV, dNotV, dIf, dChain, dCB, nCB, dCall, nCall, aDat, aBag, aNil, q_neg, q_add, q_addl, q_addt, q_sub, q_mul, q_mull, q_mult, q_fdiv, q_mod, q_pow, q_lt, q_le, q_gt, q_ge, eqD, neD, isD, isntD, q_isnn, q_isni, q_isnb, q_isnt, q_isnl, q_lenl, q_lent, q_inti, q_intb, q_max2, q_min2, q_listl, q_listt, q_tuplel, q_tuplet, q_sum, q_min, q_max, allD, itSeq, itR1, q_itR2, q_rng2, q_en, q_en1, q_zip, q_zipQ, q_seqr, q_lenr, q_ixr, q_seql, q_seqt, q_rvd, q_rvn, q_catn, q_ixl, q_ixt, q_sl, q_sll, q_slt, q_slr, nSlL, oNone, oSome, nLc, wipeD, q_dropc, q_dropxd, q_dropxb, q_dropxo, q_dropxn, q_drope, dYes, dCnt, q_revl, q_revt, q_revr, nListRg, dTupRg, exInts, exOpt, q_addr1, q_addrr, q_ixk0, q_ixk1, exRow, exTk, cntL, cntQ_some, cntQ_none, List.getElem?_cons_zero, List.getElem?_cons_succ, List.getElem?_nil, Option.some.injEq, SV.dat.injEq, SV.own.injEq, PyData.int.injEq, PyData.bool.injEq, PyData.tuple.injEq, PyData.list.injEq, PyData.str.injEq, RVd.new.injEq, RVd.dat.injEq, exists_eq_left, exists_eq_left', exists_eq_right, List.cons.injEq, List.set_cons_zero, List.set_cons_succ, reduceCtorEq, and_true, true_and, false_and, and_false, not_true_eq_false, not_false_eq_true, if_true, if_false, ite_true, ite_false, decide_eq_true_eq, Bool.not_eq_true', decide_eq_false_iff_not, Bool.and_true, Bool.true_and, Bool.and_false, Bool.false_and, Bool.not_true, Bool.not_false, Bool.false_eq_true, List.map_cons, List.map_nil, List.length_cons, List.length_nil, Nat.zero_add, Nat.reduceAdd, Nat.reduceLeDiff, startd, List.replicate_succ, List.replicate_zero, List.nil_append, List.cons_append, Nat.reduceSub, exists_const, and_self, shp_int, shp_none, shp_bool, eqv_int, dForL_nil, lcL_nil]
      exact h
  · exact h.elim
theorem len_first_unlike (svs : List SV) (R : RVd → Prop) (h : sp_first_unlike svs R) : svs.length = 2 := by
  unfold sp_first_unlike at h
  split at h
  · rfl
  · exact h.elim
def sp_parted : DSp
  | [.dat d, .dat d'], R => ∃ xs, d = rowD xs ∧ ∃ ys, d' = rowD ys ∧ RowOk xs ∧ RowOk ys ∧ xs.length = ys.length ∧ ∀ o, FirstD xs ys o → R (.dat (optD o))
  | _, _ => False
/-- parted: 0 one, 1 other, 2 found, 3 place, 4 number -/
abbrev b_parted : DS := (dSeq (dDrop (dCall sp_need_row (aDat (dVar 0) aNil)))
  (dSeq (dDrop (dCall sp_need_row (aDat (dVar 1) aNil)))
  (dSeq (dIfS (dTest (d2 neD (dCB lenD (nCons (dVar 0) nNil)) (dCB lenD (nCons (dVar 1) nNil)))) dNever dNext)
  (dSeq (dAsgN (nLst nNil) 2)
  (dSeq (dFor (itR1 (nCons (dCB lenD (nCons (dVar 0) nNil)) nNil)) (gdName 3)
  (dSeq (dAsgG (dCall sp_first_unlike (aDat (d2 ixD (dVar 0) (dVar 3)) (aDat (d2 ixD (dVar 1) (dVar 3)) aNil))) (gdName 4))
  (dIfS (dTest (d2 isntD (dVar 4) (dC .none))) (dApp 2 (dCall sp_came_as (aDat (dSl (dVar 0) oNone (oSome (dVar 3))) (aDat (dVar 4) aNil)))) dNext)))
  (dFreeze 2 (dRet (dIf (dTest (d2 neD (dVar 2) (dFr (nLst nNil)))) (dCB minD (nCons (dVar 2) nNil)) (dC .none)))))))))
theorem at_row {pre xs : List (Int × Int)} {x : Int × Int} {n : Nat} (h : pre.length = n) : atI ((pre ++ x :: xs).map tkD) (n : Int) = some (tkD x) := by
  refine atI_nat ?_
  rw [List.getElem?_map, List.getElem?_append_right (by omega), h, Nat.sub_self]
  rfl
theorem parted_loop {D : DEnds} {g : DG} {tb : DS} (hg : g = gdName 3)
    (htb : tb = (dSeq (dAsgG (dCall sp_first_unlike (aDat (d2 ixD (dVar 0) (dVar 3)) (aDat (d2 ixD (dVar 1) (dVar 3)) aNil))) (gdName 4))
  (dIfS (dTest (d2 isntD (dVar 4) (dC .none))) (dApp 2 (dCall sp_came_as (aDat (dSl (dVar 0) oNone (oSome (dVar 3))) (aDat (dVar 4) aNil)))) dNext))) :
    ∀ (xs ys pre pre' : List (Int × Int)) (n : Nat) (acc : List Int) (x3 x4 : Option SV), xs.length = ys.length → pre.length = n → pre'.length = n → (∀ t ∈ pre, TkOk t) → (∀ t ∈ xs, TkOk t) → acc.length ≤ n → n + xs.length ≤ 1000 →
      (∀ x3 x4, D.nx [some (.dat (rowD (pre ++ xs))), some (.dat (rowD (pre' ++ ys))), some (.own ((acc ++ (foundF xs ys).map (cameG pre)).map .int)), x3, x4]) →
      dForL g tb ((List.range' n xs.length).map fun i => .int ((0 : Int) + (i : Nat))) D [some (.dat (rowD (pre ++ xs))), some (.dat (rowD (pre' ++ ys))), some (.own (acc.map .int)), x3, x4]
  | [], [], pre, pre', n, acc, x3, x4, _, _, _, _, _, _, _, h => by
    have := h x3 x4
    show D.nx _
    simpa [foundF] using this
  | [], _ :: _, _, _, _, _, _, _, hl, _, _, _, _, _, _, _ => by simp at hl
  | _ :: _, [], _, _, _, _, _, _, hl, _, _, _, _, _, _, _ => by simp at hl
  | x :: xs, y :: ys, pre, pre', n, acc, x3, x4, hl, hp, hp', hpo, hxo, ha, hn, h => by
    rw [List.length_cons] at hn
    have next : ∀ acc' x3 x4, acc'.length ≤ n + 1 → acc' ++ (foundF xs ys).map (cameG (pre ++ [x])) = acc ++ (foundF (x :: xs) (y :: ys)).map (cameG pre) → dForL g tb ((List.range' (n + 1) xs.length).map fun i => .int ((0 : Int) + (i : Nat))) D [some (.dat (rowD (pre ++ x :: xs))), some (.dat (rowD (pre' ++ y :: ys))), some (.own (acc'.map .int)), x3, x4] := fun acc' x3 x4 hla e => by
      have e1 : pre ++ x :: xs = (pre ++ [x]) ++ xs := by simp
      have e2 : pre' ++ y :: ys = (pre' ++ [y]) ++ ys := by simp
      rw [e1, e2]
      refine parted_loop hg htb xs ys (pre ++ [x]) (pre' ++ [y]) (n + 1) acc' x3 x4 (by simpa using hl) (by simp [hp]) (by simp [hp']) (fun t ht => ?_) (fun t ht => hxo t (List.mem_cons_of_mem _ ht)) hla (by omega) fun y3 y4 => ?_
      · rcases List.mem_append.mp ht with z | z
        · exact hpo t z
        · have : t = x := by simpa using z
          subst this
          exact hxo t List.mem_cons_self
      · rw [e, ← e1, ← e2]
        exact h y3 y4
    rw [List.length_cons, List.range'_succ, List.map_cons, dForL_cons]
    generalize dForL g tb ((List.range' (n + 1) xs.length).map fun i => .int ((0 : Int) + (i : Nat))) D = rest at *
    rw [hg, htb]
    have hla : acc.length < 1000000 := by omega
    have ht : List.take n (pre ++ x :: xs) = pre := by rw [← hp, List.take_left]
    simp only [Int.zero_add, at_row hp, at_row hp', sp_first_unlike, dSeq, dAsgG, dAsgN, dRet, dRetN, dRetO, dRet0, dDrop, dIfS, dNext, dApp, dInsert, q_setI, q_setQ, q_take, dFor, dFreeze, dNever, q_par, q_parQ, q_par3, q_parQ3, dParNE, dParDE, gdName, q_gnil, q_gcons, q_gtup, dVar, dOwn, dC, d1, d2, n2, nCons, nNil, nLst, dTup, dFr, dTest, dAnd, dOr, dNot, dAndV, dOrV, dNotV, dIf, dChain, dCB, nCB, dCall, nCall, aDat, aBag, aNil, q_neg, q_add, q_addl, q_addt, q_sub, q_mul, q_mull, q_mult, q_fdiv, q_mod, q_pow, q_lt, q_le, q_gt, q_ge, eqD, neD, isD, isntD, q_isnn, q_isni, q_isnb, q_isnt, q_isnl, q_lenl, q_lent, q_inti, q_intb, q_max2, q_min2, q_listl, q_listt, q_tuplel, q_tuplet, q_sum, q_min, q_max, allD, itSeq, itR1, q_itR2, q_rng2, q_en, q_en1, q_zip, q_zipQ, q_seqr, q_lenr, q_ixr, q_seql, q_seqt, q_rvd, q_rvn, q_catn, q_ixl, q_ixt, q_sl, q_sll, q_slt, q_slr, nSlL, oNone, oSome, nLc, wipeD, q_dropc, q_dropxd, q_dropxb, q_dropxo, q_dropxn, q_drope, dYes, dCnt, q_revl, q_revt, q_revr, nListRg, dTupRg, exInts, exOpt, q_addr1, q_addrr, q_ixk0, q_ixk1, exRow, exTk, cntL, cntQ_some, cntQ_none, List.getElem?_cons_zero, List.getElem?_cons_succ, List.getElem?_nil, Option.some.injEq, SV.dat.injEq, SV.own.injEq, PyData.int.injEq, PyData.bool.injEq, PyData.tuple.injEq, PyData.list.injEq, PyData.str.injEq, RVd.new.injEq, RVd.dat.injEq, exists_eq_left, exists_eq_left', exists_eq_right, List.cons.injEq, List.set_cons_zero, List.set_cons_succ, reduceCtorEq, and_true, true_and, false_and, and_false, not_true_eq_false, not_false_eq_true, if_true, if_false, ite_true, ite_false, decide_eq_true_eq, Bool.not_eq_true', decide_eq_false_iff_not, Bool.and_true, Bool.true_and, Bool.and_false, Bool.false_and, Bool.not_true, Bool.not_false, Bool.false_eq_true, List.map_cons, List.map_nil, List.length_cons, List.length_nil, Nat.zero_add, Nat.reduceAdd, Nat.reduceLeDiff, startd, List.replicate_succ, List.replicate_zero, List.nil_append, List.cons_append, Nat.reduceSub, exists_const, and_self, shp_int, shp_none, shp_bool, eqv_int, dForL_nil, lcL_nil]
    have hF : foundF (x :: xs) (y :: ys) = (fuG x y).toList ++ (foundF xs ys).map (upG x) := rfl
    have hm : (foundF xs ys).map (cameG (pre ++ [x])) = ((foundF xs ys).map (upG x)).map (cameG pre) := by
      rw [List.map_map]
      refine List.map_congr_left fun m _ => ?_
      exact cameG_app m pre x
    cases hfu : fuG x y with
    | none =>
      simp only [optD, dSeq, dAsgG, dAsgN, dRet, dRetN, dRetO, dRet0, dDrop, dIfS, dNext, dApp, dInsert, q_setI, q_setQ, q_take, dFor, dFreeze, dNever, q_par, q_parQ, q_par3, q_parQ3, dParNE, dParDE, gdName, q_gnil, q_gcons, q_gtup, dVar, dOwn, dC, d1, d2, n2, nCons, nNil, nLst, dTup, dFr, dTest, dAnd, dOr, dNot, dAndV, dOrV, dNotV, dIf, dChain, dCB, nCB, dCall, nCall, aDat, aBag, aNil, q_neg, q_add, q_addl, q_addt, q_sub, q_mul, q_mull, q_mult, q_fdiv, q_mod, q_pow, q_lt, q_le, q_gt, q_ge, eqD, neD, isD, isntD, q_isnn, q_isni, q_isnb, q_isnt, q_isnl, q_lenl, q_lent, q_inti, q_intb, q_max2, q_min2, q_listl, q_listt, q_tuplel, q_tuplet, q_sum, q_min, q_max, allD, itSeq, itR1, q_itR2, q_rng2, q_en, q_en1, q_zip, q_zipQ, q_seqr, q_lenr, q_ixr, q_seql, q_seqt, q_rvd, q_rvn, q_catn, q_ixl, q_ixt, q_sl, q_sll, q_slt, q_slr, nSlL, oNone, oSome, nLc, wipeD, q_dropc, q_dropxd, q_dropxb, q_dropxo, q_dropxn, q_drope, dYes, dCnt, q_revl, q_revt, q_revr, nListRg, dTupRg, exInts, exOpt, q_addr1, q_addrr, q_ixk0, q_ixk1, exRow, exTk, cntL, cntQ_some, cntQ_none, List.getElem?_cons_zero, List.getElem?_cons_succ, List.getElem?_nil, Option.some.injEq, SV.dat.injEq, SV.own.injEq, PyData.int.injEq, PyData.bool.injEq, PyData.tuple.injEq, PyData.list.injEq, PyData.str.injEq, RVd.new.injEq, RVd.dat.injEq, exists_eq_left, exists_eq_left', exists_eq_right, List.cons.injEq, List.set_cons_zero, List.set_cons_succ, reduceCtorEq, and_true, true_and, false_and, and_false, not_true_eq_false, not_false_eq_true, if_true, if_false, ite_true, ite_false, decide_eq_true_eq, Bool.not_eq_true', decide_eq_false_iff_not, Bool.and_true, Bool.true_and, Bool.and_false, Bool.false_and, Bool.not_true, Bool.not_false, Bool.false_eq_true, List.map_cons, List.map_nil, List.length_cons, List.length_nil, Nat.zero_add, Nat.reduceAdd, Nat.reduceLeDiff, startd, List.replicate_succ, List.replicate_zero, List.nil_append, List.cons_append, Nat.reduceSub, exists_const, and_self, shp_int, shp_none, shp_bool, eqv_int, dForL_nil, lcL_nil]
      refine next acc _ _ (by omega) ?_
      rw [hF, hfu, hm]
      rfl
    | some a =>
      simp only [optD, sp_came_as, cutG_to, ht, hla, List.length_map, dSeq, dAsgG, dAsgN, dRet, dRetN, dRetO, dRet0, dDrop, dIfS, dNext, dApp, dInsert, q_setI, q_setQ, q_take, dFor, dFreeze, dNever, q_par, q_parQ, q_par3, q_parQ3, dParNE, dParDE, gdName, q_gnil, q_gcons, q_gtup, dVar, dOwn, dC, d1, d2, n2, nCons, nNil, nLst, dTup, dFr, dTest, dAnd, dOr, dNot, dAndV, dOrV, dNotV, dIf, dChain, dCB, nCB, dCall, nCall, aDat, aBag, aNil, q_neg, q_add, q_addl, q_addt, q_sub, q_mul, q_mull, q_mult, q_fdiv, q_mod, q_pow, q_lt, q_le, q_gt, q_ge, eqD, neD, isD, isntD, q_isnn, q_isni, q_isnb, q_isnt, q_isnl, q_lenl, q_lent, q_inti, q_intb, q_max2, q_min2, q_listl, q_listt, q_tuplel, q_tuplet, q_sum, q_min, q_max, allD, itSeq, itR1, q_itR2, q_rng2, q_en, q_en1, q_zip, q_zipQ, q_seqr, q_lenr, q_ixr, q_seql, q_seqt, q_rvd, q_rvn, q_catn, q_ixl, q_ixt, q_sl, q_sll, q_slt, q_slr, nSlL, oNone, oSome, nLc, wipeD, q_dropc, q_dropxd, q_dropxb, q_dropxo, q_dropxn, q_drope, dYes, dCnt, q_revl, q_revt, q_revr, nListRg, dTupRg, exInts, exOpt, q_addr1, q_addrr, q_ixk0, q_ixk1, exRow, exTk, cntL, cntQ_some, cntQ_none, List.getElem?_cons_zero, List.getElem?_cons_succ, List.getElem?_nil, Option.some.injEq, SV.dat.injEq, SV.own.injEq, PyData.int.injEq, PyData.bool.injEq, PyData.tuple.injEq, PyData.list.injEq, PyData.str.injEq, RVd.new.injEq, RVd.dat.injEq, exists_eq_left, exists_eq_left', exists_eq_right, List.cons.injEq, List.set_cons_zero, List.set_cons_succ, reduceCtorEq, and_true, true_and, false_and, and_false, not_true_eq_false, not_false_eq_true, if_true, if_false, ite_true, ite_false, decide_eq_true_eq, Bool.not_eq_true', decide_eq_false_iff_not, Bool.and_true, Bool.true_and, Bool.and_false, Bool.false_and, Bool.not_true, Bool.not_false, Bool.false_eq_true, List.map_cons, List.map_nil, List.length_cons, List.length_nil, Nat.zero_add, Nat.reduceAdd, Nat.reduceLeDiff, startd, List.replicate_succ, List.replicate_zero, List.nil_append, List.cons_append, Nat.reduceSub, exists_const, and_self, shp_int, shp_none, shp_bool, eqv_int, dForL_nil, lcL_nil]
      refine ⟨hpo, ?_⟩
      have ea : acc.map PyData.int ++ [.int (cameG pre a)] = (acc ++ [cameG pre a]).map PyData.int := by simp
      rw [ea]
      refine next (acc ++ [cameG pre a]) _ _ (by simp; omega) ?_
      rw [hF, hfu, hm]
      simp
theorem rd_parted (svs : List SV) (R : RVd → Prop) (h : sp_parted svs R) : b_parted { nx := fun _ => R (.dat .none), rt := R } (startd 5 svs) := by
  unfold sp_parted at h
  split at h
  · obtain ⟨xs, rfl, ys, rfl, okx, oky, hl, h⟩ := h
    have hl' : (xs.length : Int) = (ys.length : Int) := by omega
    have h8 := okx.1
    simp only [b_parted, sp_need_row, rowB_ok okx, rowB_ok oky, hl', decide_true, dSeq, dAsgG, dAsgN, dRet, dRetN, dRetO, dRet0, dDrop, dIfS, dNext, dApp, dInsert, q_setI, q_setQ, q_take, dFor, dFreeze, dNever, q_par, q_parQ, q_par3, q_parQ3, dParNE, dParDE, gdName, q_gnil, q_gcons, q_gtup, dVar, dOwn, dC, d1, d2, n2, nCons, nNil, nLst, dTup, dFr, dTest, dAnd, dOr, dNot, dAndV, dOrV, dNotV, dIf, dChain, dCB, nCB, dCall, nCall, aDat, aBag, aNil, q_neg, q_add, q_addl, q_addt, q_sub, q_mul, q_mull, q_mult, q_fdiv, q_mod, q_pow, q_lt, q_le, q_gt, q_ge, eqD, neD, isD, isntD, q_isnn, q_isni, q_isnb, q_isnt, q_isnl, q_lenl, q_lent, q_inti, q_intb, q_max2, q_min2, q_listl, q_listt, q_tuplel, q_tuplet, q_sum, q_min, q_max, allD, itSeq, itR1, q_itR2, q_rng2, q_en, q_en1, q_zip, q_zipQ, q_seqr, q_lenr, q_ixr, q_seql, q_seqt, q_rvd, q_rvn, q_catn, q_ixl, q_ixt, q_sl, q_sll, q_slt, q_slr, nSlL, oNone, oSome, nLc, wipeD, q_dropc, q_dropxd, q_dropxb, q_dropxo, q_dropxn, q_drope, dYes, dCnt, q_revl, q_revt, q_revr, nListRg, dTupRg, exInts, exOpt, q_addr1, q_addrr, q_ixk0, q_ixk1, exRow, exTk, cntL, cntQ_some, cntQ_none, List.getElem?_cons_zero, List.getElem?_cons_succ, List.getElem?_nil, Option.some.injEq, SV.dat.injEq, SV.own.injEq, PyData.int.injEq, PyData.bool.injEq, PyData.tuple.injEq, PyData.list.injEq, PyData.str.injEq, RVd.new.injEq, RVd.dat.injEq, exists_eq_left, exists_eq_left', exists_eq_right, List.cons.injEq, List.set_cons_zero, List.set_cons_succ, reduceCtorEq, and_true, true_and, false_and, and_false, not_true_eq_false, not_false_eq_true, if_true, if_false, ite_true, ite_false, decide_eq_true_eq, Bool.not_eq_true', decide_eq_false_iff_not, Bool.and_true, Bool.true_and, Bool.and_false, Bool.false_and, Bool.not_true, Bool.not_false, Bool.false_eq_true, List.map_cons, List.map_nil, List.length_cons, List.length_nil, Nat.zero_add, Nat.reduceAdd, Nat.reduceLeDiff, startd, List.replicate_succ, List.replicate_zero, List.nil_append, List.cons_append, Nat.reduceSub, exists_const, and_self, shp_int, shp_none, shp_bool, eqv_int, dForL_nil, lcL_nil]
    refine ⟨⟨by omega, by omega⟩, ?_⟩
    unfold rngD
    rw [Int.toNat_natCast, List.range_eq_range', ← hl]
    refine parted_loop rfl rfl xs ys [] [] 0 [] _ _ hl rfl rfl (by simp) okx.2 (by simp) (by omega) fun x3 x4 => ?_
    have e : (foundF xs ys).map (cameG []) = foundF xs ys := by
      conv => rhs; rw [← List.map_id (foundF xs ys)]
      rfl
    obtain ⟨p1, p2⟩ := parts_at xs ys hl okx.2 oky.2
    simp only [List.nil_append, e, shp_ints, show SeqAt.shaped (.list []) = true from shp_ints [], show ∀ l : List Int, PyData.eqv (.list (l.map .int)) (.list []) = decide (l = []) from fun l => eqv_ints l [], dSeq, dAsgG, dAsgN, dRet, dRetN, dRetO, dRet0, dDrop, dIfS, dNext, dApp, dInsert, q_setI, q_setQ, q_take, dFor, dFreeze, dNever, q_par, q_parQ, q_par3, q_parQ3, dParNE, dParDE, gdName, q_gnil, q_gcons, q_gtup, dVar, dOwn, dC, d1, d2, n2, nCons, nNil, nLst, dTup, dFr, dTest, dAnd, dOr, dNot, dAndV, dOrV, dNotV, dIf, dChain, dCB, nCB, dCall, nCall, aDat, aBag, aNil, q_neg, q_add, q_addl, q_addt, q_sub, q_mul, q_mull, q_mult, q_fdiv, q_mod, q_pow, q_lt, q_le, q_gt, q_ge, eqD, neD, isD, isntD, q_isnn, q_isni, q_isnb, q_isnt, q_isnl, q_lenl, q_lent, q_inti, q_intb, q_max2, q_min2, q_listl, q_listt, q_tuplel, q_tuplet, q_sum, q_min, q_max, allD, itSeq, itR1, q_itR2, q_rng2, q_en, q_en1, q_zip, q_zipQ, q_seqr, q_lenr, q_ixr, q_seql, q_seqt, q_rvd, q_rvn, q_catn, q_ixl, q_ixt, q_sl, q_sll, q_slt, q_slr, nSlL, oNone, oSome, nLc, wipeD, q_dropc, q_dropxd, q_dropxb, q_dropxo, q_dropxn, q_drope, dYes, dCnt, q_revl, q_revt, q_revr, nListRg, dTupRg, exInts, exOpt, q_addr1, q_addrr, q_ixk0, q_ixk1, exRow, exTk, cntL, cntQ_some, cntQ_none, List.getElem?_cons_zero, List.getElem?_cons_succ, List.getElem?_nil, Option.some.injEq, SV.dat.injEq, SV.own.injEq, PyData.int.injEq, PyData.bool.injEq, PyData.tuple.injEq, PyData.list.injEq, PyData.str.injEq, RVd.new.injEq, RVd.dat.injEq, exists_eq_left, exists_eq_left', exists_eq_right, List.cons.injEq, List.set_cons_zero, List.set_cons_succ, reduceCtorEq, and_true, true_and, false_and, and_false, not_true_eq_false, not_false_eq_true, if_true, if_false, ite_true, ite_false, decide_eq_true_eq, Bool.not_eq_true', decide_eq_false_iff_not, Bool.and_true, Bool.true_and, Bool.and_false, Bool.false_and, Bool.not_true, Bool.not_false, Bool.false_eq_true, List.map_cons, List.map_nil, List.length_cons, List.length_nil, Nat.zero_add, Nat.reduceAdd, Nat.reduceLeDiff, startd, List.replicate_succ, List.replicate_zero, List.nil_append, List.cons_append, Nat.reduceSub, exists_const, and_self, shp_int, shp_none, shp_bool, eqv_int, dForL_nil, lcL_nil]
    by_cases hf : foundF xs ys = []
    · simp only [hf, decide_true, dSeq, dAsgG, dAsgN, dRet, dRetN, dRetO, dRet0, dDrop, dIfS, dNext, dApp, dInsert, q_setI, q_setQ, q_take, dFor, dFreeze, dNever, q_par, q_parQ, q_par3, q_parQ3, dParNE, dParDE, gdName, q_gnil, q_gcons, q_gtup, dVar, dOwn, dC, d1, d2, n2, nCons, nNil, nLst, dTup, dFr, dTest, dAnd, dOr, dNot, dAndV, dOrV, dNotV, dIf, dChain, dCB, nCB, dCall, nCall, aDat, aBag, aNil, q_neg, q_add, q_addl, q_addt, q_sub, q_mul, q_mull, q_mult, q_fdiv, q_mod, q_pow, q_lt, q_le, q_gt, q_ge, eqD, neD, isD, isntD, q_isnn, q_isni, q_isnb, q_isnt, q_isnl, q_lenl, q_lent, q_inti, q_intb, q_max2, q_min2, q_listl, q_listt, q_tuplel, q_tuplet, q_sum, q_min, q_max, allD, itSeq, itR1, q_itR2, q_rng2, q_en, q_en1, q_zip, q_zipQ, q_seqr, q_lenr, q_ixr, q_seql, q_seqt, q_rvd, q_rvn, q_catn, q_ixl, q_ixt, q_sl, q_sll, q_slt, q_slr, nSlL, oNone, oSome, nLc, wipeD, q_dropc, q_dropxd, q_dropxb, q_dropxo, q_dropxn, q_drope, dYes, dCnt, q_revl, q_revt, q_revr, nListRg, dTupRg, exInts, exOpt, q_addr1, q_addrr, q_ixk0, q_ixk1, exRow, exTk, cntL, cntQ_some, cntQ_none, List.getElem?_cons_zero, List.getElem?_cons_succ, List.getElem?_nil, Option.some.injEq, SV.dat.injEq, SV.own.injEq, PyData.int.injEq, PyData.bool.injEq, PyData.tuple.injEq, PyData.list.injEq, PyData.str.injEq, RVd.new.injEq, RVd.dat.injEq, exists_eq_left, exists_eq_left', exists_eq_right, List.cons.injEq, List.set_cons_zero, List.set_cons_succ, reduceCtorEq, and_true, true_and, false_and, and_false, not_true_eq_false, not_false_eq_true, if_true, if_false, ite_true, ite_false, decide_eq_true_eq, Bool.not_eq_true', decide_eq_false_iff_not, Bool.and_true, Bool.true_and, Bool.and_false, Bool.false_and, Bool.not_true, Bool.not_false, Bool.false_eq_true, List.map_cons, List.map_nil, List.length_cons, List.length_nil, Nat.zero_add, Nat.reduceAdd, Nat.reduceLeDiff, startd, List.replicate_succ, List.replicate_zero, List.nil_append, List.cons_append, Nat.reduceSub, exists_const, and_self, shp_int, shp_none, shp_bool, eqv_int, dForL_nil, lcL_nil]
      exact h none (p1 hf)
    · simp only [hf, decide_false, ne_eq, dSeq, dAsgG, dAsgN, dRet, dRetN, dRetO, dRet0, dDrop, dIfS, dNext, dApp, dInsert, q_setI, q_setQ, q_take, dFor, dFreeze, dNever, q_par, q_parQ, q_par3, q_parQ3, dParNE, dParDE, gdName, q_gnil, q_gcons, q_gtup, dVar, dOwn, dC, d1, d2, n2, nCons, nNil, nLst, dTup, dFr, dTest, dAnd, dOr, dNot, dAndV, dOrV, dNotV, dIf, dChain, dCB, nCB, dCall, nCall, aDat, aBag, aNil, q_neg, q_add, q_addl, q_addt, q_sub, q_mul, q_mull, q_mult, q_fdiv, q_mod, q_pow, q_lt, q_le, q_gt, q_ge, eqD, neD, isD, isntD, q_isnn, q_isni, q_isnb, q_isnt, q_isnl, q_lenl, q_lent, q_inti, q_intb, q_max2, q_min2, q_listl, q_listt, q_tuplel, q_tuplet, q_sum, q_min, q_max, allD, itSeq, itR1, q_itR2, q_rng2, q_en, q_en1, q_zip, q_zipQ, q_seqr, q_lenr, q_ixr, q_seql, q_seqt, q_rvd, q_rvn, q_catn, q_ixl, q_ixt, q_sl, q_sll, q_slt, q_slr, nSlL, oNone, oSome, nLc, wipeD, q_dropc, q_dropxd, q_dropxb, q_dropxo, q_dropxn, q_drope, dYes, dCnt, q_revl, q_revt, q_revr, nListRg, dTupRg, exInts, exOpt, q_addr1, q_addrr, q_ixk0, q_ixk1, exRow, exTk, cntL, cntQ_some, cntQ_none, List.getElem?_cons_zero, List.getElem?_cons_succ, List.getElem?_nil, Option.some.injEq, SV.dat.injEq, SV.own.injEq, PyData.int.injEq, PyData.bool.injEq, PyData.tuple.injEq, PyData.list.injEq, PyData.str.injEq, RVd.new.injEq, RVd.dat.injEq, exists_eq_left, exists_eq_left', exists_eq_right, List.cons.injEq, List.set_cons_zero, List.set_cons_succ, reduceCtorEq, and_true, true_and, false_and, and_false, not_true_eq_false, not_false_eq_true, if_true, if_false, ite_true, ite_false, decide_eq_true_eq, Bool.not_eq_true', decide_eq_false_iff_not, Bool.and_true, Bool.true_and, Bool.and_false, Bool.false_and, Bool.not_true, Bool.not_false, Bool.false_eq_true, List.map_cons, List.map_nil, List.length_cons, List.length_nil, Nat.zero_add, Nat.reduceAdd, Nat.reduceLeDiff, startd, List.replicate_succ, List.replicate_zero, List.nil_append, List.cons_append, Nat.reduceSub, exists_const, and_self, shp_int, shp_none, shp_bool, eqv_int, dForL_nil, lcL_nil]
      exact fun m hm hy => h (some m) (p2 m hm hy)
  · exact h.elim
theorem len_parted (svs : List SV) (R : RVd → Prop) (h : sp_parted svs R) : svs.length = 2 := by
  unfold sp_parted at h
  split at h
  · rfl
  · exact h.elim
end Pd

set_option maxRecDepth 100000
set_option maxHeartbeats 4000000
namespace Pd
open PySem L2
/-- _law_refused: 0 call, 1 one, 2 two, 3 three, 4 kin, 5 e, 6 words, 7 word, 8 there -/
abbrev b_refused0 : DS := (dAsgN (nLst nNil) 4)
abbrev b_refused2 : DS := (dRetO 4)
abbrev b_refusedS_Unlike (a : Addr) : DS := (dSeq (dAsgG (dFr (nLst (nCons (dTup (nCons (dC (.str (Str.ofString "NoRow"))) (nCons (dIsE 5 a false) nNil))) (nCons (dTup (nCons (dC (.str (Str.ofString "NoNumber"))) (nCons (dIsE 5 a false) nNil))) nNil)))) (gdName 6))
  (dSeq (dAsgG (d2 addD (dVar 6) (dFr (nLst (nCons (dTup (nCons (dC (.str (Str.ofString "NoTaker"))) (nCons (dIsE 5 a false) nNil))) nNil)))) (gdName 6))
  (dSeq (dAsgG (d2 addD (dVar 6) (dFr (nLst (nCons (dTup (nCons (dC (.str (Str.ofString "NoSeen"))) (nCons (dIsE 5 a false) nNil))) (nCons (dTup (nCons (dC (.str (Str.ofString "NoCounts"))) (nCons (dIsE 5 a false) nNil))) nNil))))) (gdName 6))
  (dSeq (dAsgG (d2 addD (dVar 6) (dFr (nLst (nCons (dTup (nCons (dC (.str (Str.ofString "NoPlace"))) (nCons (dIsE 5 a false) nNil))) (nCons (dTup (nCons (dC (.str (Str.ofString "Unlike"))) (nCons (dIsE 5 a true) nNil))) nNil))))) (gdName 6))
  (dSeq (dAsgG (d2 addD (dVar 6) (dFr (nLst (nCons (dTup (nCons (dC (.str (Str.ofString "Full"))) (nCons (dIsE 5 a false) nNil))) nNil)))) (gdName 6))
  (dAsgN (n2 catN (dFr (nLc (itLs (dVar 6)) (gdTup 2 (gdCons (gdName 7) (gdCons (gdName 8) gdNil))) (dTest (dVar 8)) (dVar 7) [7, 8])) (dFr (nLst (nCons (dIsE 5 a true) nNil)))) 4))))))
theorem rd_refused0 (f : Addr) (y1 y2 y3 : PyData) : b_refused0 { nx := fun env => env = some (.raw (.ref f)) :: some (.dat y1) :: some (.dat y2) :: some (.dat y3) :: [some (.own []), none, none, none, none], rt := fun _ => False } (startd 9 [.raw (.ref f), .dat y1, .dat y2, .dat y3]) := by
  simp only [b_refused0, dSeq, dAsgG, dAsgN, dRet, dRetN, dRetO, dRet0, dDrop, dIfS, dNext, dApp, dInsert, q_setI, q_setQ, q_take, dFor, dFreeze, dNever, q_par, q_parQ, q_par3, q_parQ3, dParNE, dParDE, gdName, q_gnil, q_gcons, q_gtup, dVar, dOwn, dC, d1, d2, n2, nCons, nNil, nLst, dTup, dFr, dTest, dAnd, dOr, dNot, dAndV, dOrV, dNotV, dIf, dChain, dCB, nCB, dCall, nCall, aDat, aBag, aNil, q_neg, q_add, q_addl, q_addt, q_sub, q_mul, q_mull, q_mult, q_fdiv, q_mod, q_pow, q_lt, q_le, q_gt, q_ge, eqD, neD, isD, isntD, q_isnn, q_isni, q_isnb, q_isnt, q_isnl, q_lenl, q_lent, q_inti, q_intb, q_max2, q_min2, q_listl, q_listt, q_tuplel, q_tuplet, q_sum, q_min, q_max, allD, itSeq, itR1, q_itR2, q_rng2, q_en, q_en1, q_zip, q_zipQ, q_seqr, q_lenr, q_ixr, q_seql, q_seqt, q_rvd, q_rvn, q_catn, q_ixl, q_ixt, q_sl, q_sll, q_slt, q_slr, nSlL, oNone, oSome, nLc, wipeD, q_dropc, q_dropxd, q_dropxb, q_dropxo, q_dropxn, q_drope, dYes, dCnt, q_revl, q_revt, q_revr, nListRg, dTupRg, exInts, exOpt, q_addr1, q_addrr, q_ixk0, q_ixk1, exRow, exTk, cntL, cntQ_some, cntQ_none, List.getElem?_cons_zero, List.getElem?_cons_succ, List.getElem?_nil, Option.some.injEq, SV.dat.injEq, SV.own.injEq, PyData.int.injEq, PyData.bool.injEq, PyData.tuple.injEq, PyData.list.injEq, PyData.str.injEq, RVd.new.injEq, RVd.dat.injEq, exists_eq_left, exists_eq_left', exists_eq_right, List.cons.injEq, List.set_cons_zero, List.set_cons_succ, reduceCtorEq, and_true, true_and, false_and, and_false, not_true_eq_false, not_false_eq_true, if_true, if_false, ite_true, ite_false, decide_eq_true_eq, Bool.not_eq_true', decide_eq_false_iff_not, Bool.and_true, Bool.true_and, Bool.and_false, Bool.false_and, Bool.not_true, Bool.not_false, Bool.false_eq_true, List.map_cons, List.map_nil, List.length_cons, List.length_nil, Nat.zero_add, Nat.reduceAdd, Nat.reduceLeDiff, startd, List.replicate_succ, List.replicate_zero, List.nil_append, List.cons_append, Nat.reduceSub, exists_const, and_self, shp_int, shp_none, shp_bool, eqv_int, dForL_nil, lcL_nil]
theorem rd_refusedS_Unlike (f : Addr) (y1 y2 y3 : PyData) (a : Addr) : b_refusedS_Unlike a { nx := fun env2 => b_refused2 { nx := fun _ => False, rt := fun v => v = .new [.str (Str.ofString "Unlike"), .bool true] } (env2.set 5 none), rt := fun _ => False } ((some (.raw (.ref f)) :: some (.dat y1) :: some (.dat y2) :: some (.dat y3) :: [some (.own []), none, none, none, none]).set 5 (some (.raw (.ref a)))) := by
  simp only [b_refusedS_Unlike, b_refused2, q_isE, q_itls, q_dropxr, lcL_cons, dSeq, dAsgG, dAsgN, dRet, dRetN, dRetO, dRet0, dDrop, dIfS, dNext, dApp, dInsert, q_setI, q_setQ, q_take, dFor, dFreeze, dNever, q_par, q_parQ, q_par3, q_parQ3, dParNE, dParDE, gdName, q_gnil, q_gcons, q_gtup, dVar, dOwn, dC, d1, d2, n2, nCons, nNil, nLst, dTup, dFr, dTest, dAnd, dOr, dNot, dAndV, dOrV, dNotV, dIf, dChain, dCB, nCB, dCall, nCall, aDat, aBag, aNil, q_neg, q_add, q_addl, q_addt, q_sub, q_mul, q_mull, q_mult, q_fdiv, q_mod, q_pow, q_lt, q_le, q_gt, q_ge, eqD, neD, isD, isntD, q_isnn, q_isni, q_isnb, q_isnt, q_isnl, q_lenl, q_lent, q_inti, q_intb, q_max2, q_min2, q_listl, q_listt, q_tuplel, q_tuplet, q_sum, q_min, q_max, allD, itSeq, itR1, q_itR2, q_rng2, q_en, q_en1, q_zip, q_zipQ, q_seqr, q_lenr, q_ixr, q_seql, q_seqt, q_rvd, q_rvn, q_catn, q_ixl, q_ixt, q_sl, q_sll, q_slt, q_slr, nSlL, oNone, oSome, nLc, wipeD, q_dropc, q_dropxd, q_dropxb, q_dropxo, q_dropxn, q_drope, dYes, dCnt, q_revl, q_revt, q_revr, nListRg, dTupRg, exInts, exOpt, q_addr1, q_addrr, q_ixk0, q_ixk1, exRow, exTk, cntL, cntQ_some, cntQ_none, List.getElem?_cons_zero, List.getElem?_cons_succ, List.getElem?_nil, Option.some.injEq, SV.dat.injEq, SV.own.injEq, PyData.int.injEq, PyData.bool.injEq, PyData.tuple.injEq, PyData.list.injEq, PyData.str.injEq, RVd.new.injEq, RVd.dat.injEq, exists_eq_left, exists_eq_left', exists_eq_right, List.cons.injEq, List.set_cons_zero, List.set_cons_succ, reduceCtorEq, and_true, true_and, false_and, and_false, not_true_eq_false, not_false_eq_true, if_true, if_false, ite_true, ite_false, decide_eq_true_eq, Bool.not_eq_true', decide_eq_false_iff_not, Bool.and_true, Bool.true_and, Bool.and_false, Bool.false_and, Bool.not_true, Bool.not_false, Bool.false_eq_true, List.map_cons, List.map_nil, List.length_cons, List.length_nil, Nat.zero_add, Nat.reduceAdd, Nat.reduceLeDiff, startd, List.replicate_succ, List.replicate_zero, List.nil_append, List.cons_append, Nat.reduceSub, exists_const, and_self, shp_int, shp_none, shp_bool, eqv_int, dForL_nil, lcL_nil]
abbrev bx_parted : DS := (dSeq (dDrop (dCall sp_need_row (aDat (dVar 0) aNil)))
  (dSeq (dDrop (dCall sp_need_row (aDat (dVar 1) aNil)))
  (dIfRaise (dTest (d2 neD (dCB lenD (nCons (dVar 0) nNil)) (dCB lenD (nCons (dVar 1) nNil)))))))
def spx_parted (svs : List SV) : Prop := ∃ xs ys, svs = [.dat (rowD xs), .dat (rowD ys)] ∧ RowOk xs ∧ RowOk ys ∧ xs.length ≠ ys.length
theorem lenx_parted (svs : List SV) (h : spx_parted svs) : svs.length = 2 := by
  obtain ⟨_, _, rfl, _⟩ := h
  rfl
theorem rdx_parted (svs : List SV) (h : spx_parted svs) : bx_parted { nx := fun _ => False, rt := fun _ => False } (startd 5 svs) := by
  obtain ⟨xs, ys, rfl, okx, oky, hl⟩ := h
  have hl' : ¬ (xs.length : Int) = (ys.length : Int) := by omega
  simp only [bx_parted, dIfRaise, sp_need_row, rowB_ok okx, rowB_ok oky, hl', decide_false, dSeq, dAsgG, dAsgN, dRet, dRetN, dRetO, dRet0, dDrop, dIfS, dNext, dApp, dInsert, q_setI, q_setQ, q_take, dFor, dFreeze, dNever, q_par, q_parQ, q_par3, q_parQ3, dParNE, dParDE, gdName, q_gnil, q_gcons, q_gtup, dVar, dOwn, dC, d1, d2, n2, nCons, nNil, nLst, dTup, dFr, dTest, dAnd, dOr, dNot, dAndV, dOrV, dNotV, dIf, dChain, dCB, nCB, dCall, nCall, aDat, aBag, aNil, q_neg, q_add, q_addl, q_addt, q_sub, q_mul, q_mull, q_mult, q_fdiv, q_mod, q_pow, q_lt, q_le, q_gt, q_ge, eqD, neD, isD, isntD, q_isnn, q_isni, q_isnb, q_isnt, q_isnl, q_lenl, q_lent, q_inti, q_intb, q_max2, q_min2, q_listl, q_listt, q_tuplel, q_tuplet, q_sum, q_min, q_max, allD, itSeq, itR1, q_itR2, q_rng2, q_en, q_en1, q_zip, q_zipQ, q_seqr, q_lenr, q_ixr, q_seql, q_seqt, q_rvd, q_rvn, q_catn, q_ixl, q_ixt, q_sl, q_sll, q_slt, q_slr, nSlL, oNone, oSome, nLc, wipeD, q_dropc, q_dropxd, q_dropxb, q_dropxo, q_dropxn, q_drope, dYes, dCnt, q_revl, q_revt, q_revr, nListRg, dTupRg, exInts, exOpt, q_addr1, q_addrr, q_ixk0, q_ixk1, exRow, exTk, cntL, cntQ_some, cntQ_none, List.getElem?_cons_zero, List.getElem?_cons_succ, List.getElem?_nil, Option.some.injEq, SV.dat.injEq, SV.own.injEq, PyData.int.injEq, PyData.bool.injEq, PyData.tuple.injEq, PyData.list.injEq, PyData.str.injEq, RVd.new.injEq, RVd.dat.injEq, exists_eq_left, exists_eq_left', exists_eq_right, List.cons.injEq, List.set_cons_zero, List.set_cons_succ, reduceCtorEq, and_true, true_and, false_and, and_false, not_true_eq_false, not_false_eq_true, if_true, if_false, ite_true, ite_false, decide_eq_true_eq, Bool.not_eq_true', decide_eq_false_iff_not, Bool.and_true, Bool.true_and, Bool.and_false, Bool.false_and, Bool.not_true, Bool.not_false, Bool.false_eq_true, List.map_cons, List.map_nil, List.length_cons, List.length_nil, Nat.zero_add, Nat.reduceAdd, Nat.reduceLeDiff, startd, List.replicate_succ, List.replicate_zero, List.nil_append, List.cons_append, Nat.reduceSub, exists_const, and_self, shp_int, shp_none, shp_bool, eqv_int, dForL_nil, lcL_nil]
def spL_parted (svs : List SV) : Prop := ∃ d1 d2 d3, svs = [d1, d2, d3] ∧ spx_parted [d1, d2]
theorem lenL_parted {C : Value} (vs : List V) (H : Hp) (Q : VK) (E : XK) (h : liftX C spL_parted vs H Q E) : vs.length = 3 := by
  obtain ⟨_, _, _, _, r, _, ⟨_, _, _, rfl, _⟩, _⟩ := h
  exact pairedLen r
theorem rdL_parted {C : Value} {H : Hp} {E : XK} (vs : List V) (Q : VK) (h : liftX C spL_parted vs H Q E) : tCall (liftX C spx_parted) [] E (tCons (tVar 0) (tCons (tVar 1) tNil)) (L2.start ["a", "b", "c"] vs) H Q := by
  obtain ⟨F, fp, svs, e, r, hb, ⟨d1, d2, d3, rfl, hd⟩, k⟩ := h
  cases r with
  | cons r1 r =>
    cases r with
    | cons r2 r =>
      cases r with
      | cons r3 r =>
        cases r
        exact ⟨_, rfl, _, rfl, F, fp, [d1, d2], e, .cons r1 (.cons r2 .nil), hb, hd, k⟩
def sp_law_near : DSp
  | [.bag, .dat d], R => ∃ xs, d = rowD xs ∧ RowOk xs ∧ ∀ ys, RowOk ys → ys.length = xs.length → R (.dat (rowD ys))
  | _, _ => False
/-- _law_near: 0 bag, 1 house, 2 at, 3 every, 4 counted, 5 some, 6 other -/
abbrev b_law_near : DS := (dSeq (dIfS (dTest (d2 eqD (dVar 1) (dTup nNil))) (dRet (dVar 1)) dNext)
  (dSeq (dAsgG (dCall sp_law_take (aBag 0 (aDat (dCB lenD (nCons (dVar 1) nNil)) aNil))) (gdName 2))
  (dSeq (dAsgG (d2 ixD (dVar 1) (dVar 2)) (gdTup 2 (gdCons (gdName 3) (gdCons (gdName 4) gdNil))))
  (dSeq (dAsgG (dFr (nLst (nCons (dTup (nCons (dVar 3) (nCons (dCall sp_law_take (aBag 0 (aDat (dVar 3) aNil))) nNil))) (nCons (dTup (nCons (dCB min2D (nCons (dC (.int 1000)) (nCons (d2 addD (dVar 3) (dC (.int 1))) nNil))) (nCons (dVar 4) nNil))) nNil)))) (gdName 5))
  (dSeq (dAsgG (d2 addD (dVar 5) (dFr (nLst (nCons (dCall sp_law_taker (aBag 0 (aDat (dC (.int 60)) aNil))) (nCons (dTup (nCons (dVar 3) (nCons (dVar 4) nNil))) nNil))))) (gdName 5))
  (dSeq (dAsgG (d2 addD (d2 addD (dSl (dVar 1) oNone (oSome (dVar 2))) (dTup (nCons (d2 ixD (dVar 5) (dCall sp_law_take (aBag 0 (aDat (dC (.int 4)) aNil)))) nNil))) (dSl (dVar 1) (oSome (d2 addD (dVar 2) (dC (.int 1)))) oNone)) (gdName 6))
  (dRet (d2 ixD (dFr (nLst (nCons (dVar 6) (nCons (dVar 6) (nCons (d1 revD (dVar 1)) nNil))))) (dCall sp_law_take (aBag 0 (aDat (dC (.int 3)) aNil)))))))))))
theorem pickN4 {a b c d : Int × Int} {r : Int} (P : Int × Int → Prop) (h0 : 0 ≤ r) (h3 : r < 4) (ha : P a) (hb : P b) (hc : P c) (hd : P d) : ∃ z, atI [tkD a, tkD b, tkD c, tkD d] r = some (tkD z) ∧ P z := by
  have : r = 0 ∨ r = 1 ∨ r = 2 ∨ r = 3 := by omega
  rcases this with rfl | rfl | rfl | rfl
  · exact ⟨a, at0, ha⟩
  · exact ⟨b, at1, hb⟩
  · exact ⟨c, atI_nat (j := 2) rfl, hc⟩
  · exact ⟨d, atI_nat (j := 3) rfl, hd⟩
theorem near_ok {xs : List (Int × Int)} (ok : RowOk xs) {k : Nat} (hk : k < xs.length) {t : Int × Int} (ht : TkOk t) : RowOk (xs.take k ++ [t] ++ xs.drop (k + 1)) ∧ (xs.take k ++ [t] ++ xs.drop (k + 1)).length = xs.length := by
  have hl : (xs.take k ++ [t] ++ xs.drop (k + 1)).length = xs.length := by
    simp only [List.length_append, List.length_take, List.length_drop, List.length_cons, List.length_nil]
    omega
  refine ⟨⟨by rw [hl]; exact ok.1, fun u hu => ?_⟩, hl⟩
  rcases List.mem_append.mp hu with z | z
  · rcases List.mem_append.mp z with z | z
    · exact ok.2 u (List.mem_of_mem_take z)
    · have : u = t := by simpa using z
      rw [this]
      exact ht
  · exact ok.2 u (List.mem_of_mem_drop z)
theorem rd_law_near (svs : List SV) (R : RVd → Prop) (h : sp_law_near svs R) : b_law_near { nx := fun _ => R (.dat .none), rt := R } (startd 7 svs) := by
  unfold sp_law_near at h
  split at h
  · obtain ⟨xs, rfl, ok, h⟩ := h
    have h8 := ok.1
    by_cases hne : xs = []
    · simp only [b_law_near, shp_row, show SeqAt.shaped (.tuple []) = true from shp_row [], show PyData.eqv (rowD xs) (.tuple []) = decide (xs = []) from eqv_row xs [], hne, decide_true, dSeq, dAsgG, dAsgN, dRet, dRetN, dRetO, dRet0, dDrop, dIfS, dNext, dApp, dInsert, q_setI, q_setQ, q_take, dFor, dFreeze, dNever, q_par, q_parQ, q_par3, q_parQ3, dParNE, dParDE, gdName, q_gnil, q_gcons, q_gtup, dVar, dOwn, dC, d1, d2, n2, nCons, nNil, nLst, dTup, dFr, dTest, dAnd, dOr, dNot, dAndV, dOrV, dNotV, dIf, dChain, dCB, nCB, dCall, nCall, aDat, aBag, aNil, q_neg, q_add, q_addl, q_addt, q_sub, q_mul, q_mull, q_mult, q_fdiv, q_mod, q_pow, q_lt, q_le, q_gt, q_ge, eqD, neD, isD, isntD, q_isnn, q_isni, q_isnb, q_isnt, q_isnl, q_lenl, q_lent, q_inti, q_intb, q_max2, q_min2, q_listl, q_listt, q_tuplel, q_tuplet, q_sum, q_min, q_max, allD, itSeq, itR1, q_itR2, q_rng2, q_en, q_en1, q_zip, q_zipQ, q_seqr, q_lenr, q_ixr, q_seql, q_seqt, q_rvd, q_rvn, q_catn, q_ixl, q_ixt, q_sl, q_sll, q_slt, q_slr, nSlL, oNone, oSome, nLc, wipeD, q_dropc, q_dropxd, q_dropxb, q_dropxo, q_dropxn, q_drope, dYes, dCnt, q_revl, q_revt, q_revr, nListRg, dTupRg, exInts, exOpt, q_addr1, q_addrr, q_ixk0, q_ixk1, exRow, exTk, cntL, cntQ_some, cntQ_none, List.getElem?_cons_zero, List.getElem?_cons_succ, List.getElem?_nil, Option.some.injEq, SV.dat.injEq, SV.own.injEq, PyData.int.injEq, PyData.bool.injEq, PyData.tuple.injEq, PyData.list.injEq, PyData.str.injEq, RVd.new.injEq, RVd.dat.injEq, exists_eq_left, exists_eq_left', exists_eq_right, List.cons.injEq, List.set_cons_zero, List.set_cons_succ, reduceCtorEq, and_true, true_and, false_and, and_false, not_true_eq_false, not_false_eq_true, if_true, if_false, ite_true, ite_false, decide_eq_true_eq, Bool.not_eq_true', decide_eq_false_iff_not, Bool.and_true, Bool.true_and, Bool.and_false, Bool.false_and, Bool.not_true, Bool.not_false, Bool.false_eq_true, List.map_cons, List.map_nil, List.length_cons, List.length_nil, Nat.zero_add, Nat.reduceAdd, Nat.reduceLeDiff, startd, List.replicate_succ, List.replicate_zero, List.nil_append, List.cons_append, Nat.reduceSub, exists_const, and_self, shp_int, shp_none, shp_bool, eqv_int, dForL_nil, lcL_nil]
      have := h xs ok rfl
      rw [hne] at this
      exact this
    · have hl : 0 < xs.length := List.length_pos_iff.mpr hne
      have hl' : (0 : Int) < (xs.length : Int) := by omega
      simp only [b_law_near, shp_row, show SeqAt.shaped (.tuple []) = true from shp_row [], show PyData.eqv (rowD xs) (.tuple []) = decide (xs = []) from eqv_row xs [], hne, decide_false, hl', dSeq, dAsgG, dAsgN, dRet, dRetN, dRetO, dRet0, dDrop, dIfS, dNext, dApp, dInsert, q_setI, q_setQ, q_take, dFor, dFreeze, dNever, q_par, q_parQ, q_par3, q_parQ3, dParNE, dParDE, gdName, q_gnil, q_gcons, q_gtup, dVar, dOwn, dC, d1, d2, n2, nCons, nNil, nLst, dTup, dFr, dTest, dAnd, dOr, dNot, dAndV, dOrV, dNotV, dIf, dChain, dCB, nCB, dCall, nCall, aDat, aBag, aNil, q_neg, q_add, q_addl, q_addt, q_sub, q_mul, q_mull, q_mult, q_fdiv, q_mod, q_pow, q_lt, q_le, q_gt, q_ge, eqD, neD, isD, isntD, q_isnn, q_isni, q_isnb, q_isnt, q_isnl, q_lenl, q_lent, q_inti, q_intb, q_max2, q_min2, q_listl, q_listt, q_tuplel, q_tuplet, q_sum, q_min, q_max, allD, itSeq, itR1, q_itR2, q_rng2, q_en, q_en1, q_zip, q_zipQ, q_seqr, q_lenr, q_ixr, q_seql, q_seqt, q_rvd, q_rvn, q_catn, q_ixl, q_ixt, q_sl, q_sll, q_slt, q_slr, nSlL, oNone, oSome, nLc, wipeD, q_dropc, q_dropxd, q_dropxb, q_dropxo, q_dropxn, q_drope, dYes, dCnt, q_revl, q_revt, q_revr, nListRg, dTupRg, exInts, exOpt, q_addr1, q_addrr, q_ixk0, q_ixk1, exRow, exTk, cntL, cntQ_some, cntQ_none, List.getElem?_cons_zero, List.getElem?_cons_succ, List.getElem?_nil, Option.some.injEq, SV.dat.injEq, SV.own.injEq, PyData.int.injEq, PyData.bool.injEq, PyData.tuple.injEq, PyData.list.injEq, PyData.str.injEq, RVd.new.injEq, RVd.dat.injEq, exists_eq_left, exists_eq_left', exists_eq_right, List.cons.injEq, List.set_cons_zero, List.set_cons_succ, reduceCtorEq, and_true, true_and, false_and, and_false, not_true_eq_false, not_false_eq_true, if_true, if_false, ite_true, ite_false, decide_eq_true_eq, Bool.not_eq_true', decide_eq_false_iff_not, Bool.and_true, Bool.true_and, Bool.and_false, Bool.false_and, Bool.not_true, Bool.not_false, Bool.false_eq_true, List.map_cons, List.map_nil, List.length_cons, List.length_nil, Nat.zero_add, Nat.reduceAdd, Nat.reduceLeDiff, startd, List.replicate_succ, List.replicate_zero, List.nil_append, List.cons_append, Nat.reduceSub, exists_const, and_self, shp_int, shp_none, shp_bool, eqv_int, dForL_nil, lcL_nil]
      intro a a0 a1
      obtain ⟨k, rfl⟩ : ∃ k : Nat, a = (k : Int) := ⟨a.toNat, by omega⟩
      have hk : k < xs.length := by omega
      obtain ⟨t, et⟩ : ∃ t, xs[k]? = some t := ⟨_, List.getElem?_eq_getElem hk⟩
      have htk := ok.2 t (List.mem_of_getElem? et)
      obtain ⟨t1, t2, t3, t4⟩ := id htk
      have ea : atI (xs.map tkD) (k : Int) = some (tkD t) := atI_nat (by rw [List.getElem?_map, et]; rfl)
      have e0 : 0 < t.1 := by omega
      simp only [ea, tkD, e0, sp_law_taker, dSeq, dAsgG, dAsgN, dRet, dRetN, dRetO, dRet0, dDrop, dIfS, dNext, dApp, dInsert, q_setI, q_setQ, q_take, dFor, dFreeze, dNever, q_par, q_parQ, q_par3, q_parQ3, dParNE, dParDE, gdName, q_gnil, q_gcons, q_gtup, dVar, dOwn, dC, d1, d2, n2, nCons, nNil, nLst, dTup, dFr, dTest, dAnd, dOr, dNot, dAndV, dOrV, dNotV, dIf, dChain, dCB, nCB, dCall, nCall, aDat, aBag, aNil, q_neg, q_add, q_addl, q_addt, q_sub, q_mul, q_mull, q_mult, q_fdiv, q_mod, q_pow, q_lt, q_le, q_gt, q_ge, eqD, neD, isD, isntD, q_isnn, q_isni, q_isnb, q_isnt, q_isnl, q_lenl, q_lent, q_inti, q_intb, q_max2, q_min2, q_listl, q_listt, q_tuplel, q_tuplet, q_sum, q_min, q_max, allD, itSeq, itR1, q_itR2, q_rng2, q_en, q_en1, q_zip, q_zipQ, q_seqr, q_lenr, q_ixr, q_seql, q_seqt, q_rvd, q_rvn, q_catn, q_ixl, q_ixt, q_sl, q_sll, q_slt, q_slr, nSlL, oNone, oSome, nLc, wipeD, q_dropc, q_dropxd, q_dropxb, q_dropxo, q_dropxn, q_drope, dYes, dCnt, q_revl, q_revt, q_revr, nListRg, dTupRg, exInts, exOpt, q_addr1, q_addrr, q_ixk0, q_ixk1, exRow, exTk, cntL, cntQ_some, cntQ_none, List.getElem?_cons_zero, List.getElem?_cons_succ, List.getElem?_nil, Option.some.injEq, SV.dat.injEq, SV.own.injEq, PyData.int.injEq, PyData.bool.injEq, PyData.tuple.injEq, PyData.list.injEq, PyData.str.injEq, RVd.new.injEq, RVd.dat.injEq, exists_eq_left, exists_eq_left', exists_eq_right, List.cons.injEq, List.set_cons_zero, List.set_cons_succ, reduceCtorEq, and_true, true_and, false_and, and_false, not_true_eq_false, not_false_eq_true, if_true, if_false, ite_true, ite_false, decide_eq_true_eq, Bool.not_eq_true', decide_eq_false_iff_not, Bool.and_true, Bool.true_and, Bool.and_false, Bool.false_and, Bool.not_true, Bool.not_false, Bool.false_eq_true, List.map_cons, List.map_nil, List.length_cons, List.length_nil, Nat.zero_add, Nat.reduceAdd, Nat.reduceLeDiff, startd, List.replicate_succ, List.replicate_zero, List.nil_append, List.cons_append, Nat.reduceSub, exists_const, and_self, shp_int, shp_none, shp_bool, eqv_int, dForL_nil, lcL_nil]
      have ec : (k : Int) + 1 = ((k + 1 : Nat) : Int) := by omega
      have tail : ∀ z : Int × Int, TkOk z → (xs.take k).length ≤ 999999 ∧ (xs.take k ++ [z]).length + (xs.drop (k + 1)).length ≤ 1000000 := fun z hz => by
        rw [List.length_append, List.length_take, List.length_drop, List.length_singleton]
        exact ⟨by omega, by omega⟩
      have rev : RowOk xs.reverse ∧ xs.reverse.length = xs.length := ⟨⟨by rw [List.length_reverse]; exact h8, fun u hu => ok.2 u (List.mem_reverse.mp hu)⟩, List.length_reverse⟩
      intro c c0 c1
      refine ⟨by decide, fun e c' e2 e3 c2 c3 => ⟨by decide, fun r r0 r1 => ?_⟩⟩
      obtain ⟨z, hz, hp⟩ := pickN4 (a := (t.1, c)) (b := (min 1000 (t.1 + 1), t.2)) (c := (e, c')) (d := (t.1, t.2)) TkOk r0 r1 ⟨t1, t2, c0, c1⟩ ⟨by dsimp only; omega, by dsimp only; omega, t3, by dsimp only; omega⟩ ⟨e2, by dsimp only; omega, c2, c3⟩ htk
      refine ⟨tkD z, hz, ?_⟩
      obtain ⟨o1, o2⟩ := near_ok ok hk hp
      have tl := tail z hp
      simp only [ec, cutG_to, cutG_from, dSeq, dAsgG, dAsgN, dRet, dRetN, dRetO, dRet0, dDrop, dIfS, dNext, dApp, dInsert, q_setI, q_setQ, q_take, dFor, dFreeze, dNever, q_par, q_parQ, q_par3, q_parQ3, dParNE, dParDE, gdName, q_gnil, q_gcons, q_gtup, dVar, dOwn, dC, d1, d2, n2, nCons, nNil, nLst, dTup, dFr, dTest, dAnd, dOr, dNot, dAndV, dOrV, dNotV, dIf, dChain, dCB, nCB, dCall, nCall, aDat, aBag, aNil, q_neg, q_add, q_addl, q_addt, q_sub, q_mul, q_mull, q_mult, q_fdiv, q_mod, q_pow, q_lt, q_le, q_gt, q_ge, eqD, neD, isD, isntD, q_isnn, q_isni, q_isnb, q_isnt, q_isnl, q_lenl, q_lent, q_inti, q_intb, q_max2, q_min2, q_listl, q_listt, q_tuplel, q_tuplet, q_sum, q_min, q_max, allD, itSeq, itR1, q_itR2, q_rng2, q_en, q_en1, q_zip, q_zipQ, q_seqr, q_lenr, q_ixr, q_seql, q_seqt, q_rvd, q_rvn, q_catn, q_ixl, q_ixt, q_sl, q_sll, q_slt, q_slr, nSlL, oNone, oSome, nLc, wipeD, q_dropc, q_dropxd, q_dropxb, q_dropxo, q_dropxn, q_drope, dYes, dCnt, q_revl, q_revt, q_revr, nListRg, dTupRg, exInts, exOpt, q_addr1, q_addrr, q_ixk0, q_ixk1, exRow, exTk, cntL, cntQ_some, cntQ_none, List.getElem?_cons_zero, List.getElem?_cons_succ, List.getElem?_nil, Option.some.injEq, SV.dat.injEq, SV.own.injEq, PyData.int.injEq, PyData.bool.injEq, PyData.tuple.injEq, PyData.list.injEq, PyData.str.injEq, RVd.new.injEq, RVd.dat.injEq, exists_eq_left, exists_eq_left', exists_eq_right, List.cons.injEq, List.set_cons_zero, List.set_cons_succ, reduceCtorEq, and_true, true_and, false_and, and_false, not_true_eq_false, not_false_eq_true, if_true, if_false, ite_true, ite_false, decide_eq_true_eq, Bool.not_eq_true', decide_eq_false_iff_not, Bool.and_true, Bool.true_and, Bool.and_false, Bool.false_and, Bool.not_true, Bool.not_false, Bool.false_eq_true, List.map_cons, List.map_nil, List.length_cons, List.length_nil, Nat.zero_add, Nat.reduceAdd, Nat.reduceLeDiff, startd, List.replicate_succ, List.replicate_zero, List.nil_append, List.cons_append, Nat.reduceSub, exists_const, and_self, shp_int, shp_none, shp_bool, eqv_int, dForL_nil, lcL_nil]
      refine ⟨tl.1, tl.2, by decide, fun r r0 r1 => ?_⟩
      have : r = 0 ∨ r = 1 ∨ r = 2 := by omega
      rcases this with rfl | rfl | rfl
      · exact ⟨_, at0, h _ o1 o2⟩
      · exact ⟨_, at1, h _ o1 o2⟩
      · exact ⟨_, atI_nat (j := 2) rfl, h _ rev.1 rev.2⟩
  · exact h.elim
theorem len_law_near (svs : List SV) (R : RVd → Prop) (h : sp_law_near svs R) : svs.length = 2 := by
  unfold sp_law_near at h
  split at h
  · rfl
  · exact h.elim
end Pd

set_option maxRecDepth 100000
set_option maxHeartbeats 4000000
namespace Pd
open PySem L2
abbrev b_law_loop (P : Addr) (q : Str) : DS := (dSeq (dAsgG (dCall sp_law_drawn_row (aBag 1 (aDat (dC (.int 6)) (aDat (d2 ixD (dFr (nLst (nCons (dC (.int 6)) (nCons (dC (.int 60)) nNil)))) (dCall sp_law_take (aBag 1 (aDat (dC (.int 2)) aNil)))) aNil)))) (gdName 2))
  (dSeq (dAsgG (d2 ixD (dCall sp_law_gone (aDat (dVar 2) (aDat (dC (.int 600)) aNil))) (dC (.int 0))) (gdName 3))
  (dSeq (dFor (itR1 (nCons (dC (.int 4)) nNil)) (gdName 4)
  (dSeq (dAsgG (dCall sp_law_near (aBag 1 (aDat (dVar 2) aNil))) (gdName 5))
  (dSeq (dAsgG (d2 ixD (dCall sp_law_gone (aDat (dVar 5) (aDat (dC (.int 600)) aNil))) (dC (.int 0))) (gdName 6))
  (dSeq (dAsgG (dFr (nLc (itR1 (nCons (dC (.int 600)) nNil)) (gdName 9) (dTest (d2 neD (d2 ixD (dVar 3) (dVar 9)) (d2 ixD (dVar 6) (dVar 9)))) (d2 addD (dVar 9) (dC (.int 1))) [9])) (gdName 7))
  (dSeq (dAsgG (dCall sp_parted (aDat (dVar 2) (aDat (dVar 5) aNil))) (gdName 8))
  (dSeq (dIfS (dOr (dTest (d2 neD (dCall sp_parted (aDat (dVar 5) (aDat (dVar 2) aNil))) (dVar 8))) (dTest (d2 neD (d2 isD (dVar 8) (dC .none)) (d2 eqD (dVar 2) (dVar 5))))) (dRet (dC (.bool false))) dNext)
  (dIfS (dOr (dAnd (dTest (d2 neD (dVar 7) (dFr (nLst nNil)))) (dTest (d2 neD (dVar 8) (d2 ixD (dVar 7) (dC (.int 0)))))) (dAnd (dTest (d2 eqD (dVar 7) (dFr (nLst nNil)))) (dAnd (dTest (d2 isntD (dVar 8) (dC .none))) (dTest (d2 leD (dVar 8) (dC (.int 600))))))) (dRet (dC (.bool false))) dNext)))))))
  (dSeq (dIfS (dTest (d2 isntD (dCall sp_parted (aDat (dVar 2) (aDat (dVar 2) aNil))) (dC .none))) (dRet (dC (.bool false))) dNext)
  (dIfS (dTest (d2 neD (dFr (nRef spL_parted P q "Unlike" (aDat (dVar 2) (aDat (d2 addD (dVar 2) (dTup (nCons (dTup (nCons (dC (.int 2)) (nCons (dC (.int 0)) nNil))) nNil))) (aDat (dC (.int 0)) aNil))))) (dFr (nLst (nCons (dC (.str (Str.ofString "Unlike"))) (nCons (dC (.bool true)) nNil)))))) (dRet (dC (.bool false))) dNext)))))
abbrev b_law_rest : DS := (dRet (dAndV (d2 eqD (dCall sp_parted (aDat (dTup (nCons (dTup (nCons (dC (.int 2)) (nCons (dC (.int 0)) nNil))) (nCons (dTup (nCons (dC (.int 3)) (nCons (dC (.int 0)) nNil))) nNil))) (aDat (dTup (nCons (dTup (nCons (dC (.int 2)) (nCons (dC (.int 0)) nNil))) (nCons (dTup (nCons (dC (.int 3)) (nCons (dC (.int 1)) nNil))) nNil))) aNil))) (dC (.int 3))) (d2 isD (dCall sp_parted (aDat (dTup nNil) (aDat (dTup nNil) aNil))) (dC .none))))
theorem first_le {xs ys : List (Int × Int)} {o : Option Int} (h : FirstD xs ys o) : ∀ q, 1 ≤ q → whoG 0 xs q ≠ whoG 0 ys q → ∃ r, o = some r ∧ r ≤ q := fun q q1 hq => by
  cases o with
  | none =>
    have h : xs = ys := h
    rw [h] at hq
    exact absurd rfl hq
  | some p =>
    refine ⟨p, rfl, ?_⟩
    rcases Int.lt_or_le q p with z | z
    · exact absurd (h.2.1 q q1 z 0) hq
    · exact z
theorem FirstD.symm {xs ys : List (Int × Int)} {o : Option Int} (h : FirstD xs ys o) : FirstD ys xs o := by
  cases o with
  | none => exact (show xs = ys from h).symm
  | some p => exact ⟨h.1, fun q q1 q2 k => (h.2.1 q q1 q2 k).symm, fun k z => h.2.2 k z.symm⟩
theorem first_uniq {xs ys : List (Int × Int)} {a b : Option Int} (ha : FirstD xs ys a) (hb : FirstD xs ys b) : a = b := by
  cases a with
  | none =>
    have e : xs = ys := ha
    exact ((firstD_none hb).mpr e).symm
  | some p =>
    obtain ⟨r, rfl, h1⟩ := first_le hb p ha.1 (ha.2.2 0)
    obtain ⟨r', e, h2⟩ := first_le ha r hb.1 (hb.2.2 0)
    cases e
    rw [show p = r by omega]
/-- where two rows are seen otherwise -/
def unl (xs ys : List (Int × Int)) (is : List Nat) : List Nat := is.filter fun i => decide (¬ whoG 0 xs ((i : Nat) + 1) = whoG 0 ys ((i : Nat) + 1))
theorem at_seen (rs : List (Int × Int)) {m i : Nat} (h : i < m) : atI ((seenF rs 0 m).map optD) (i : Int) = some (optD (whoG 0 rs ((i : Nat) + 1))) := by
  refine atI_nat ?_
  rw [List.getElem?_map, seenF_get rs m 0 i h]
  show some (optD (whoG 0 rs (0 + 1 + (i : Nat)))) = _
  rw [show (0 : Int) + 1 + (i : Nat) = (i : Nat) + 1 by omega]
theorem lc_unl {xs ys : List (Int × Int)} {y0 y1 y2 y4 y5 y7 y8 y9 : Option SV} : ∀ (is : List Nat) (Q : List PyData → Prop), (∀ i ∈ is, i < 600) →
    lcL (gdName 9) (dTest (d2 neD (d2 ixD (dVar 3) (dVar 9)) (d2 ixD (dVar 6) (dVar 9)))) (d2 addD (dVar 9) (dC (.int 1))) [y0, y1, y2, some (.dat (.list ((seenF xs 0 600).map optD))), y4, y5, some (.dat (.list ((seenF ys 0 600).map optD))), y7, y8, y9] (is.map fun i => .int (0 + (i : Nat))) Q
      = Q (((unl xs ys is).map fun i => ((i : Nat) : Int) + 1).map .int)
  | [], Q, _ => rfl
  | i :: is, Q, h => by
    have hi := h i List.mem_cons_self
    have ih := fun Q => lc_unl (xs := xs) (ys := ys) (y0 := y0) (y1 := y1) (y2 := y2) (y4 := y4) (y5 := y5) (y7 := y7) (y8 := y8) (y9 := y9) is Q fun j hj => h j (List.mem_cons_of_mem _ hj)
    rw [List.map_cons, lcL_cons]
    generalize lcL (gdName 9) (dTest (d2 neD (d2 ixD (dVar 3) (dVar 9)) (d2 ixD (dVar 6) (dVar 9)))) (d2 addD (dVar 9) (dC (.int 1))) [y0, y1, y2, some (.dat (.list ((seenF xs 0 600).map optD))), y4, y5, some (.dat (.list ((seenF ys 0 600).map optD))), y7, y8, y9] (is.map fun i => .int (0 + (i : Nat))) = L at *
    simp only [Int.zero_add, at_seen xs hi, at_seen ys hi, shp_opt, eqv_opt, dSeq, dAsgG, dAsgN, dRet, dRetN, dRetO, dRet0, dDrop, dIfS, dNext, dApp, dInsert, q_setI, q_setQ, q_take, dFor, dFreeze, dNever, q_par, q_parQ, q_par3, q_parQ3, dParNE, dParDE, gdName, q_gnil, q_gcons, q_gtup, dVar, dOwn, dC, d1, d2, n2, nCons, nNil, nLst, dTup, dFr, dTest, dAnd, dOr, dNot, dAndV, dOrV, dNotV, dIf, dChain, dCB, nCB, dCall, nCall, aDat, aBag, aNil, q_neg, q_add, q_addl, q_addt, q_sub, q_mul, q_mull, q_mult, q_fdiv, q_mod, q_pow, q_lt, q_le, q_gt, q_ge, eqD, neD, isD, isntD, q_isnn, q_isni, q_isnb, q_isnt, q_isnl, q_lenl, q_lent, q_inti, q_intb, q_max2, q_min2, q_listl, q_listt, q_tuplel, q_tuplet, q_sum, q_min, q_max, allD, itSeq, itR1, q_itR2, q_rng2, q_en, q_en1, q_zip, q_zipQ, q_seqr, q_lenr, q_ixr, q_seql, q_seqt, q_rvd, q_rvn, q_catn, q_ixl, q_ixt, q_sl, q_sll, q_slt, q_slr, nSlL, oNone, oSome, nLc, wipeD, q_dropc, q_dropxd, q_dropxb, q_dropxo, q_dropxn, q_drope, dYes, dCnt, q_revl, q_revt, q_revr, nListRg, dTupRg, exInts, exOpt, q_addr1, q_addrr, q_ixk0, q_ixk1, exRow, exTk, cntL, cntQ_some, cntQ_none, List.getElem?_cons_zero, List.getElem?_cons_succ, List.getElem?_nil, Option.some.injEq, SV.dat.injEq, SV.own.injEq, PyData.int.injEq, PyData.bool.injEq, PyData.tuple.injEq, PyData.list.injEq, PyData.str.injEq, RVd.new.injEq, RVd.dat.injEq, exists_eq_left, exists_eq_left', exists_eq_right, List.cons.injEq, List.set_cons_zero, List.set_cons_succ, reduceCtorEq, and_true, true_and, false_and, and_false, not_true_eq_false, not_false_eq_true, if_true, if_false, ite_true, ite_false, decide_eq_true_eq, Bool.not_eq_true', decide_eq_false_iff_not, Bool.and_true, Bool.true_and, Bool.and_false, Bool.false_and, Bool.not_true, Bool.not_false, Bool.false_eq_true, List.map_cons, List.map_nil, List.length_cons, List.length_nil, Nat.zero_add, Nat.reduceAdd, Nat.reduceLeDiff, startd, List.replicate_succ, List.replicate_zero, List.nil_append, List.cons_append, Nat.reduceSub, exists_const, and_self, shp_int, shp_none, shp_bool, eqv_int, dForL_nil, lcL_nil]
    unfold unl
    by_cases z : whoG 0 xs ((i : Nat) + 1) = whoG 0 ys ((i : Nat) + 1)
    · rw [List.filter_cons_of_neg (by simpa using z)]
      simp only [z, decide_true, dSeq, dAsgG, dAsgN, dRet, dRetN, dRetO, dRet0, dDrop, dIfS, dNext, dApp, dInsert, q_setI, q_setQ, q_take, dFor, dFreeze, dNever, q_par, q_parQ, q_par3, q_parQ3, dParNE, dParDE, gdName, q_gnil, q_gcons, q_gtup, dVar, dOwn, dC, d1, d2, n2, nCons, nNil, nLst, dTup, dFr, dTest, dAnd, dOr, dNot, dAndV, dOrV, dNotV, dIf, dChain, dCB, nCB, dCall, nCall, aDat, aBag, aNil, q_neg, q_add, q_addl, q_addt, q_sub, q_mul, q_mull, q_mult, q_fdiv, q_mod, q_pow, q_lt, q_le, q_gt, q_ge, eqD, neD, isD, isntD, q_isnn, q_isni, q_isnb, q_isnt, q_isnl, q_lenl, q_lent, q_inti, q_intb, q_max2, q_min2, q_listl, q_listt, q_tuplel, q_tuplet, q_sum, q_min, q_max, allD, itSeq, itR1, q_itR2, q_rng2, q_en, q_en1, q_zip, q_zipQ, q_seqr, q_lenr, q_ixr, q_seql, q_seqt, q_rvd, q_rvn, q_catn, q_ixl, q_ixt, q_sl, q_sll, q_slt, q_slr, nSlL, oNone, oSome, nLc, wipeD, q_dropc, q_dropxd, q_dropxb, q_dropxo, q_dropxn, q_drope, dYes, dCnt, q_revl, q_revt, q_revr, nListRg, dTupRg, exInts, exOpt, q_addr1, q_addrr, q_ixk0, q_ixk1, exRow, exTk, cntL, cntQ_some, cntQ_none, List.getElem?_cons_zero, List.getElem?_cons_succ, List.getElem?_nil, Option.some.injEq, SV.dat.injEq, SV.own.injEq, PyData.int.injEq, PyData.bool.injEq, PyData.tuple.injEq, PyData.list.injEq, PyData.str.injEq, RVd.new.injEq, RVd.dat.injEq, exists_eq_left, exists_eq_left', exists_eq_right, List.cons.injEq, List.set_cons_zero, List.set_cons_succ, reduceCtorEq, and_true, true_and, false_and, and_false, not_true_eq_false, not_false_eq_true, if_true, if_false, ite_true, ite_false, decide_eq_true_eq, Bool.not_eq_true', decide_eq_false_iff_not, Bool.and_true, Bool.true_and, Bool.and_false, Bool.false_and, Bool.not_true, Bool.not_false, Bool.false_eq_true, List.map_cons, List.map_nil, List.length_cons, List.length_nil, Nat.zero_add, Nat.reduceAdd, Nat.reduceLeDiff, startd, List.replicate_succ, List.replicate_zero, List.nil_append, List.cons_append, Nat.reduceSub, exists_const, and_self, shp_int, shp_none, shp_bool, eqv_int, dForL_nil, lcL_nil]
      exact ih Q
    · rw [List.filter_cons_of_pos (by simpa using z)]
      simp only [z, decide_false, dSeq, dAsgG, dAsgN, dRet, dRetN, dRetO, dRet0, dDrop, dIfS, dNext, dApp, dInsert, q_setI, q_setQ, q_take, dFor, dFreeze, dNever, q_par, q_parQ, q_par3, q_parQ3, dParNE, dParDE, gdName, q_gnil, q_gcons, q_gtup, dVar, dOwn, dC, d1, d2, n2, nCons, nNil, nLst, dTup, dFr, dTest, dAnd, dOr, dNot, dAndV, dOrV, dNotV, dIf, dChain, dCB, nCB, dCall, nCall, aDat, aBag, aNil, q_neg, q_add, q_addl, q_addt, q_sub, q_mul, q_mull, q_mult, q_fdiv, q_mod, q_pow, q_lt, q_le, q_gt, q_ge, eqD, neD, isD, isntD, q_isnn, q_isni, q_isnb, q_isnt, q_isnl, q_lenl, q_lent, q_inti, q_intb, q_max2, q_min2, q_listl, q_listt, q_tuplel, q_tuplet, q_sum, q_min, q_max, allD, itSeq, itR1, q_itR2, q_rng2, q_en, q_en1, q_zip, q_zipQ, q_seqr, q_lenr, q_ixr, q_seql, q_seqt, q_rvd, q_rvn, q_catn, q_ixl, q_ixt, q_sl, q_sll, q_slt, q_slr, nSlL, oNone, oSome, nLc, wipeD, q_dropc, q_dropxd, q_dropxb, q_dropxo, q_dropxn, q_drope, dYes, dCnt, q_revl, q_revt, q_revr, nListRg, dTupRg, exInts, exOpt, q_addr1, q_addrr, q_ixk0, q_ixk1, exRow, exTk, cntL, cntQ_some, cntQ_none, List.getElem?_cons_zero, List.getElem?_cons_succ, List.getElem?_nil, Option.some.injEq, SV.dat.injEq, SV.own.injEq, PyData.int.injEq, PyData.bool.injEq, PyData.tuple.injEq, PyData.list.injEq, PyData.str.injEq, RVd.new.injEq, RVd.dat.injEq, exists_eq_left, exists_eq_left', exists_eq_right, List.cons.injEq, List.set_cons_zero, List.set_cons_succ, reduceCtorEq, and_true, true_and, false_and, and_false, not_true_eq_false, not_false_eq_true, if_true, if_false, ite_true, ite_false, decide_eq_true_eq, Bool.not_eq_true', decide_eq_false_iff_not, Bool.and_true, Bool.true_and, Bool.and_false, Bool.false_and, Bool.not_true, Bool.not_false, Bool.false_eq_true, List.map_cons, List.map_nil, List.length_cons, List.length_nil, Nat.zero_add, Nat.reduceAdd, Nat.reduceLeDiff, startd, List.replicate_succ, List.replicate_zero, List.nil_append, List.cons_append, Nat.reduceSub, exists_const, and_self, shp_int, shp_none, shp_bool, eqv_int, dForL_nil, lcL_nil]
      exact ih _
theorem unl_nil {xs ys : List (Int × Int)} {o : Option Int} (h : FirstD xs ys o) (e : unl xs ys (List.range 600) = []) : ∀ p, o = some p → ¬ p ≤ 600 := fun p hp z => by
  subst hp
  have : (p - 1).toNat ∈ unl xs ys (List.range 600) := by
    unfold unl
    rw [List.mem_filter]
    refine ⟨List.mem_range.mpr (by have := h.1; omega), ?_⟩
    rw [show (((p - 1).toNat : Nat) : Int) + 1 = p by have := h.1; omega]
    simpa using h.2.2 0
  rw [e] at this
  cases this
theorem unl_cons {xs ys : List (Int × Int)} {o : Option Int} {u : Nat} {us : List Nat} (h : FirstD xs ys o) (e : unl xs ys (List.range 600) = u :: us) : o = some ((u : Int) + 1) := by
  have hu : u ∈ unl xs ys (List.range 600) := by rw [e]; exact List.mem_cons_self
  have hu2 := (List.mem_filter.mp hu).2
  have hu3 : ¬ whoG 0 xs ((u : Nat) + 1) = whoG 0 ys ((u : Nat) + 1) := by simpa using hu2
  obtain ⟨r, rfl, hr⟩ := first_le h ((u : Nat) + 1) (by omega) hu3
  have h1 := h.1
  have hlt := List.mem_range.mp (List.mem_filter.mp hu).1
  have hm : (r - 1).toNat ∈ unl xs ys (List.range 600) := by
    unfold unl
    rw [List.mem_filter]
    refine ⟨List.mem_range.mpr (by omega), ?_⟩
    rw [show (((r - 1).toNat : Nat) : Int) + 1 = r by omega]
    simpa using h.2.2 0
  have pw : (unl xs ys (List.range 600)).Pairwise (· < ·) := List.Pairwise.filter _ List.pairwise_lt_range
  rw [e] at hm pw
  rcases List.mem_cons.mp hm with z | z
  · rw [← z, show (((r - 1).toNat : Nat) : Int) + 1 = r by omega]
  · have := (List.pairwise_cons.mp pw).1 _ z
    omega
theorem turn_loop {D : DEnds} {xs : List (Int × Int)} {x0 x9 : Option SV} {g : DG} {tb : DS} (ok : RowOk xs) (hg : g = gdName 4)
    (htb : tb = (dSeq (dAsgG (dCall sp_law_near (aBag 1 (aDat (dVar 2) aNil))) (gdName 5))
  (dSeq (dAsgG (d2 ixD (dCall sp_law_gone (aDat (dVar 5) (aDat (dC (.int 600)) aNil))) (dC (.int 0))) (gdName 6))
  (dSeq (dAsgG (dFr (nLc (itR1 (nCons (dC (.int 600)) nNil)) (gdName 9) (dTest (d2 neD (d2 ixD (dVar 3) (dVar 9)) (d2 ixD (dVar 6) (dVar 9)))) (d2 addD (dVar 9) (dC (.int 1))) [9])) (gdName 7))
  (dSeq (dAsgG (dCall sp_parted (aDat (dVar 2) (aDat (dVar 5) aNil))) (gdName 8))
  (dSeq (dIfS (dOr (dTest (d2 neD (dCall sp_parted (aDat (dVar 5) (aDat (dVar 2) aNil))) (dVar 8))) (dTest (d2 neD (d2 isD (dVar 8) (dC .none)) (d2 eqD (dVar 2) (dVar 5))))) (dRet (dC (.bool false))) dNext)
  (dIfS (dOr (dAnd (dTest (d2 neD (dVar 7) (dFr (nLst nNil)))) (dTest (d2 neD (dVar 8) (d2 ixD (dVar 7) (dC (.int 0)))))) (dAnd (dTest (d2 eqD (dVar 7) (dFr (nLst nNil)))) (dAnd (dTest (d2 isntD (dVar 8) (dC .none))) (dTest (d2 leD (dVar 8) (dC (.int 600))))))) (dRet (dC (.bool false))) dNext))))))) :
    ∀ (ds : List PyData) (x4 x5 x6 x7 x8 : Option SV), (∀ x4 x5 x6 x7 x8, D.nx [x0, some .bag, some (.dat (rowD xs)), some (.dat (.list ((seenF xs 0 600).map optD))), x4, x5, x6, x7, x8, x9]) →
      dForL g tb ds D [x0, some .bag, some (.dat (rowD xs)), some (.dat (.list ((seenF xs 0 600).map optD))), x4, x5, x6, x7, x8, x9]
  | [], x4, x5, x6, x7, x8, h => h x4 x5 x6 x7 x8
  | d :: ds, x4, x5, x6, x7, x8, h => by
    have next : ∀ x4 x5 x6 x7 x8, dForL g tb ds D [x0, some .bag, some (.dat (rowD xs)), some (.dat (.list ((seenF xs 0 600).map optD))), x4, x5, x6, x7, x8, x9] := fun x4 x5 x6 x7 x8 => turn_loop ok hg htb ds x4 x5 x6 x7 x8 h
    rw [dForL_cons]
    generalize dForL g tb ds D = rest at *
    rw [hg, htb]
    clear htb hg
    simp only [sp_law_near, ok, dSeq, dAsgG, dAsgN, dRet, dRetN, dRetO, dRet0, dDrop, dIfS, dNext, dApp, dInsert, q_setI, q_setQ, q_take, dFor, dFreeze, dNever, q_par, q_parQ, q_par3, q_parQ3, dParNE, dParDE, gdName, q_gnil, q_gcons, q_gtup, dVar, dOwn, dC, d1, d2, n2, nCons, nNil, nLst, dTup, dFr, dTest, dAnd, dOr, dNot, dAndV, dOrV, dNotV, dIf, dChain, dCB, nCB, dCall, nCall, aDat, aBag, aNil, q_neg, q_add, q_addl, q_addt, q_sub, q_mul, q_mull, q_mult, q_fdiv, q_mod, q_pow, q_lt, q_le, q_gt, q_ge, eqD, neD, isD, isntD, q_isnn, q_isni, q_isnb, q_isnt, q_isnl, q_lenl, q_lent, q_inti, q_intb, q_max2, q_min2, q_listl, q_listt, q_tuplel, q_tuplet, q_sum, q_min, q_max, allD, itSeq, itR1, q_itR2, q_rng2, q_en, q_en1, q_zip, q_zipQ, q_seqr, q_lenr, q_ixr, q_seql, q_seqt, q_rvd, q_rvn, q_catn, q_ixl, q_ixt, q_sl, q_sll, q_slt, q_slr, nSlL, oNone, oSome, nLc, wipeD, q_dropc, q_dropxd, q_dropxb, q_dropxo, q_dropxn, q_drope, dYes, dCnt, q_revl, q_revt, q_revr, nListRg, dTupRg, exInts, exOpt, q_addr1, q_addrr, q_ixk0, q_ixk1, exRow, exTk, cntL, cntQ_some, cntQ_none, List.getElem?_cons_zero, List.getElem?_cons_succ, List.getElem?_nil, Option.some.injEq, SV.dat.injEq, SV.own.injEq, PyData.int.injEq, PyData.bool.injEq, PyData.tuple.injEq, PyData.list.injEq, PyData.str.injEq, RVd.new.injEq, RVd.dat.injEq, exists_eq_left, exists_eq_left', exists_eq_right, List.cons.injEq, List.set_cons_zero, List.set_cons_succ, reduceCtorEq, and_true, true_and, false_and, and_false, not_true_eq_false, not_false_eq_true, if_true, if_false, ite_true, ite_false, decide_eq_true_eq, Bool.not_eq_true', decide_eq_false_iff_not, Bool.and_true, Bool.true_and, Bool.and_false, Bool.false_and, Bool.not_true, Bool.not_false, Bool.false_eq_true, List.map_cons, List.map_nil, List.length_cons, List.length_nil, Nat.zero_add, Nat.reduceAdd, Nat.reduceLeDiff, startd, List.replicate_succ, List.replicate_zero, List.nil_append, List.cons_append, Nat.reduceSub, exists_const, and_self, shp_int, shp_none, shp_bool, eqv_int, dForL_nil, lcL_nil]
    intro ys oky hy
    simp only [sp_law_gone, oky, gone_eq oky.2, at0, show (600 : Int).toNat = 600 by decide, show (0 : Int) ≤ 600 by decide, show (600 : Int) ≤ 100000 by decide, show -(2 : Int) ^ 62 ≤ 600 by decide, show (600 : Int) < 2 ^ 62 by decide, rngD_len, show 600 ≤ 1000000 by decide, dSeq, dAsgG, dAsgN, dRet, dRetN, dRetO, dRet0, dDrop, dIfS, dNext, dApp, dInsert, q_setI, q_setQ, q_take, dFor, dFreeze, dNever, q_par, q_parQ, q_par3, q_parQ3, dParNE, dParDE, gdName, q_gnil, q_gcons, q_gtup, dVar, dOwn, dC, d1, d2, n2, nCons, nNil, nLst, dTup, dFr, dTest, dAnd, dOr, dNot, dAndV, dOrV, dNotV, dIf, dChain, dCB, nCB, dCall, nCall, aDat, aBag, aNil, q_neg, q_add, q_addl, q_addt, q_sub, q_mul, q_mull, q_mult, q_fdiv, q_mod, q_pow, q_lt, q_le, q_gt, q_ge, eqD, neD, isD, isntD, q_isnn, q_isni, q_isnb, q_isnt, q_isnl, q_lenl, q_lent, q_inti, q_intb, q_max2, q_min2, q_listl, q_listt, q_tuplel, q_tuplet, q_sum, q_min, q_max, allD, itSeq, itR1, q_itR2, q_rng2, q_en, q_en1, q_zip, q_zipQ, q_seqr, q_lenr, q_ixr, q_seql, q_seqt, q_rvd, q_rvn, q_catn, q_ixl, q_ixt, q_sl, q_sll, q_slt, q_slr, nSlL, oNone, oSome, nLc, wipeD, q_dropc, q_dropxd, q_dropxb, q_dropxo, q_dropxn, q_drope, dYes, dCnt, q_revl, q_revt, q_revr, nListRg, dTupRg, exInts, exOpt, q_addr1, q_addrr, q_ixk0, q_ixk1, exRow, exTk, cntL, cntQ_some, cntQ_none, List.getElem?_cons_zero, List.getElem?_cons_succ, List.getElem?_nil, Option.some.injEq, SV.dat.injEq, SV.own.injEq, PyData.int.injEq, PyData.bool.injEq, PyData.tuple.injEq, PyData.list.injEq, PyData.str.injEq, RVd.new.injEq, RVd.dat.injEq, exists_eq_left, exists_eq_left', exists_eq_right, List.cons.injEq, List.set_cons_zero, List.set_cons_succ, reduceCtorEq, and_true, true_and, false_and, and_false, not_true_eq_false, not_false_eq_true, if_true, if_false, ite_true, ite_false, decide_eq_true_eq, Bool.not_eq_true', decide_eq_false_iff_not, Bool.and_true, Bool.true_and, Bool.and_false, Bool.false_and, Bool.not_true, Bool.not_false, Bool.false_eq_true, List.map_cons, List.map_nil, List.length_cons, List.length_nil, Nat.zero_add, Nat.reduceAdd, Nat.reduceLeDiff, startd, List.replicate_succ, List.replicate_zero, List.nil_append, List.cons_append, Nat.reduceSub, exists_const, and_self, shp_int, shp_none, shp_bool, eqv_int, dForL_nil, lcL_nil]
    unfold rngD
    rw [lc_unl (List.range 600) _ fun i hi => List.mem_range.mp hi]
    have hl : xs.length = ys.length := hy.symm
    simp only [sp_parted, ok, oky, hl, dSeq, dAsgG, dAsgN, dRet, dRetN, dRetO, dRet0, dDrop, dIfS, dNext, dApp, dInsert, q_setI, q_setQ, q_take, dFor, dFreeze, dNever, q_par, q_parQ, q_par3, q_parQ3, dParNE, dParDE, gdName, q_gnil, q_gcons, q_gtup, dVar, dOwn, dC, d1, d2, n2, nCons, nNil, nLst, dTup, dFr, dTest, dAnd, dOr, dNot, dAndV, dOrV, dNotV, dIf, dChain, dCB, nCB, dCall, nCall, aDat, aBag, aNil, q_neg, q_add, q_addl, q_addt, q_sub, q_mul, q_mull, q_mult, q_fdiv, q_mod, q_pow, q_lt, q_le, q_gt, q_ge, eqD, neD, isD, isntD, q_isnn, q_isni, q_isnb, q_isnt, q_isnl, q_lenl, q_lent, q_inti, q_intb, q_max2, q_min2, q_listl, q_listt, q_tuplel, q_tuplet, q_sum, q_min, q_max, allD, itSeq, itR1, q_itR2, q_rng2, q_en, q_en1, q_zip, q_zipQ, q_seqr, q_lenr, q_ixr, q_seql, q_seqt, q_rvd, q_rvn, q_catn, q_ixl, q_ixt, q_sl, q_sll, q_slt, q_slr, nSlL, oNone, oSome, nLc, wipeD, q_dropc, q_dropxd, q_dropxb, q_dropxo, q_dropxn, q_drope, dYes, dCnt, q_revl, q_revt, q_revr, nListRg, dTupRg, exInts, exOpt, q_addr1, q_addrr, q_ixk0, q_ixk1, exRow, exTk, cntL, cntQ_some, cntQ_none, List.getElem?_cons_zero, List.getElem?_cons_succ, List.getElem?_nil, Option.some.injEq, SV.dat.injEq, SV.own.injEq, PyData.int.injEq, PyData.bool.injEq, PyData.tuple.injEq, PyData.list.injEq, PyData.str.injEq, RVd.new.injEq, RVd.dat.injEq, exists_eq_left, exists_eq_left', exists_eq_right, List.cons.injEq, List.set_cons_zero, List.set_cons_succ, reduceCtorEq, and_true, true_and, false_and, and_false, not_true_eq_false, not_false_eq_true, if_true, if_false, ite_true, ite_false, decide_eq_true_eq, Bool.not_eq_true', decide_eq_false_iff_not, Bool.and_true, Bool.true_and, Bool.and_false, Bool.false_and, Bool.not_true, Bool.not_false, Bool.false_eq_true, List.map_cons, List.map_nil, List.length_cons, List.length_nil, Nat.zero_add, Nat.reduceAdd, Nat.reduceLeDiff, startd, List.replicate_succ, List.replicate_zero, List.nil_append, List.cons_append, Nat.reduceSub, exists_const, and_self, shp_int, shp_none, shp_bool, eqv_int, dForL_nil, lcL_nil]
    intro o ho o' ho'
    have e : o' = o := first_uniq ho'.symm ho
    subst e
    have hn := firstD_none ho
    have eb : ∀ b : Bool, PyData.eqv (.bool b) (.bool (decide (xs = ys))) = decide (b = decide (xs = ys)) := fun b => by
      cases b <;> by_cases z : xs = ys <;> simp [PyData.eqv, z]
    have e0 : SeqAt.shaped (.list []) = true := shp_ints []
    have e1 : ∀ l : List Int, PyData.eqv (.list (l.map .int)) (.list []) = decide (l = []) := fun l => eqv_ints l []
    cases hu : unl xs ys (List.range 600) with
    | nil =>
      have un := unl_nil ho hu
      cases o' with
      | none =>
        have hxy : xs = ys := hn.mp rfl
        have ee : PyData.eqv (.list []) (.list []) = true := by rw [show PyData.eqv (.list []) (.list []) = _ from e1 []]; rfl
        subst hxy
        have eb' : PyData.eqv (.bool true) (.bool true) = true := rfl
        simp only [optD, shp_row, eqv_row, eb', e0, ee, decide_true, show PyData.eqv .none .none = true from rfl, dSeq, dAsgG, dAsgN, dRet, dRetN, dRetO, dRet0, dDrop, dIfS, dNext, dApp, dInsert, q_setI, q_setQ, q_take, dFor, dFreeze, dNever, q_par, q_parQ, q_par3, q_parQ3, dParNE, dParDE, gdName, q_gnil, q_gcons, q_gtup, dVar, dOwn, dC, d1, d2, n2, nCons, nNil, nLst, dTup, dFr, dTest, dAnd, dOr, dNot, dAndV, dOrV, dNotV, dIf, dChain, dCB, nCB, dCall, nCall, aDat, aBag, aNil, q_neg, q_add, q_addl, q_addt, q_sub, q_mul, q_mull, q_mult, q_fdiv, q_mod, q_pow, q_lt, q_le, q_gt, q_ge, eqD, neD, isD, isntD, q_isnn, q_isni, q_isnb, q_isnt, q_isnl, q_lenl, q_lent, q_inti, q_intb, q_max2, q_min2, q_listl, q_listt, q_tuplel, q_tuplet, q_sum, q_min, q_max, allD, itSeq, itR1, q_itR2, q_rng2, q_en, q_en1, q_zip, q_zipQ, q_seqr, q_lenr, q_ixr, q_seql, q_seqt, q_rvd, q_rvn, q_catn, q_ixl, q_ixt, q_sl, q_sll, q_slt, q_slr, nSlL, oNone, oSome, nLc, wipeD, q_dropc, q_dropxd, q_dropxb, q_dropxo, q_dropxn, q_drope, dYes, dCnt, q_revl, q_revt, q_revr, nListRg, dTupRg, exInts, exOpt, q_addr1, q_addrr, q_ixk0, q_ixk1, exRow, exTk, cntL, cntQ_some, cntQ_none, List.getElem?_cons_zero, List.getElem?_cons_succ, List.getElem?_nil, Option.some.injEq, SV.dat.injEq, SV.own.injEq, PyData.int.injEq, PyData.bool.injEq, PyData.tuple.injEq, PyData.list.injEq, PyData.str.injEq, RVd.new.injEq, RVd.dat.injEq, exists_eq_left, exists_eq_left', exists_eq_right, List.cons.injEq, List.set_cons_zero, List.set_cons_succ, reduceCtorEq, and_true, true_and, false_and, and_false, not_true_eq_false, not_false_eq_true, if_true, if_false, ite_true, ite_false, decide_eq_true_eq, Bool.not_eq_true', decide_eq_false_iff_not, Bool.and_true, Bool.true_and, Bool.and_false, Bool.false_and, Bool.not_true, Bool.not_false, Bool.false_eq_true, List.map_cons, List.map_nil, List.length_cons, List.length_nil, Nat.zero_add, Nat.reduceAdd, Nat.reduceLeDiff, startd, List.replicate_succ, List.replicate_zero, List.nil_append, List.cons_append, Nat.reduceSub, exists_const, and_self, shp_int, shp_none, shp_bool, eqv_int, dForL_nil, lcL_nil]
        exact next _ _ _ _ _
      | some p =>
        have hxy : ¬ xs = ys := fun z => by cases hn.mpr z
        have hp := un p rfl
        have ee : PyData.eqv (.list []) (.list []) = true := by rw [show PyData.eqv (.list []) (.list []) = _ from e1 []]; rfl
        simp only [optD, shp_row, eqv_row, eb, hxy, e0, ee, hp, decide_true, decide_false, dSeq, dAsgG, dAsgN, dRet, dRetN, dRetO, dRet0, dDrop, dIfS, dNext, dApp, dInsert, q_setI, q_setQ, q_take, dFor, dFreeze, dNever, q_par, q_parQ, q_par3, q_parQ3, dParNE, dParDE, gdName, q_gnil, q_gcons, q_gtup, dVar, dOwn, dC, d1, d2, n2, nCons, nNil, nLst, dTup, dFr, dTest, dAnd, dOr, dNot, dAndV, dOrV, dNotV, dIf, dChain, dCB, nCB, dCall, nCall, aDat, aBag, aNil, q_neg, q_add, q_addl, q_addt, q_sub, q_mul, q_mull, q_mult, q_fdiv, q_mod, q_pow, q_lt, q_le, q_gt, q_ge, eqD, neD, isD, isntD, q_isnn, q_isni, q_isnb, q_isnt, q_isnl, q_lenl, q_lent, q_inti, q_intb, q_max2, q_min2, q_listl, q_listt, q_tuplel, q_tuplet, q_sum, q_min, q_max, allD, itSeq, itR1, q_itR2, q_rng2, q_en, q_en1, q_zip, q_zipQ, q_seqr, q_lenr, q_ixr, q_seql, q_seqt, q_rvd, q_rvn, q_catn, q_ixl, q_ixt, q_sl, q_sll, q_slt, q_slr, nSlL, oNone, oSome, nLc, wipeD, q_dropc, q_dropxd, q_dropxb, q_dropxo, q_dropxn, q_drope, dYes, dCnt, q_revl, q_revt, q_revr, nListRg, dTupRg, exInts, exOpt, q_addr1, q_addrr, q_ixk0, q_ixk1, exRow, exTk, cntL, cntQ_some, cntQ_none, List.getElem?_cons_zero, List.getElem?_cons_succ, List.getElem?_nil, Option.some.injEq, SV.dat.injEq, SV.own.injEq, PyData.int.injEq, PyData.bool.injEq, PyData.tuple.injEq, PyData.list.injEq, PyData.str.injEq, RVd.new.injEq, RVd.dat.injEq, exists_eq_left, exists_eq_left', exists_eq_right, List.cons.injEq, List.set_cons_zero, List.set_cons_succ, reduceCtorEq, and_true, true_and, false_and, and_false, not_true_eq_false, not_false_eq_true, if_true, if_false, ite_true, ite_false, decide_eq_true_eq, Bool.not_eq_true', decide_eq_false_iff_not, Bool.and_true, Bool.true_and, Bool.and_false, Bool.false_and, Bool.not_true, Bool.not_false, Bool.false_eq_true, List.map_cons, List.map_nil, List.length_cons, List.length_nil, Nat.zero_add, Nat.reduceAdd, Nat.reduceLeDiff, startd, List.replicate_succ, List.replicate_zero, List.nil_append, List.cons_append, Nat.reduceSub, exists_const, and_self, shp_int, shp_none, shp_bool, eqv_int, dForL_nil, lcL_nil]
        exact next _ _ _ _ _
    | cons u us =>
      have eo := unl_cons ho hu
      subst eo
      have hxy : ¬ xs = ys := fun z => by cases hn.mpr z
      have e2 : SeqAt.shaped (.list (((u :: us).map fun i => ((i : Nat) : Int) + 1).map .int)) = true := shp_ints _
      have e3 : PyData.eqv (.list (((u :: us).map fun i => ((i : Nat) : Int) + 1).map .int)) (.list []) = false := by
        rw [e1]
        rfl
      simp only [List.map_cons] at e2 e3
      simp only [optD, shp_row, eqv_row, eb, hxy, e0, e2, e3, at0, decide_true, decide_false, dSeq, dAsgG, dAsgN, dRet, dRetN, dRetO, dRet0, dDrop, dIfS, dNext, dApp, dInsert, q_setI, q_setQ, q_take, dFor, dFreeze, dNever, q_par, q_parQ, q_par3, q_parQ3, dParNE, dParDE, gdName, q_gnil, q_gcons, q_gtup, dVar, dOwn, dC, d1, d2, n2, nCons, nNil, nLst, dTup, dFr, dTest, dAnd, dOr, dNot, dAndV, dOrV, dNotV, dIf, dChain, dCB, nCB, dCall, nCall, aDat, aBag, aNil, q_neg, q_add, q_addl, q_addt, q_sub, q_mul, q_mull, q_mult, q_fdiv, q_mod, q_pow, q_lt, q_le, q_gt, q_ge, eqD, neD, isD, isntD, q_isnn, q_isni, q_isnb, q_isnt, q_isnl, q_lenl, q_lent, q_inti, q_intb, q_max2, q_min2, q_listl, q_listt, q_tuplel, q_tuplet, q_sum, q_min, q_max, allD, itSeq, itR1, q_itR2, q_rng2, q_en, q_en1, q_zip, q_zipQ, q_seqr, q_lenr, q_ixr, q_seql, q_seqt, q_rvd, q_rvn, q_catn, q_ixl, q_ixt, q_sl, q_sll, q_slt, q_slr, nSlL, oNone, oSome, nLc, wipeD, q_dropc, q_dropxd, q_dropxb, q_dropxo, q_dropxn, q_drope, dYes, dCnt, q_revl, q_revt, q_revr, nListRg, dTupRg, exInts, exOpt, q_addr1, q_addrr, q_ixk0, q_ixk1, exRow, exTk, cntL, cntQ_some, cntQ_none, List.getElem?_cons_zero, List.getElem?_cons_succ, List.getElem?_nil, Option.some.injEq, SV.dat.injEq, SV.own.injEq, PyData.int.injEq, PyData.bool.injEq, PyData.tuple.injEq, PyData.list.injEq, PyData.str.injEq, RVd.new.injEq, RVd.dat.injEq, exists_eq_left, exists_eq_left', exists_eq_right, List.cons.injEq, List.set_cons_zero, List.set_cons_succ, reduceCtorEq, and_true, true_and, false_and, and_false, not_true_eq_false, not_false_eq_true, if_true, if_false, ite_true, ite_false, decide_eq_true_eq, Bool.not_eq_true', decide_eq_false_iff_not, Bool.and_true, Bool.true_and, Bool.and_false, Bool.false_and, Bool.not_true, Bool.not_false, Bool.false_eq_true, List.map_cons, List.map_nil, List.length_cons, List.length_nil, Nat.zero_add, Nat.reduceAdd, Nat.reduceLeDiff, startd, List.replicate_succ, List.replicate_zero, List.nil_append, List.cons_append, Nat.reduceSub, exists_const, and_self, shp_int, shp_none, shp_bool, eqv_int, dForL_nil, lcL_nil]
      exact next _ _ _ _ _
theorem rd_law_loop (P : Addr) (q : Str) : b_law_loop P q { nx := fun env' => env'.length = 10 ∧ env'[0]? = some (some (.tab P q)), ct := fun env' => env'.length = 10 ∧ env'[0]? = some (some (.tab P q)), rt := isTrue' } (((blank 10).set 0 (some (.tab P q))).set 1 (some .bag)) := by
  simp only [b_law_loop, blank, sp_law_drawn_row, dSeq, dAsgG, dAsgN, dRet, dRetN, dRetO, dRet0, dDrop, dIfS, dNext, dApp, dInsert, q_setI, q_setQ, q_take, dFor, dFreeze, dNever, q_par, q_parQ, q_par3, q_parQ3, dParNE, dParDE, gdName, q_gnil, q_gcons, q_gtup, dVar, dOwn, dC, d1, d2, n2, nCons, nNil, nLst, dTup, dFr, dTest, dAnd, dOr, dNot, dAndV, dOrV, dNotV, dIf, dChain, dCB, nCB, dCall, nCall, aDat, aBag, aNil, q_neg, q_add, q_addl, q_addt, q_sub, q_mul, q_mull, q_mult, q_fdiv, q_mod, q_pow, q_lt, q_le, q_gt, q_ge, eqD, neD, isD, isntD, q_isnn, q_isni, q_isnb, q_isnt, q_isnl, q_lenl, q_lent, q_inti, q_intb, q_max2, q_min2, q_listl, q_listt, q_tuplel, q_tuplet, q_sum, q_min, q_max, allD, itSeq, itR1, q_itR2, q_rng2, q_en, q_en1, q_zip, q_zipQ, q_seqr, q_lenr, q_ixr, q_seql, q_seqt, q_rvd, q_rvn, q_catn, q_ixl, q_ixt, q_sl, q_sll, q_slt, q_slr, nSlL, oNone, oSome, nLc, wipeD, q_dropc, q_dropxd, q_dropxb, q_dropxo, q_dropxn, q_drope, dYes, dCnt, q_revl, q_revt, q_revr, nListRg, dTupRg, exInts, exOpt, q_addr1, q_addrr, q_ixk0, q_ixk1, exRow, exTk, cntL, cntQ_some, cntQ_none, List.getElem?_cons_zero, List.getElem?_cons_succ, List.getElem?_nil, Option.some.injEq, SV.dat.injEq, SV.own.injEq, PyData.int.injEq, PyData.bool.injEq, PyData.tuple.injEq, PyData.list.injEq, PyData.str.injEq, RVd.new.injEq, RVd.dat.injEq, exists_eq_left, exists_eq_left', exists_eq_right, List.cons.injEq, List.set_cons_zero, List.set_cons_succ, reduceCtorEq, and_true, true_and, false_and, and_false, not_true_eq_false, not_false_eq_true, if_true, if_false, ite_true, ite_false, decide_eq_true_eq, Bool.not_eq_true', decide_eq_false_iff_not, Bool.and_true, Bool.true_and, Bool.and_false, Bool.false_and, Bool.not_true, Bool.not_false, Bool.false_eq_true, List.map_cons, List.map_nil, List.length_cons, List.length_nil, Nat.zero_add, Nat.reduceAdd, Nat.reduceLeDiff, startd, List.replicate_succ, List.replicate_zero, List.nil_append, List.cons_append, Nat.reduceSub, exists_const, and_self, shp_int, shp_none, shp_bool, eqv_int, dForL_nil, lcL_nil]
  refine ⟨by decide, fun r r0 r2 => ?_⟩
  obtain ⟨far, hz, hf⟩ : ∃ z : Int, atI [PyData.int 6, .int 60] r = some (.int z) ∧ 2 ≤ z ∧ z ≤ 1000 := by
    have : r = 0 ∨ r = 1 := by omega
    rcases this with rfl | rfl
    · exact ⟨6, at0, by decide, by decide⟩
    · exact ⟨60, at1, by decide, by decide⟩
  refine ⟨_, hz, ?_⟩
  simp only [dSeq, dAsgG, dAsgN, dRet, dRetN, dRetO, dRet0, dDrop, dIfS, dNext, dApp, dInsert, q_setI, q_setQ, q_take, dFor, dFreeze, dNever, q_par, q_parQ, q_par3, q_parQ3, dParNE, dParDE, gdName, q_gnil, q_gcons, q_gtup, dVar, dOwn, dC, d1, d2, n2, nCons, nNil, nLst, dTup, dFr, dTest, dAnd, dOr, dNot, dAndV, dOrV, dNotV, dIf, dChain, dCB, nCB, dCall, nCall, aDat, aBag, aNil, q_neg, q_add, q_addl, q_addt, q_sub, q_mul, q_mull, q_mult, q_fdiv, q_mod, q_pow, q_lt, q_le, q_gt, q_ge, eqD, neD, isD, isntD, q_isnn, q_isni, q_isnb, q_isnt, q_isnl, q_lenl, q_lent, q_inti, q_intb, q_max2, q_min2, q_listl, q_listt, q_tuplel, q_tuplet, q_sum, q_min, q_max, allD, itSeq, itR1, q_itR2, q_rng2, q_en, q_en1, q_zip, q_zipQ, q_seqr, q_lenr, q_ixr, q_seql, q_seqt, q_rvd, q_rvn, q_catn, q_ixl, q_ixt, q_sl, q_sll, q_slt, q_slr, nSlL, oNone, oSome, nLc, wipeD, q_dropc, q_dropxd, q_dropxb, q_dropxo, q_dropxn, q_drope, dYes, dCnt, q_revl, q_revt, q_revr, nListRg, dTupRg, exInts, exOpt, q_addr1, q_addrr, q_ixk0, q_ixk1, exRow, exTk, cntL, cntQ_some, cntQ_none, List.getElem?_cons_zero, List.getElem?_cons_succ, List.getElem?_nil, Option.some.injEq, SV.dat.injEq, SV.own.injEq, PyData.int.injEq, PyData.bool.injEq, PyData.tuple.injEq, PyData.list.injEq, PyData.str.injEq, RVd.new.injEq, RVd.dat.injEq, exists_eq_left, exists_eq_left', exists_eq_right, List.cons.injEq, List.set_cons_zero, List.set_cons_succ, reduceCtorEq, and_true, true_and, false_and, and_false, not_true_eq_false, not_false_eq_true, if_true, if_false, ite_true, ite_false, decide_eq_true_eq, Bool.not_eq_true', decide_eq_false_iff_not, Bool.and_true, Bool.true_and, Bool.and_false, Bool.false_and, Bool.not_true, Bool.not_false, Bool.false_eq_true, List.map_cons, List.map_nil, List.length_cons, List.length_nil, Nat.zero_add, Nat.reduceAdd, Nat.reduceLeDiff, startd, List.replicate_succ, List.replicate_zero, List.nil_append, List.cons_append, Nat.reduceSub, exists_const, and_self, shp_int, shp_none, shp_bool, eqv_int, dForL_nil, lcL_nil]
  refine ⟨by decide, by decide, hf.1, hf.2, fun xs hl ht => ?_⟩
  have ok : RowOk xs := ⟨by omega, fun t h => (ht t h).ok hf.2⟩
  simp only [sp_law_gone, ok, gone_eq ok.2, at0, show (600 : Int).toNat = 600 by decide, show (0 : Int) ≤ 600 by decide, show (600 : Int) ≤ 100000 by decide, show -(2 : Int) ^ 62 ≤ 4 by decide, show (4 : Int) < 2 ^ 62 by decide, dSeq, dAsgG, dAsgN, dRet, dRetN, dRetO, dRet0, dDrop, dIfS, dNext, dApp, dInsert, q_setI, q_setQ, q_take, dFor, dFreeze, dNever, q_par, q_parQ, q_par3, q_parQ3, dParNE, dParDE, gdName, q_gnil, q_gcons, q_gtup, dVar, dOwn, dC, d1, d2, n2, nCons, nNil, nLst, dTup, dFr, dTest, dAnd, dOr, dNot, dAndV, dOrV, dNotV, dIf, dChain, dCB, nCB, dCall, nCall, aDat, aBag, aNil, q_neg, q_add, q_addl, q_addt, q_sub, q_mul, q_mull, q_mult, q_fdiv, q_mod, q_pow, q_lt, q_le, q_gt, q_ge, eqD, neD, isD, isntD, q_isnn, q_isni, q_isnb, q_isnt, q_isnl, q_lenl, q_lent, q_inti, q_intb, q_max2, q_min2, q_listl, q_listt, q_tuplel, q_tuplet, q_sum, q_min, q_max, allD, itSeq, itR1, q_itR2, q_rng2, q_en, q_en1, q_zip, q_zipQ, q_seqr, q_lenr, q_ixr, q_seql, q_seqt, q_rvd, q_rvn, q_catn, q_ixl, q_ixt, q_sl, q_sll, q_slt, q_slr, nSlL, oNone, oSome, nLc, wipeD, q_dropc, q_dropxd, q_dropxb, q_dropxo, q_dropxn, q_drope, dYes, dCnt, q_revl, q_revt, q_revr, nListRg, dTupRg, exInts, exOpt, q_addr1, q_addrr, q_ixk0, q_ixk1, exRow, exTk, cntL, cntQ_some, cntQ_none, List.getElem?_cons_zero, List.getElem?_cons_succ, List.getElem?_nil, Option.some.injEq, SV.dat.injEq, SV.own.injEq, PyData.int.injEq, PyData.bool.injEq, PyData.tuple.injEq, PyData.list.injEq, PyData.str.injEq, RVd.new.injEq, RVd.dat.injEq, exists_eq_left, exists_eq_left', exists_eq_right, List.cons.injEq, List.set_cons_zero, List.set_cons_succ, reduceCtorEq, and_true, true_and, false_and, and_false, not_true_eq_false, not_false_eq_true, if_true, if_false, ite_true, ite_false, decide_eq_true_eq, Bool.not_eq_true', decide_eq_false_iff_not, Bool.and_true, Bool.true_and, Bool.and_false, Bool.false_and, Bool.not_true, Bool.not_false, Bool.false_eq_true, List.map_cons, List.map_nil, List.length_cons, List.length_nil, Nat.zero_add, Nat.reduceAdd, Nat.reduceLeDiff, startd, List.replicate_succ, List.replicate_zero, List.nil_append, List.cons_append, Nat.reduceSub, exists_const, and_self, shp_int, shp_none, shp_bool, eqv_int, dForL_nil, lcL_nil]
  refine turn_loop ok rfl rfl _ _ _ _ _ _ fun x4 x5 x6 x7 x8 => ?_
  simp only [sp_parted, ok, dSeq, dAsgG, dAsgN, dRet, dRetN, dRetO, dRet0, dDrop, dIfS, dNext, dApp, dInsert, q_setI, q_setQ, q_take, dFor, dFreeze, dNever, q_par, q_parQ, q_par3, q_parQ3, dParNE, dParDE, gdName, q_gnil, q_gcons, q_gtup, dVar, dOwn, dC, d1, d2, n2, nCons, nNil, nLst, dTup, dFr, dTest, dAnd, dOr, dNot, dAndV, dOrV, dNotV, dIf, dChain, dCB, nCB, dCall, nCall, aDat, aBag, aNil, q_neg, q_add, q_addl, q_addt, q_sub, q_mul, q_mull, q_mult, q_fdiv, q_mod, q_pow, q_lt, q_le, q_gt, q_ge, eqD, neD, isD, isntD, q_isnn, q_isni, q_isnb, q_isnt, q_isnl, q_lenl, q_lent, q_inti, q_intb, q_max2, q_min2, q_listl, q_listt, q_tuplel, q_tuplet, q_sum, q_min, q_max, allD, itSeq, itR1, q_itR2, q_rng2, q_en, q_en1, q_zip, q_zipQ, q_seqr, q_lenr, q_ixr, q_seql, q_seqt, q_rvd, q_rvn, q_catn, q_ixl, q_ixt, q_sl, q_sll, q_slt, q_slr, nSlL, oNone, oSome, nLc, wipeD, q_dropc, q_dropxd, q_dropxb, q_dropxo, q_dropxn, q_drope, dYes, dCnt, q_revl, q_revt, q_revr, nListRg, dTupRg, exInts, exOpt, q_addr1, q_addrr, q_ixk0, q_ixk1, exRow, exTk, cntL, cntQ_some, cntQ_none, List.getElem?_cons_zero, List.getElem?_cons_succ, List.getElem?_nil, Option.some.injEq, SV.dat.injEq, SV.own.injEq, PyData.int.injEq, PyData.bool.injEq, PyData.tuple.injEq, PyData.list.injEq, PyData.str.injEq, RVd.new.injEq, RVd.dat.injEq, exists_eq_left, exists_eq_left', exists_eq_right, List.cons.injEq, List.set_cons_zero, List.set_cons_succ, reduceCtorEq, and_true, true_and, false_and, and_false, not_true_eq_false, not_false_eq_true, if_true, if_false, ite_true, ite_false, decide_eq_true_eq, Bool.not_eq_true', decide_eq_false_iff_not, Bool.and_true, Bool.true_and, Bool.and_false, Bool.false_and, Bool.not_true, Bool.not_false, Bool.false_eq_true, List.map_cons, List.map_nil, List.length_cons, List.length_nil, Nat.zero_add, Nat.reduceAdd, Nat.reduceLeDiff, startd, List.replicate_succ, List.replicate_zero, List.nil_append, List.cons_append, Nat.reduceSub, exists_const, and_self, shp_int, shp_none, shp_bool, eqv_int, dForL_nil, lcL_nil]
  intro o ho
  have e : o = none := (firstD_none ho).mpr rfl
  subst e
  have e7 : xs.length + 1 ≤ 1000000 := by omega
  have t2 : PyData.tuple [.tuple [.int 2, .int 0]] = .tuple [tkD (2, 0)] := rfl
  simp only [optD, nRef, t2, e7, dSeq, dAsgG, dAsgN, dRet, dRetN, dRetO, dRet0, dDrop, dIfS, dNext, dApp, dInsert, q_setI, q_setQ, q_take, dFor, dFreeze, dNever, q_par, q_parQ, q_par3, q_parQ3, dParNE, dParDE, gdName, q_gnil, q_gcons, q_gtup, dVar, dOwn, dC, d1, d2, n2, nCons, nNil, nLst, dTup, dFr, dTest, dAnd, dOr, dNot, dAndV, dOrV, dNotV, dIf, dChain, dCB, nCB, dCall, nCall, aDat, aBag, aNil, q_neg, q_add, q_addl, q_addt, q_sub, q_mul, q_mull, q_mult, q_fdiv, q_mod, q_pow, q_lt, q_le, q_gt, q_ge, eqD, neD, isD, isntD, q_isnn, q_isni, q_isnb, q_isnt, q_isnl, q_lenl, q_lent, q_inti, q_intb, q_max2, q_min2, q_listl, q_listt, q_tuplel, q_tuplet, q_sum, q_min, q_max, allD, itSeq, itR1, q_itR2, q_rng2, q_en, q_en1, q_zip, q_zipQ, q_seqr, q_lenr, q_ixr, q_seql, q_seqt, q_rvd, q_rvn, q_catn, q_ixl, q_ixt, q_sl, q_sll, q_slt, q_slr, nSlL, oNone, oSome, nLc, wipeD, q_dropc, q_dropxd, q_dropxb, q_dropxo, q_dropxn, q_drope, dYes, dCnt, q_revl, q_revt, q_revr, nListRg, dTupRg, exInts, exOpt, q_addr1, q_addrr, q_ixk0, q_ixk1, exRow, exTk, cntL, cntQ_some, cntQ_none, List.getElem?_cons_zero, List.getElem?_cons_succ, List.getElem?_nil, Option.some.injEq, SV.dat.injEq, SV.own.injEq, PyData.int.injEq, PyData.bool.injEq, PyData.tuple.injEq, PyData.list.injEq, PyData.str.injEq, RVd.new.injEq, RVd.dat.injEq, exists_eq_left, exists_eq_left', exists_eq_right, List.cons.injEq, List.set_cons_zero, List.set_cons_succ, reduceCtorEq, and_true, true_and, false_and, and_false, not_true_eq_false, not_false_eq_true, if_true, if_false, ite_true, ite_false, decide_eq_true_eq, Bool.not_eq_true', decide_eq_false_iff_not, Bool.and_true, Bool.true_and, Bool.and_false, Bool.false_and, Bool.not_true, Bool.not_false, Bool.false_eq_true, List.map_cons, List.map_nil, List.length_cons, List.length_nil, Nat.zero_add, Nat.reduceAdd, Nat.reduceLeDiff, startd, List.replicate_succ, List.replicate_zero, List.nil_append, List.cons_append, Nat.reduceSub, exists_const, and_self, shp_int, shp_none, shp_bool, eqv_int, dForL_nil, lcL_nil]
  have hsh : SeqAt.shaped (PyData.list [PyData.str (Str.ofString "Unlike"), PyData.bool true]) = true := by decide +kernel
  have heq : (PyData.list [PyData.str (Str.ofString "Unlike"), PyData.bool true]).eqv (PyData.list [PyData.str (Str.ofString "Unlike"), PyData.bool true]) = true := by
    simp [PyData.eqv, PyData.eqvAll]
  have ok7 : RowOk (xs ++ [(2, 0)]) := ⟨by rw [List.length_append, List.length_singleton]; omega, fun t h => by
    rcases List.mem_append.mp h with z | z
    · exact ok.2 t z
    · have : t = (2, 0) := by simpa using z
      subst this
      exact ⟨by decide, by decide, by decide, by decide⟩⟩
  refine ⟨_, _, _, ⟨rfl, rfl, rfl⟩, ⟨_, _, _, rfl, xs, xs ++ [(2, 0)], rfl, ok, ok7, by rw [List.length_append, List.length_singleton]; omega⟩, hsh, hsh, ?_⟩
  rw [if_neg (by rw [heq]; decide)]
  trivial
theorem rd_law_rest : b_law_rest { nx := fun _ => False, rt := isTrue' } (blank 10) := by
  have r0 : PyData.tuple [] = rowD [] := rfl
  have r1 : PyData.tuple [.tuple [.int 2, .int 0], .tuple [.int 3, .int 0]] = rowD [(2, 0), (3, 0)] := rfl
  have r2 : PyData.tuple [.tuple [.int 2, .int 0], .tuple [.int 3, .int 1]] = rowD [(2, 0), (3, 1)] := rfl
  have ok0 : RowOk [] := ⟨by decide, by simp⟩
  have ok1 : RowOk [(2, 0), (3, 0)] := ⟨by decide, fun t ht => by
    have : t = (2, 0) ∨ t = (3, 0) := by simpa using ht
    rcases this with rfl | rfl <;> exact ⟨by decide, by decide, by decide, by decide⟩⟩
  have ok2 : RowOk [(2, 0), (3, 1)] := ⟨by decide, fun t ht => by
    have : t = (2, 0) ∨ t = (3, 1) := by simpa using ht
    rcases this with rfl | rfl <;> exact ⟨by decide, by decide, by decide, by decide⟩⟩
  have f3 : FirstD [(2, 0), (3, 0)] [(2, 0), (3, 1)] (some 3) := by
    refine ⟨by decide, fun q q1 q2 k => ?_, fun k => ?_⟩
    · have : q = 1 ∨ q = 2 := by omega
      rcases this with rfl | rfl <;> simp [whoG]
    · simp [whoG]
  simp only [b_law_rest, blank, r0, r1, r2, sp_parted, exRow, ok0, ok1, ok2, dSeq, dAsgG, dAsgN, dRet, dRetN, dRetO, dRet0, dDrop, dIfS, dNext, dApp, dInsert, q_setI, q_setQ, q_take, dFor, dFreeze, dNever, q_par, q_parQ, q_par3, q_parQ3, dParNE, dParDE, gdName, q_gnil, q_gcons, q_gtup, dVar, dOwn, dC, d1, d2, n2, nCons, nNil, nLst, dTup, dFr, dTest, dAnd, dOr, dNot, dAndV, dOrV, dNotV, dIf, dChain, dCB, nCB, dCall, nCall, aDat, aBag, aNil, q_neg, q_add, q_addl, q_addt, q_sub, q_mul, q_mull, q_mult, q_fdiv, q_mod, q_pow, q_lt, q_le, q_gt, q_ge, eqD, neD, isD, isntD, q_isnn, q_isni, q_isnb, q_isnt, q_isnl, q_lenl, q_lent, q_inti, q_intb, q_max2, q_min2, q_listl, q_listt, q_tuplel, q_tuplet, q_sum, q_min, q_max, allD, itSeq, itR1, q_itR2, q_rng2, q_en, q_en1, q_zip, q_zipQ, q_seqr, q_lenr, q_ixr, q_seql, q_seqt, q_rvd, q_rvn, q_catn, q_ixl, q_ixt, q_sl, q_sll, q_slt, q_slr, nSlL, oNone, oSome, nLc, wipeD, q_dropc, q_dropxd, q_dropxb, q_dropxo, q_dropxn, q_drope, dYes, dCnt, q_revl, q_revt, q_revr, nListRg, dTupRg, exInts, exOpt, q_addr1, q_addrr, q_ixk0, q_ixk1, exRow, exTk, cntL, cntQ_some, cntQ_none, List.getElem?_cons_zero, List.getElem?_cons_succ, List.getElem?_nil, Option.some.injEq, SV.dat.injEq, SV.own.injEq, PyData.int.injEq, PyData.bool.injEq, PyData.tuple.injEq, PyData.list.injEq, PyData.str.injEq, RVd.new.injEq, RVd.dat.injEq, exists_eq_left, exists_eq_left', exists_eq_right, List.cons.injEq, List.set_cons_zero, List.set_cons_succ, reduceCtorEq, and_true, true_and, false_and, and_false, not_true_eq_false, not_false_eq_true, if_true, if_false, ite_true, ite_false, decide_eq_true_eq, Bool.not_eq_true', decide_eq_false_iff_not, Bool.and_true, Bool.true_and, Bool.and_false, Bool.false_and, Bool.not_true, Bool.not_false, Bool.false_eq_true, List.map_cons, List.map_nil, List.length_cons, List.length_nil, Nat.zero_add, Nat.reduceAdd, Nat.reduceLeDiff, startd, List.replicate_succ, List.replicate_zero, List.nil_append, List.cons_append, Nat.reduceSub, exists_const, and_self, shp_int, shp_none, shp_bool, eqv_int, dForL_nil, lcL_nil]
  intro o ho
  have := first_uniq ho f3
  subst this
  refine ⟨shp_opt _, ?_⟩
  rw [if_pos (show (optD (some 3)).eqv (PyData.int 3) = true from rfl)]
  intro o' ho'
  have : o' = none := (firstD_none ho').mpr rfl
  subst this
  rfl
end Pd

namespace Lw
open PySem L2 Pd
open PyProof.Rows (envOfC)
def top (i : Nat) : Stmt := PySem.Challenge.pw_takenth_k11_where_two_rows_part.main.body.getD i (.Pass ⟨0, 0, 0, 0⟩)
abbrev s_is_within : Stmt := top 12
abbrev n_is_within : List Str := ["thing", "low", "high"]
theorem sc_is_within : FnScope n_is_within ["thing", "low", "high"] (defScope s_is_within) := ⟨rfl, rfl, rfl, by decide +kernel, rfl, by decide +kernel, by decide +kernel⟩
abbrev s_is_taker : Stmt := top 13
abbrev n_is_taker : List Str := ["thing"]
theorem sc_is_taker : FnScope n_is_taker ["thing"] (defScope s_is_taker) := ⟨rfl, rfl, rfl, by decide +kernel, rfl, by decide +kernel, by decide +kernel⟩
abbrev s_is_row : Stmt := top 14
abbrev n_is_row : List Str := ["thing", "one"]
theorem sc_is_row : FnScope n_is_row ["thing"] (defScope s_is_row) := ⟨rfl, rfl, rfl, by decide +kernel, rfl, by decide +kernel, by decide +kernel⟩
abbrev s_need_row : Stmt := top 15
abbrev n_need_row : List Str := ["row"]
theorem sc_need_row : FnScope n_need_row ["row"] (defScope s_need_row) := ⟨rfl, rfl, rfl, by decide +kernel, rfl, by decide +kernel, by decide +kernel⟩
abbrev s_came_as : Stmt := top 16
abbrev n_came_as : List Str := ["row", "number", "every", "counted", "among"]
theorem sc_came_as : FnScope n_came_as ["row", "number"] (defScope s_came_as) := ⟨rfl, rfl, rfl, by decide +kernel, rfl, by decide +kernel, by decide +kernel⟩
abbrev s_first_unlike : Stmt := top 18
abbrev n_first_unlike : List Str := ["one", "other", "first", "second"]
theorem sc_first_unlike : FnScope n_first_unlike ["one", "other"] (defScope s_first_unlike) := ⟨rfl, rfl, rfl, by decide +kernel, rfl, by decide +kernel, by decide +kernel⟩
abbrev s_parted : Stmt := top 19
abbrev n_parted : List Str := ["one", "other", "found", "place", "number"]
theorem sc_parted : FnScope n_parted ["one", "other"] (defScope s_parted) := ⟨rfl, rfl, rfl, by decide +kernel, rfl, by decide +kernel, by decide +kernel⟩
abbrev s_law_cell_at : Stmt := top 21
abbrev n_law_cell_at : List Str := ["script", "k"]
theorem sc_law_cell_at : FnScope n_law_cell_at ["script", "k"] (defScope s_law_cell_at) := ⟨rfl, rfl, rfl, by decide +kernel, rfl, by decide +kernel, by decide +kernel⟩
abbrev s_law_draws : Stmt := top 22
abbrev n_law_draws : List Str := ["cell", "many", "size", "found", "rest", "stirred", "k"]
theorem sc_law_draws : FnScope n_law_draws ["cell", "many", "size"] (defScope s_law_draws) := ⟨rfl, rfl, rfl, by decide +kernel, rfl, by decide +kernel, by decide +kernel⟩
abbrev s_law_bag : Stmt := top 23
abbrev n_law_bag : List Str := ["script", "k"]
theorem sc_law_bag : FnScope n_law_bag ["script", "k"] (defScope s_law_bag) := ⟨rfl, rfl, rfl, by decide +kernel, rfl, by decide +kernel, by decide +kernel⟩
abbrev s_law_bags : Stmt := top 24
abbrev n_law_bags : List Str := ["script", "limit", "k"]
theorem sc_law_bags : FnScope n_law_bags ["script", "limit"] (defScope s_law_bags) := ⟨rfl, rfl, rfl, by decide +kernel, rfl, by decide +kernel, by decide +kernel⟩
abbrev s_law_take : Stmt := top 25
abbrev n_law_take : List Str := ["bag", "many"]
theorem sc_law_take : FnScope n_law_take ["bag", "many"] (defScope s_law_take) := ⟨rfl, rfl, rfl, by decide +kernel, rfl, by decide +kernel, by decide +kernel⟩
abbrev s_law_taker : Stmt := top 26
abbrev n_law_taker : List Str := ["bag", "far", "every"]
theorem sc_law_taker : FnScope n_law_taker ["bag", "far"] (defScope s_law_taker) := ⟨rfl, rfl, rfl, by decide +kernel, rfl, by decide +kernel, by decide +kernel⟩
abbrev s_law_drawn_row : Stmt := top 27
abbrev n_law_drawn_row : List Str := ["bag", "takers", "far", "turn"]
theorem sc_law_drawn_row : FnScope n_law_drawn_row ["bag", "takers", "far"] (defScope s_law_drawn_row) := ⟨rfl, rfl, rfl, by decide +kernel, rfl, by decide +kernel, by decide +kernel⟩
abbrev s_law_gone : Stmt := top 28
abbrev n_law_gone : List Str := ["house", "many", "counted", "found", "piece", "took", "place", "every", "begun", "one"]
theorem sc_law_gone : FnScope n_law_gone ["house", "many"] (defScope s_law_gone) := ⟨rfl, rfl, rfl, by decide +kernel, rfl, by decide +kernel, by decide +kernel⟩
abbrev s_law_refused : Stmt := top 29
abbrev n_law_refused : List Str := ["call", "one", "two", "three", "kin", "e", "words", "word", "there"]
theorem sc_law_refused : FnScope n_law_refused ["call", "one", "two", "three"] (defScope s_law_refused) := ⟨rfl, rfl, rfl, by decide +kernel, rfl, by decide +kernel, by decide +kernel⟩
abbrev s_law_near : Stmt := top 30
abbrev n_law_near : List Str := ["bag", "house", "at", "every", "counted", "some", "other"]
theorem sc_law_near : FnScope n_law_near ["bag", "house"] (defScope s_law_near) := ⟨rfl, rfl, rfl, by decide +kernel, rfl, by decide +kernel, by decide +kernel⟩
abbrev s_law : Stmt := top 31
abbrev n_law : List Str := ["script", "bag", "house", "seen", "turn", "other", "far", "unlike", "told", "piece"]
theorem sc_law : FnScope n_law ["script"] (defScope s_law) := ⟨rfl, rfl, rfl, by decide +kernel, rfl, by decide +kernel, by decide +kernel⟩
structure Ad where
  is_within : Addr
  is_taker : Addr
  is_row : Addr
  need_row : Addr
  came_as : Addr
  first_unlike : Addr
  parted : Addr
  law_cell_at : Addr
  law_draws : Addr
  law_bag : Addr
  law_bags : Addr
  law_take : Addr
  law_taker : Addr
  law_drawn_row : Addr
  law_gone : Addr
  law_refused : Addr
  law_near : Addr
  law : Addr
  TakeError : Addr
  NoRow : Addr
  NoNumber : Addr
  NoTaker : Addr
  NoSeen : Addr
  NoCounts : Addr
  NoPlace : Addr
  Unlike : Addr
  Full : Addr
  TooMany : Addr
  tabP : Addr
  codeL : Addr
structure Fd where
  is_within : FuncData
  is_taker : FuncData
  is_row : FuncData
  need_row : FuncData
  came_as : FuncData
  first_unlike : FuncData
  parted : FuncData
  law_cell_at : FuncData
  law_draws : FuncData
  law_bag : FuncData
  law_bags : FuncData
  law_take : FuncData
  law_taker : FuncData
  law_drawn_row : FuncData
  law_gone : FuncData
  law_refused : FuncData
  law_near : FuncData
  law : FuncData
structure Txt (K : PySem.W.Frag) (mg : Str → Option Value) (a : Ad) (fd : Fd) : Prop where
  F_is_within : Fun K "is_within" "is_within" s_is_within a.is_within fd.is_within
  g_is_within : mg "is_within" = some (.ref a.is_within)
  b_is_within : Binds K fd.is_within ["thing", "low", "high"] []
  F_is_taker : Fun K "is_taker" "is_taker" s_is_taker a.is_taker fd.is_taker
  g_is_taker : mg "is_taker" = some (.ref a.is_taker)
  b_is_taker : Binds K fd.is_taker ["thing"] []
  F_is_row : Fun K "is_row" "is_row" s_is_row a.is_row fd.is_row
  g_is_row : mg "is_row" = some (.ref a.is_row)
  b_is_row : Binds K fd.is_row ["thing"] []
  F_need_row : Fun K "need_row" "need_row" s_need_row a.need_row fd.need_row
  g_need_row : mg "need_row" = some (.ref a.need_row)
  b_need_row : Binds K fd.need_row ["row"] []
  F_came_as : Fun K "came_as" "came_as" s_came_as a.came_as fd.came_as
  g_came_as : mg "came_as" = some (.ref a.came_as)
  b_came_as : Binds K fd.came_as ["row", "number"] []
  F_first_unlike : Fun K "first_unlike" "first_unlike" s_first_unlike a.first_unlike fd.first_unlike
  g_first_unlike : mg "first_unlike" = some (.ref a.first_unlike)
  b_first_unlike : Binds K fd.first_unlike ["one", "other"] []
  F_parted : Fun K "parted" "parted" s_parted a.parted fd.parted
  g_parted : mg "parted" = some (.ref a.parted)
  b_parted : Binds K fd.parted ["one", "other"] []
  F_law_cell_at : Fun K "_law_cell_at" "_law_cell_at" s_law_cell_at a.law_cell_at fd.law_cell_at
  g_law_cell_at : mg "_law_cell_at" = some (.ref a.law_cell_at)
  b_law_cell_at : Binds K fd.law_cell_at ["script", "k"] []
  F_law_draws : Fun K "_law_draws" "_law_draws" s_law_draws a.law_draws fd.law_draws
  g_law_draws : mg "_law_draws" = some (.ref a.law_draws)
  b_law_draws : Binds K fd.law_draws ["cell", "many", "size"] []
  F_law_bag : Fun K "_law_bag" "_law_bag" s_law_bag a.law_bag fd.law_bag
  g_law_bag : mg "_law_bag" = some (.ref a.law_bag)
  b_law_bag : Binds K fd.law_bag ["script", "k"] []
  F_law_bags : Fun K "_law_bags" "_law_bags" s_law_bags a.law_bags fd.law_bags
  g_law_bags : mg "_law_bags" = some (.ref a.law_bags)
  b_law_bags : Binds K fd.law_bags ["script", "limit"] []
  F_law_take : Fun K "_law_take" "_law_take" s_law_take a.law_take fd.law_take
  g_law_take : mg "_law_take" = some (.ref a.law_take)
  b_law_take : Binds K fd.law_take ["bag", "many"] []
  F_law_taker : Fun K "_law_taker" "_law_taker" s_law_taker a.law_taker fd.law_taker
  g_law_taker : mg "_law_taker" = some (.ref a.law_taker)
  b_law_taker : Binds K fd.law_taker ["bag", "far"] []
  F_law_drawn_row : Fun K "_law_drawn_row" "_law_drawn_row" s_law_drawn_row a.law_drawn_row fd.law_drawn_row
  g_law_drawn_row : mg "_law_drawn_row" = some (.ref a.law_drawn_row)
  b_law_drawn_row : Binds K fd.law_drawn_row ["bag", "takers", "far"] []
  F_law_gone : Fun K "_law_gone" "_law_gone" s_law_gone a.law_gone fd.law_gone
  g_law_gone : mg "_law_gone" = some (.ref a.law_gone)
  b_law_gone : Binds K fd.law_gone ["house", "many"] []
  F_law_refused : Fun K "_law_refused" "_law_refused" s_law_refused a.law_refused fd.law_refused
  g_law_refused : mg "_law_refused" = some (.ref a.law_refused)
  b_law_refused : Binds K fd.law_refused ["call", "one", "two", "three"] []
  F_law_near : Fun K "_law_near" "_law_near" s_law_near a.law_near fd.law_near
  g_law_near : mg "_law_near" = some (.ref a.law_near)
  b_law_near : Binds K fd.law_near ["bag", "house"] []
  F_law : Fun K "law" "law" s_law a.law fd.law
  g_law : mg "law" = some (.ref a.law)
  b_law : Binds K fd.law ["script"] []
  n_ValueError : mg "ValueError" = none
  n_all : mg "all" = none
  n_bool : mg "bool" = none
  n_enumerate : mg "enumerate" = none
  n_int : mg "int" = none
  n_isinstance : mg "isinstance" = none
  n_len : mg "len" = none
  n_max : mg "max" = none
  n_min : mg "min" = none
  n_range : mg "range" = none
  n_tuple : mg "tuple" = none
  g_TakeError : mg "TakeError" = some (.ref a.TakeError)
  d_TakeError : PySem.W.hasDictIn K a.TakeError = true
  t_TakeError : PySem.W.typeIn K (.ref a.TakeError) = some (.type "type")
  g_NoRow : mg "NoRow" = some (.ref a.NoRow)
  d_NoRow : PySem.W.hasDictIn K a.NoRow = true
  t_NoRow : PySem.W.typeIn K (.ref a.NoRow) = some (.type "type")
  g_NoNumber : mg "NoNumber" = some (.ref a.NoNumber)
  d_NoNumber : PySem.W.hasDictIn K a.NoNumber = true
  t_NoNumber : PySem.W.typeIn K (.ref a.NoNumber) = some (.type "type")
  g_NoTaker : mg "NoTaker" = some (.ref a.NoTaker)
  d_NoTaker : PySem.W.hasDictIn K a.NoTaker = true
  t_NoTaker : PySem.W.typeIn K (.ref a.NoTaker) = some (.type "type")
  g_NoSeen : mg "NoSeen" = some (.ref a.NoSeen)
  d_NoSeen : PySem.W.hasDictIn K a.NoSeen = true
  t_NoSeen : PySem.W.typeIn K (.ref a.NoSeen) = some (.type "type")
  g_NoCounts : mg "NoCounts" = some (.ref a.NoCounts)
  d_NoCounts : PySem.W.hasDictIn K a.NoCounts = true
  t_NoCounts : PySem.W.typeIn K (.ref a.NoCounts) = some (.type "type")
  g_NoPlace : mg "NoPlace" = some (.ref a.NoPlace)
  d_NoPlace : PySem.W.hasDictIn K a.NoPlace = true
  t_NoPlace : PySem.W.typeIn K (.ref a.NoPlace) = some (.type "type")
  g_Unlike : mg "Unlike" = some (.ref a.Unlike)
  d_Unlike : PySem.W.hasDictIn K a.Unlike = true
  t_Unlike : PySem.W.typeIn K (.ref a.Unlike) = some (.type "type")
  g_Full : mg "Full" = some (.ref a.Full)
  d_Full : PySem.W.hasDictIn K a.Full = true
  t_Full : PySem.W.typeIn K (.ref a.Full) = some (.type "type")
  g_TooMany : mg "TooMany" = some (.ref a.TooMany)
  d_TooMany : PySem.W.hasDictIn K a.TooMany = true
  t_TooMany : PySem.W.typeIn K (.ref a.TooMany) = some (.type "type")
  sb_TakeError : PySem.W.subIn K (.ref a.TakeError) (.type "BaseException") = some true
  sb_TooMany : PySem.W.subIn K (.ref a.TooMany) (.type "BaseException") = some true
  sb_Unlike : PySem.W.subIn K (.ref a.Unlike) (.type "BaseException") = some true
  kp_Unlike : PySem.W.keepIn K (.ref a.Unlike) = true
  x_Unlike : PySem.W.excIn K a.Unlike [.type "ValueError", .type "Exception", .type "BaseException", .type "object"] "ValueError.__new__" = true
  hg_Unlike : PySem.W.findIn K (.ref a.Unlike) "__getattribute__" = some (some (.builtin "BaseException.__getattribute__"))
  hk_Unlike : PySem.W.findIn K (.ref a.Unlike) "__getattr__" = some none
  ha_Unlike : PySem.W.findIn K (.ref a.Unlike) "__class__" = some (some (.builtin "object.__class__"))
  hm_Unlike : PySem.W.mroIn K a.Unlike (.type "object") = some true
  ve_Unlike : PySem.W.subIn K (.ref a.Unlike) (.type "ValueError") = some true
  s_Unlike_NoRow : PySem.W.subIn K (.ref a.Unlike) (.ref a.NoRow) = some false
  n_Unlike_NoRow : a.Unlike ≠ a.NoRow
  s_Unlike_NoNumber : PySem.W.subIn K (.ref a.Unlike) (.ref a.NoNumber) = some false
  n_Unlike_NoNumber : a.Unlike ≠ a.NoNumber
  s_Unlike_NoTaker : PySem.W.subIn K (.ref a.Unlike) (.ref a.NoTaker) = some false
  n_Unlike_NoTaker : a.Unlike ≠ a.NoTaker
  s_Unlike_NoSeen : PySem.W.subIn K (.ref a.Unlike) (.ref a.NoSeen) = some false
  n_Unlike_NoSeen : a.Unlike ≠ a.NoSeen
  s_Unlike_NoCounts : PySem.W.subIn K (.ref a.Unlike) (.ref a.NoCounts) = some false
  n_Unlike_NoCounts : a.Unlike ≠ a.NoCounts
  s_Unlike_NoPlace : PySem.W.subIn K (.ref a.Unlike) (.ref a.NoPlace) = some false
  n_Unlike_NoPlace : a.Unlike ≠ a.NoPlace
  s_Unlike_Full : PySem.W.subIn K (.ref a.Unlike) (.ref a.Full) = some false
  n_Unlike_Full : a.Unlike ≠ a.Full
  s_Unlike_TooMany : PySem.W.subIn K (.ref a.Unlike) (.ref a.TooMany) = some false
  s_Unlike_TakeError : PySem.W.subIn K (.ref a.Unlike) (.ref a.TakeError) = some true
  hn_get : PySem.W.specialIn K (.builtin "object.__class__") "__get__" = some (some (.builtin "getset_descriptor.__get__"))
  ht_get : PySem.W.takesIn K (.builtin "object.__class__") = some true
  code_law : ∃ (oc : Value) (od : Option Addr) (kV doc pm : Value) (an : Option Addr) (ct : Value) (osl : Array (Option Value)), fd.law = PySem.W.fnOf "law" "law" (defArgs s_law) (defBody s_law) (defScope s_law) .none kV doc pm an (.ref a.codeL) ct ∧ K.lookup a.law = some ⟨oc, od, .func fd.law, osl⟩ ∧ PySem.W.codeIn K (.ref a.codeL) "law" = true
theorem Txt.xc_Unlike {K : PySem.W.Frag} {mg : Str → Option Value} {a : Ad} {fd : Fd} (T : Txt K mg a fd) : ExcC K a.Unlike := ⟨T.hg_Unlike, T.hk_Unlike, T.sb_Unlike, T.d_Unlike, T.ha_Unlike, T.hn_get, T.ht_get, T.hm_Unlike⟩
def lamQ : Str := (envOfC "law" (defScope s_law) 0 0 .none).qual ++ "<lambda>"
section
variable {P : Program} {w : World} {K : PySem.W.Frag} {mg : Str → Option Value} {base : Heap} {a : Ad} {fd : Fd}
theorem ok_is_within (T : Txt K mg a fd) : FnOk P w K mg base CX0 1 a.is_within fd.is_within ["thing", "low", "high"] (lift sp_is_within) :=
  fun_d (t := b_is_within) (k := 0) T.F_is_within sc_is_within len_is_within (fun cdv A outer s H E hr => ⟨_, (pssd_one (qs_ret (ped_and (ped_isi (by rfl) T.n_isinstance (by rfl) T.n_int (by decide +kernel) (PEd.r (ped_var 0 (pv 0)))) (ped_and (ped_not (ped_isi (by rfl) T.n_isinstance (by rfl) T.n_bool (by decide +kernel) (PEd.r (ped_var 0 (pv 0))))) (ped_one (ped_chain op_le od_le op_le od_le (PEd.r (ped_var 1 (pv 1))) (PEd.r (ped_var 0 (pv 0))) (PEd.r (ped_var 2 (pv 2)))))))))⟩) rd_is_within
theorem ok_is_taker (T : Txt K mg a fd) : FnOk P w K mg base CX0 2 a.is_taker fd.is_taker ["thing"] (lift sp_is_taker) :=
  fun_d (t := b_is_taker) (k := 1) T.F_is_taker sc_is_taker len_is_taker (fun cdv A outer s H E hr => ⟨_, (pssd_cons (qs_if (ptd_w (pwd_or (ptd_not (ptd_val (ped_isi (by rfl) T.n_isinstance (by rfl) T.n_tuple (by decide +kernel) (PEd.r (ped_var 0 (pv 0)))))) (pwd_or (ptd_cmp (op_neD hr.units) od_ne (PEd.r (ped_callB call_len_seq cd_len (by rfl) T.n_len PySem.boot_len (par_cons (PEd.r (ped_var 0 (pv 0))) par_nil))) (PEd.r ped_int)) (pwd_or1 (ptd_not (ptd_val (ped_call (ok_is_within T) (hr.mono (by decide)) (by rfl) T.g_is_within T.F_is_within.kp T.b_is_within (pac_d (ped_ix ix_seq od_ix (PEd.r (ped_var 0 (pv 0))) (PEd.r ped_int)) (pac_d ped_int (pac_d ped_int pac_nil)))))))))) (pssd_one (qs_ret ped_bool)) pssd_nil)
      (pssd_one (qs_ret (ped_call (ok_is_within T) (hr.mono (by decide)) (by rfl) T.g_is_within T.F_is_within.kp T.b_is_within (pac_d (ped_ix ix_seq od_ix (PEd.r (ped_var 0 (pv 0))) (PEd.r ped_int)) (pac_d ped_int (pac_d (ped_op op_sub od_sub (PEd.r (ped_ix ix_seq od_ix (PEd.r (ped_var 0 (pv 0))) (PEd.r ped_int))) (PEd.r ped_int)) pac_nil)))))))⟩) rd_is_taker
theorem ok_is_row (T : Txt K mg a fd) : FnOk P w K mg base CX0 3 a.is_row fd.is_row ["thing"] (lift sp_is_row) :=
  fun_d (t := b_is_row) (k := 2) T.F_is_row sc_is_row len_is_row (fun cdv A outer s H E hr => ⟨_, (pssd_one (qs_ret (ped_and (ped_isi (by rfl) T.n_isinstance (by rfl) T.n_tuple (by decide +kernel) (PEd.r (ped_var 0 (pv 0)))) (ped_and (ped_cmp op_le od_le (PEd.r (ped_callB call_len_seq cd_len (by rfl) T.n_len PySem.boot_len (par_cons (PEd.r (ped_var 0 (pv 0))) par_nil))) (PEd.r ped_int)) (ped_one (ped_callB (cr_all rfl) cd_all (by rfl) T.n_all (by decide +kernel) (par_cons (PEn.r (ren_lc [("one", 1)] rfl rfl sc_is_row.nd (pid_seq (ped_var 0 (pv 0))) (blkOk_by (own := [("one", 1)]) (N := n_is_row) (sc := defScope s_is_row) (by decide +kernel)) (fun _ _ _ _ _ => (qg_name (i := 1) sc_is_row.nd rfl (Or.inl rfl))) (by decide) (fun _ _ _ _ _ => ptsd_nil) (fun _ _ _ _ _ => (ped_call (ok_is_taker T) (hr.mono (by decide)) (by rfl) T.g_is_taker T.F_is_taker.kp T.b_is_taker (pac_d (ped_var 1 (pv 1)) pac_nil))))) par_nil)))))))⟩) rd_is_row
theorem ok_need_row (T : Txt K mg a fd) : FnOk P w K mg base CX0 4 a.need_row fd.need_row ["row"] (lift sp_need_row) :=
  fun_d (t := b_need_row) (k := 3) T.F_need_row sc_need_row len_need_row (fun cdv A outer s H E hr => ⟨_, (pssd_one (qs_if (ptd_not (ptd_val (ped_call (ok_is_row T) (hr.mono (by decide)) (by rfl) T.g_is_row T.F_is_row.kp T.b_is_row (pac_d (ped_var 0 (pv 0)) pac_nil)))) (pssd_one psd_never) pssd_nil))⟩) rd_need_row
theorem ok_came_as (T : Txt K mg a fd) : FnOk P w K mg base CX0 1 a.came_as fd.came_as ["row", "number"] (lift sp_came_as) :=
  fun_d (t := b_came_as) (k := 0) T.F_came_as sc_came_as len_came_as (fun cdv A outer s H E hr => ⟨_, (pssd_cons (qs_for PassesOwn.never rfl (pid_seq (ped_rev (PEd.r (ped_var 0 (pv 0))))) (qg_tup rfl (qg_cons (qg_name (i := 2) sc_came_as.nd rfl (Or.inl rfl)) (qg_cons (qg_name (i := 3) sc_came_as.nd rfl (Or.inl rfl)) pgsd_nil)))
      (pssd_cons (qs_set (i := 4) sc_came_as.nd rfl (Or.inl rfl) (ped_op op_addA od_add (PEd.r (ped_var 1 (pv 1))) (PEd.r (ped_var 3 (pv 3)))))
      (pssd_one (qs_set (i := 1) sc_came_as.nd rfl (Or.inl rfl) (ped_op op_sub od_sub (PEd.r (ped_op op_addA od_add (PEd.r (ped_var 4 (pv 4))) (PEd.r (ped_op op_fdivW od_fdiv (PEd.r (ped_op op_sub od_sub (PEd.r (ped_var 4 (pv 4))) (PEd.r ped_int))) (PEd.r (ped_op op_sub od_sub (PEd.r (ped_var 2 (pv 2))) (PEd.r ped_int))))))) (PEd.r (ped_var 3 (pv 3))))))))
      (pssd_one (qs_ret (ped_var 1 (pv 1)))))⟩) rd_came_as
theorem ok_first_unlike (T : Txt K mg a fd) : FnOk P w K mg base CX0 1 a.first_unlike fd.first_unlike ["one", "other"] (lift sp_first_unlike) :=
  fun_d (t := b_first_unlike) (k := 0) T.F_first_unlike sc_first_unlike len_first_unlike (fun cdv A outer s H E hr => ⟨_, (pssd_cons (rs_par (i := 2) (j := 3) rfl sc_first_unlike.nd rfl rfl (by decide) rfl rfl (paf_cons (ped_op op_sub od_sub (PEd.r (ped_ix ix_seq od_ix (PEd.r (ped_var 0 (pv 0))) (PEd.r ped_int))) (PEd.r (ped_ix ix_seq od_ix (PEd.r (ped_var 0 (pv 0))) (PEd.r ped_int)))) (paf_cons (ped_op op_sub od_sub (PEd.r (ped_ix ix_seq od_ix (PEd.r (ped_var 1 (pv 1))) (PEd.r ped_int))) (PEd.r (ped_ix ix_seq od_ix (PEd.r (ped_var 1 (pv 1))) (PEd.r ped_int)))) paf_nil)) (by rfl))
      (pssd_cons (qs_if (ptd_cmp (op_neD hr.units) od_ne (PEd.r (ped_var 2 (pv 2))) (PEd.r (ped_var 3 (pv 3)))) (pssd_one (qs_ret (ped_callB (call_min2 rfl) cd_min2 (by rfl) T.n_min (by decide +kernel) (par_cons (PEd.r (ped_var 2 (pv 2))) (par_cons (PEd.r (ped_var 3 (pv 3))) par_nil))))) pssd_nil)
      (pssd_one (qs_ret (ped_if (ptd_cmp (op_eqD hr.units) od_eq (PEd.r (ped_var 0 (pv 0))) (PEd.r (ped_var 1 (pv 1)))) ped_none (ped_op op_addA od_add (PEd.r (ped_var 2 (pv 2))) (PEd.r (ped_callB (call_min2 rfl) cd_min2 (by rfl) T.n_min (by decide +kernel) (par_cons (PEd.r (ped_ix ix_seq od_ix (PEd.r (ped_var 0 (pv 0))) (PEd.r ped_int))) (par_cons (PEd.r (ped_ix ix_seq od_ix (PEd.r (ped_var 1 (pv 1))) (PEd.r ped_int))) par_nil))))))))))⟩) rd_first_unlike
theorem okx_parted (T : Txt K mg a fd) : FnOk P w K mg base (L2N.CX P w) 5 a.parted fd.parted ["one", "other"] (liftX (.ref a.Unlike) spx_parted) :=
  fun_x (t := bx_parted) (k := 4) T.F_parted sc_parted lenx_parted (fun cdv A outer s H E hr => ⟨_, (pxs_cons (qs_expr (ped_call (ok_need_row T) (hr.mono (by decide)) (by rfl) T.g_need_row T.F_need_row.kp T.b_need_row (pac_d (ped_var 0 (pv 0)) pac_nil)))
      (pxs_cons (qs_expr (ped_call (ok_need_row T) (hr.mono (by decide)) (by rfl) T.g_need_row T.F_need_row.kp T.b_need_row (pac_d (ped_var 1 (pv 1)) pac_nil)))
      (pxs_if rfl takesN (ptd_cmp (op_neD hr.units) od_ne (PEd.r (ped_callB call_len_seq cd_len (by rfl) T.n_len PySem.boot_len (par_cons (PEd.r (ped_var 0 (pv 0))) par_nil))) (PEd.r (ped_callB call_len_seq cd_len (by rfl) T.n_len PySem.boot_len (par_cons (PEd.r (ped_var 1 (pv 1))) par_nil)))) (pmk_own0 PySem.F.excBase_ValueError T.x_Unlike T.g_Unlike T.kp_Unlike (raises_own T.sb_Unlike T.t_Unlike) (by rfl)))))⟩) rdx_parted
theorem ok_parted (T : Txt K mg a fd) : FnOk P w K mg base CX0 5 a.parted fd.parted ["one", "other"] (lift sp_parted) :=
  fun_d (t := b_parted) (k := 4) T.F_parted sc_parted len_parted (fun cdv A outer s H E hr => ⟨_, (pssd_cons (qs_expr (ped_call (ok_need_row T) (hr.mono (by decide)) (by rfl) T.g_need_row T.F_need_row.kp T.b_need_row (pac_d (ped_var 0 (pv 0)) pac_nil)))
      (pssd_cons (qs_expr (ped_call (ok_need_row T) (hr.mono (by decide)) (by rfl) T.g_need_row T.F_need_row.kp T.b_need_row (pac_d (ped_var 1 (pv 1)) pac_nil)))
      (pssd_cons (qs_if (ptd_cmp (op_neD hr.units) od_ne (PEd.r (ped_callB call_len_seq cd_len (by rfl) T.n_len PySem.boot_len (par_cons (PEd.r (ped_var 0 (pv 0))) par_nil))) (PEd.r (ped_callB call_len_seq cd_len (by rfl) T.n_len PySem.boot_len (par_cons (PEd.r (ped_var 1 (pv 1))) par_nil)))) (pssd_one psd_never) pssd_nil)
      (pssd_cons (qs_setN (i := 2) sc_parted.nd rfl (Or.inl rfl) (pen_lst paf_nil))
      (pssd_cons (qs_for PassesOwn.never rfl (pid_r1 (by rfl) T.n_range (par_cons (PEd.r (ped_callB call_len_seq cd_len (by rfl) T.n_len PySem.boot_len (par_cons (PEd.r (ped_var 0 (pv 0))) par_nil))) par_nil)) (qg_name (i := 3) sc_parted.nd rfl (Or.inl rfl))
      (pssd_cons (qs_set (i := 4) sc_parted.nd rfl (Or.inl rfl) (ped_call (ok_first_unlike T) (hr.mono (by decide)) (by rfl) T.g_first_unlike T.F_first_unlike.kp T.b_first_unlike (pac_d (ped_ix ix_seq od_ix (PEd.r (ped_var 0 (pv 0))) (PEd.r (ped_var 3 (pv 3)))) (pac_d (ped_ix ix_seq od_ix (PEd.r (ped_var 1 (pv 1))) (PEd.r (ped_var 3 (pv 3)))) pac_nil))))
      (pssd_one (qs_if (ptd_cmp op_notN od_isnt (PEd.r (ped_var 4 (pv 4))) (PEd.r ped_none)) (pssd_one (qs_app (pv 2) (ped_call (ok_came_as T) (hr.mono (by decide)) (by rfl) T.g_came_as T.F_came_as.kp T.b_came_as (pac_d (ped_sl (PEd.r (ped_var 0 (pv 0))) pod_none (pod_some (ped_var 3 (pv 3)))) (pac_d (ped_var 4 (pv 4)) pac_nil))))) pssd_nil))))
      (pssd_freeze 2 (pssd_one (qs_ret (ped_if (ptd_cmp (op_neD hr.units) od_ne (PEd.r (ped_var 2 (pv 2))) (PEn.r (pen_lst paf_nil))) (ped_callB (cr_min rfl) cd_min (by rfl) T.n_min (by decide +kernel) (par_cons (PEd.r (ped_var 2 (pv 2))) par_nil)) ped_none)))))))))⟩) rd_parted
theorem ok_law_cell_at (T : Txt K mg a fd) : FnOk P w K mg base CX0 1 a.law_cell_at fd.law_cell_at ["script", "k"] (Pd.spCell K) := by
  refine T.F_law_cell_at.ok (k := 0) sc_law_cell_at (fun vs H Q E h => ?_) (fun cdv A outer s H vs Q E hr h => ?_)
  · obtain ⟨_, _, _, rfl, _⟩ := h
    rfl
  · exact ⟨Pd.tCell K, (pss_cons (ps_if (pt_cmpR op_lt (pv 1) (pe_callB call_len_seq (by rfl) T.n_len PySem.boot_len (pa_cons (pv 0) pa_nil)) (nomark _)) (pss_one (ps_ret (pe_ix ix_list (pv 0) (pv 1) (fun _ _ => rfl)))) pss_nil) (pss_one (ps_ret pe_int))), Pd.rd_cell h⟩
theorem ok_law_draws (T : Txt K mg a fd) : FnOk P w K mg base CX0 1 a.law_draws fd.law_draws ["cell", "many", "size"] (lift sp_law_draws) :=
  fun_d (t := b_law_draws) (k := 0) T.F_law_draws sc_law_draws len_law_draws (fun cdv A outer s H E hr => ⟨_, (pssd_cons (qs_setN (i := 3) sc_law_draws.nd rfl (Or.inl rfl) (pen_lst paf_nil))
      (pssd_cons (qs_set (i := 4) sc_law_draws.nd rfl (Or.inl rfl) (ped_op op_mulB od_mul (PEd.r (ped_var 0 (pv 0))) (PEd.r (ped_callTy call_int1 cd_int (by rfl) T.n_int (by decide +kernel) (par_cons (PEd.r (ped_cmp op_ge od_ge (PEd.r (ped_var 0 (pv 0))) (PEd.r (ped_op op_pow od_pow (PEd.r ped_int) (PEd.r ped_int))))) par_nil)))))
      (pssd_cons (qs_set (i := 5) sc_law_draws.nd rfl (Or.inl rfl) (ped_op op_mod od_mod (PEd.r (ped_var 0 (pv 0))) (PEd.r ped_int)))
      (pssd_cons (qs_for PassesOwn.never rfl (pid_r1 (by rfl) T.n_range (par_cons (PEd.r (ped_op op_addA od_add (PEd.r (ped_var 1 (pv 1))) (PEd.r ped_int))) par_nil)) (qg_name (i := 6) sc_law_draws.nd rfl (Or.inl rfl))
      (pssd_cons (qs_set (i := 5) sc_law_draws.nd rfl (Or.inl rfl) (ped_op op_mod od_mod (PEd.r (ped_op op_addA od_add (PEd.r (ped_op op_addA od_add (PEd.r (ped_op op_addA od_add (PEd.r (ped_op op_mulB od_mul (PEd.r (ped_var 5 (pv 5))) (PEd.r (ped_var 5 (pv 5))))) (PEd.r (ped_op op_mulB od_mul (PEd.r ped_int) (PEd.r (ped_var 5 (pv 5))))))) (PEd.r (ped_var 6 (pv 6))))) (PEd.r ped_int))) (PEd.r ped_int)))
      (pssd_one (qs_if (ptd_w (pwd_and (ptd_cmp op_gt od_gt (PEd.r (ped_var 6 (pv 6))) (PEd.r ped_int)) (pwd_and1 (ptd_cmp op_gt od_gt (PEd.r (ped_var 4 (pv 4))) (PEd.r ped_int))))) (pssd_cons (qs_app (pv 3) (ped_op op_mod od_mod (PEd.r (ped_var 4 (pv 4))) (PEd.r (ped_var 2 (pv 2)))))
      (pssd_one (qs_set (i := 4) sc_law_draws.nd rfl (Or.inl rfl) (ped_op op_fdivW od_fdiv (PEd.r (ped_var 4 (pv 4))) (PEd.r (ped_var 2 (pv 2))))))) (pssd_one (qs_if (ptd_cmp op_gt od_gt (PEd.r (ped_var 6 (pv 6))) (PEd.r ped_int)) (pssd_one (qs_app (pv 3) (ped_op op_mod od_mod (PEd.r (ped_op op_fdivW od_fdiv (PEd.r (ped_var 5 (pv 5))) (PEd.r ped_int))) (PEd.r (ped_var 2 (pv 2)))))) pssd_nil))))))
      (pssd_one (qs_retO 3 (pv 3)))))))⟩) rd_law_draws
theorem ok_law_bag (T : Txt K mg a fd) : FnOk P w K mg base CX0 2 a.law_bag fd.law_bag ["script", "k"] (Pd.spBag K) := by
  refine T.F_law_bag.ok (k := 1) sc_law_bag (fun vs H Q E h => ?_) (fun cdv A outer s H vs Q E hr h => ?_)
  · obtain ⟨_, _, _, rfl, _⟩ := h
    rfl
  · exact ⟨Pd.tBag K, (pss_one (ps_ret (pe_lst (pa_cons (pe_call (ok_law_draws T) (hr.mono (by decide)) (by rfl) T.g_law_draws T.F_law_draws.kp T.b_law_draws .nil pass0 (pa_cons (pe_call (ok_law_cell_at T) (hr.mono (by decide)) (by rfl) T.g_law_cell_at T.F_law_cell_at.kp T.b_law_cell_at .nil pass0 (pa_cons (pv 0) (pa_cons (pv 1) pa_nil))) (pa_cons pe_int (pa_cons pe_int pa_nil)))) (pa_cons pe_int pa_nil))))), Pd.rd_bag h⟩
theorem ok_law_bags (T : Txt K mg a fd) : FnOk P w K mg base CX0 3 a.law_bags fd.law_bags ["script", "limit"] (Pd.spBags K) := by
  refine T.F_law_bags.ok (k := 2) sc_law_bags (fun vs H Q E h => ?_) (fun cdv A outer s H vs Q E hr h => ?_)
  · obtain ⟨_, _, _, rfl, _⟩ := h
    rfl
  · exact ⟨Pd.tBags K, (pss_one (ps_ret (pe_lc (own := [("k", 2)]) (g := gName 2) (tt := tYes) rfl sc_law_bags.nd (pi_range1 (by rfl) T.n_range (pa_cons (pe_callB (call_max2 rfl) (by rfl) T.n_max (by decide +kernel) (pa_cons pe_int (pa_cons (pe_callB (call_min2 rfl) (by rfl) T.n_min (by decide +kernel) (pa_cons (pv 1) (pa_cons (pe_callB call_len_seq (by rfl) T.n_len PySem.boot_len (pa_cons (pv 0) pa_nil)) pa_nil))) pa_nil))) pa_nil)) (blkOk_by (own := [("k", 2)]) (N := n_law_bags) (sc := defScope s_law_bags) (by decide +kernel)) (fun _ _ _ _ _ => pg_name (i := 2) sc_law_bags.nd rfl (Or.inl rfl)) (fun _ _ _ _ _ => pts_nil) (fun _ _ _ _ _ => (pe_call (ok_law_bag T) (hr.mono (by decide)) (by rfl) T.g_law_bag T.F_law_bag.kp T.b_law_bag .nil pass0 (pa_cons (pv 0) (pa_cons (pv 2) pa_nil))))))), Pd.rd_bags h⟩
theorem ok_law_take (T : Txt K mg a fd) : FnOk P w K mg base CX0 1 a.law_take fd.law_take ["bag", "many"] (lift Pd.spTake) := by
  refine T.F_law_take.ok (k := 0) sc_law_take (fun vs H Q E h => ?_) (fun cdv A outer s H vs Q E hr h => ?_)
  · obtain ⟨_, _, _, _, _, r, _, ⟨_, rfl, _⟩, _⟩ := h
    exact (pairedLen r).trans rfl
  · exact ⟨Pd.tTake K, (pss_cons (ps_asg (pe_op op_add (pe_ix ix_list (pv 0) pe_int (fun _ _ => rfl)) pe_int) (pg_sub (pv 0) pe_int set_list)) (pss_one (ps_ret (pe_op op_mod (pe_ix ix_list (pe_ix ix_list (pv 0) pe_int (fun _ _ => rfl)) (pe_op op_mod (pe_ix ix_list (pv 0) pe_int (fun _ _ => rfl)) (pe_callB call_len_seq (by rfl) T.n_len PySem.boot_len (pa_cons (pe_ix ix_list (pv 0) pe_int (fun _ _ => rfl)) pa_nil))) (fun _ _ => rfl)) (pv 1))))), Pd.rd_take h⟩
theorem ok_law_taker (T : Txt K mg a fd) : FnOk P w K mg base CX0 2 a.law_taker fd.law_taker ["bag", "far"] (lift sp_law_taker) :=
  fun_d (t := b_law_taker) (k := 1) T.F_law_taker sc_law_taker len_law_taker (fun cdv A outer s H E hr => ⟨_, (pssd_cons (qs_set (i := 2) sc_law_taker.nd rfl (Or.inl rfl) (ped_op op_addA od_add (PEd.r ped_int) (PEd.r (ped_ix ix_seq od_ix (PEn.r (pen_lst (paf_cons (ped_call (ok_law_take T) (hr.mono (by decide)) (by rfl) T.g_law_take T.F_law_take.kp T.b_law_take (pac_bag 0 (pv 0) (pac_d (ped_callB (call_min2 rfl) cd_min2 (by rfl) T.n_min (by decide +kernel) (par_cons (PEd.r ped_int) (par_cons (PEd.r (ped_op op_sub od_sub (PEd.r (ped_var 1 (pv 1))) (PEd.r ped_int))) par_nil))) pac_nil))) (paf_cons (ped_call (ok_law_take T) (hr.mono (by decide)) (by rfl) T.g_law_take T.F_law_take.kp T.b_law_take (pac_bag 0 (pv 0) (pac_d (ped_op op_sub od_sub (PEd.r (ped_var 1 (pv 1))) (PEd.r ped_int)) pac_nil))) paf_nil)))) (PEd.r (ped_call (ok_law_take T) (hr.mono (by decide)) (by rfl) T.g_law_take T.F_law_take.kp T.b_law_take (pac_bag 0 (pv 0) (pac_d ped_int pac_nil))))))))
      (pssd_one (qs_ret (ped_tup (paf_cons (ped_var 2 (pv 2)) (paf_cons (ped_ix ix_seq od_ix (PEn.r (pen_lst (paf_cons ped_int (paf_cons (ped_call (ok_law_take T) (hr.mono (by decide)) (by rfl) T.g_law_take T.F_law_take.kp T.b_law_take (pac_bag 0 (pv 0) (pac_d (ped_var 2 (pv 2)) pac_nil))) (paf_cons (ped_op op_sub od_sub (PEd.r (ped_var 2 (pv 2))) (PEd.r ped_int)) paf_nil))))) (PEd.r (ped_call (ok_law_take T) (hr.mono (by decide)) (by rfl) T.g_law_take T.F_law_take.kp T.b_law_take (pac_bag 0 (pv 0) (pac_d ped_int pac_nil))))) paf_nil))))))⟩) rd_law_taker
theorem ok_law_drawn_row (T : Txt K mg a fd) : FnOk P w K mg base CX0 3 a.law_drawn_row fd.law_drawn_row ["bag", "takers", "far"] (lift sp_law_drawn_row) :=
  fun_d (t := b_law_drawn_row) (k := 2) T.F_law_drawn_row sc_law_drawn_row len_law_drawn_row (fun cdv A outer s H E hr => ⟨_, (pssd_one (qs_ret (ped_callTy call_tuple_of cd_tuple (by rfl) T.n_tuple (by decide +kernel) (par_cons (PEn.r (ren_lc [("turn", 3)] rfl rfl sc_law_drawn_row.nd (pid_r1 (by rfl) T.n_range (par_cons (PEd.r (ped_call (ok_law_take T) (hr.mono (by decide)) (by rfl) T.g_law_take T.F_law_take.kp T.b_law_take (pac_bag 0 (pv 0) (pac_d (ped_op op_addA od_add (PEd.r (ped_var 1 (pv 1))) (PEd.r ped_int)) pac_nil)))) par_nil)) (blkOk_by (own := [("turn", 3)]) (N := n_law_drawn_row) (sc := defScope s_law_drawn_row) (by decide +kernel)) (fun _ _ _ _ _ => (qg_name (i := 3) sc_law_drawn_row.nd rfl (Or.inl rfl))) (by decide) (fun _ _ _ _ _ => ptsd_nil) (fun _ _ _ _ _ => (ped_call (ok_law_taker T) (hr.mono (by decide)) (by rfl) T.g_law_taker T.F_law_taker.kp T.b_law_taker (pac_bag 0 (pv 0) (pac_d (ped_var 2 (pv 2)) pac_nil)))))) par_nil))))⟩) rd_law_drawn_row
theorem ok_law_gone (T : Txt K mg a fd) : FnOk P w K mg base CX0 1 a.law_gone fd.law_gone ["house", "many"] (lift sp_law_gone) :=
  fun_d (t := b_law_gone) (k := 0) T.F_law_gone sc_law_gone len_law_gone (fun cdv A outer s H E hr => ⟨_, (pssd_cons (rs_parNE (i := 2) (j := 3) rfl sc_law_gone.nd rfl rfl (by decide) rfl rfl (ren_lc [("one", 9)] rfl rfl sc_law_gone.nd (pid_seq (ped_var 0 (pv 0))) (blkOk_by (own := [("one", 9)]) (N := n_law_gone) (sc := defScope s_law_gone) (by decide +kernel)) (fun _ _ _ _ _ => (qg_name (i := 9) sc_law_gone.nd rfl (Or.inl rfl))) (by decide) (fun _ _ _ _ _ => ptsd_nil) (fun _ _ _ _ _ => (ped_ix ix_seq od_ix (PEd.r (ped_var 9 (pv 9))) (PEd.r ped_int)))) (by rfl))
      (pssd_cons (qs_for PassesOwn.never rfl (pid_r1 (by rfl) T.n_range (par_cons (PEd.r (ped_var 1 (pv 1))) par_nil)) (qg_name (i := 4) sc_law_gone.nd rfl (Or.inl rfl))
      (pssd_cons (qs_set (i := 5) sc_law_gone.nd rfl (Or.inl rfl) ped_none)
      (pssd_cons (qs_for PassesOwn.never rfl (pid_enum (by rfl) T.n_enumerate (paf_cons (ped_var 0 (pv 0)) paf_nil)) (qg_tup rfl (qg_cons (qg_name (i := 6) sc_law_gone.nd rfl (Or.inl rfl)) (qg_cons (qg_tup rfl (qg_cons (qg_name (i := 7) sc_law_gone.nd rfl (Or.inl rfl)) (qg_cons (qg_name (i := 8) sc_law_gone.nd rfl (Or.inl rfl)) pgsd_nil))) pgsd_nil)))
      (pssd_one (qs_if (ptd_cmp op_isN od_is (PEd.r (ped_var 5 (pv 5))) (PEd.r ped_none)) (pssd_cons (rs_setI (pv 2) (ped_var 6 (pv 6)) (ped_op op_mod od_mod (PEd.r (ped_op op_addA od_add (PEd.r (ped_ix ix_seq od_ix (per_own 2 (pv 2)) (PEd.r (ped_var 6 (pv 6))))) (PEd.r ped_int))) (PEd.r (ped_var 7 (pv 7)))))
      (pssd_one (qs_if (ptd_cmp (op_eqD hr.units) od_eq (PEd.r (ped_ix ix_seq od_ix (per_own 2 (pv 2)) (PEd.r (ped_var 6 (pv 6))))) (PEd.r ped_int)) (pssd_one (qs_set (i := 5) sc_law_gone.nd rfl (Or.inl rfl) (ped_var 6 (pv 6)))) pssd_nil))) pssd_nil)))
      (pssd_one (qs_app (pv 3) (ped_var 5 (pv 5)))))))
      (pssd_freeze 3 (pssd_freeze 2 (pssd_one (qs_ret (ped_tup (paf_cons (ped_var 3 (pv 3)) (paf_cons (ped_var 2 (pv 2)) paf_nil)))))))))⟩) rd_law_gone
theorem ok_law_refused (T : Txt K mg a fd) : FnOk P w K mg base CX0 7 a.law_refused fd.law_refused ["call", "one", "two", "three"] (spRef P w K mg base 6 a.Unlike (Str.ofString "Unlike")) := by
  refine T.F_law_refused.ok (k := 6) sc_law_refused (fun vs H Q E h => ?_) (fun cdv A outer s H vs Q E hr h => ?_)
  · obtain ⟨_, _, _, _, _, _, _, _, _, rfl, _, _, _, _, r, _⟩ := h
    exact congrArg (· + 1) ((pairedLen r).trans rfl)
  · obtain ⟨f, Φ, dsp, F, fp, ws, x1, x2, x3, rfl, hC, hst, hΦ, e, r, hb, hd, kk⟩ := h
    have q0 : PSd (cxOf CX0 P w K mg base n_law_refused "_law_refused" (defScope s_law_refused) a.law_refused cdv A outer s H E).nox (stAt s_law_refused 0) _ b_refused0 := (qs_setN (i := 4) sc_law_refused.nd rfl (Or.inl rfl) (pen_lst paf_nil))
    have q2 : PSd (cxOf CX0 P w K mg base n_law_refused "_law_refused" (defScope s_law_refused) a.law_refused cdv A outer s H E).nox (stAt s_law_refused 2) _ b_refused2 := (qs_retO 4 (pv 4))
    have qs : ∃ ts2 : Addr → TS, ∀ (b : Addr) (oe : Obj) (pn : List (Addr × Obj)), L2N.Zn (.ref a.Unlike) none oe → (∃ vs, oe.data = .fields vs) → PSsd ((cxOf CX0 P w K mg base n_law_refused "_law_refused" (defScope s_law_refused) a.law_refused cdv A outer s H E).nox.suite b ((b, oe) :: pn)) (suiteAt s_law_refused 1 1) (ts2 b) (b_refusedS_Unlike b) := ⟨_, fun b oe pn hz hf => have hot : L2H.HotC ((cxOf CX0 P w K mg base n_law_refused "_law_refused" (defScope s_law_refused) a.law_refused cdv A outer s H E).nox.suite b ((b, oe) :: pn)) := hotC (vs := #[]) hz hf; (pssd_cons (qs_set (i := 6) sc_law_refused.nd rfl (Or.inl rfl) (PEn.d (pen_lst (paf_cons (ped_tup (paf_cons ped_str (paf_cons (ped_isE (c := .ref a.NoRow) hz hf T.xc_Unlike (kit_ref T.n_Unlike_NoRow T.d_NoRow T.t_NoRow T.s_Unlike_NoRow) (fun _ r => r) (by rfl) T.n_isinstance (pv 5) (pe_glob (v := .ref _) (by rfl) T.g_NoRow rfl)) paf_nil))) (paf_cons (ped_tup (paf_cons ped_str (paf_cons (ped_isE (c := .ref a.NoNumber) hz hf T.xc_Unlike (kit_ref T.n_Unlike_NoNumber T.d_NoNumber T.t_NoNumber T.s_Unlike_NoNumber) (fun _ r => r) (by rfl) T.n_isinstance (pv 5) (pe_glob (v := .ref _) (by rfl) T.g_NoNumber rfl)) paf_nil))) paf_nil)))))
      (pssd_cons (qs_set (i := 6) sc_law_refused.nd rfl (Or.inl rfl) (ped_op op_addA od_add (PEd.r (ped_var 6 (pv 6))) (PEn.r (pen_lst (paf_cons (ped_tup (paf_cons ped_str (paf_cons (ped_isE (c := .ref a.NoTaker) hz hf T.xc_Unlike (kit_ref T.n_Unlike_NoTaker T.d_NoTaker T.t_NoTaker T.s_Unlike_NoTaker) (fun _ r => r) (by rfl) T.n_isinstance (pv 5) (pe_glob (v := .ref _) (by rfl) T.g_NoTaker rfl)) paf_nil))) paf_nil)))))
      (pssd_cons (qs_set (i := 6) sc_law_refused.nd rfl (Or.inl rfl) (ped_op op_addA od_add (PEd.r (ped_var 6 (pv 6))) (PEn.r (pen_lst (paf_cons (ped_tup (paf_cons ped_str (paf_cons (ped_isE (c := .ref a.NoSeen) hz hf T.xc_Unlike (kit_ref T.n_Unlike_NoSeen T.d_NoSeen T.t_NoSeen T.s_Unlike_NoSeen) (fun _ r => r) (by rfl) T.n_isinstance (pv 5) (pe_glob (v := .ref _) (by rfl) T.g_NoSeen rfl)) paf_nil))) (paf_cons (ped_tup (paf_cons ped_str (paf_cons (ped_isE (c := .ref a.NoCounts) hz hf T.xc_Unlike (kit_ref T.n_Unlike_NoCounts T.d_NoCounts T.t_NoCounts T.s_Unlike_NoCounts) (fun _ r => r) (by rfl) T.n_isinstance (pv 5) (pe_glob (v := .ref _) (by rfl) T.g_NoCounts rfl)) paf_nil))) paf_nil))))))
      (pssd_cons (qs_set (i := 6) sc_law_refused.nd rfl (Or.inl rfl) (ped_op op_addA od_add (PEd.r (ped_var 6 (pv 6))) (PEn.r (pen_lst (paf_cons (ped_tup (paf_cons ped_str (paf_cons (ped_isE (c := .ref a.NoPlace) hz hf T.xc_Unlike (kit_ref T.n_Unlike_NoPlace T.d_NoPlace T.t_NoPlace T.s_Unlike_NoPlace) (fun _ r => r) (by rfl) T.n_isinstance (pv 5) (pe_glob (v := .ref _) (by rfl) T.g_NoPlace rfl)) paf_nil))) (paf_cons (ped_tup (paf_cons ped_str (paf_cons (ped_isE (c := .ref a.Unlike) hz hf T.xc_Unlike kit_self (fun _ r => r) (by rfl) T.n_isinstance (pv 5) (pe_glob (v := .ref _) (by rfl) T.g_Unlike rfl)) paf_nil))) paf_nil))))))
      (pssd_cons (qs_set (i := 6) sc_law_refused.nd rfl (Or.inl rfl) (ped_op op_addA od_add (PEd.r (ped_var 6 (pv 6))) (PEn.r (pen_lst (paf_cons (ped_tup (paf_cons ped_str (paf_cons (ped_isE (c := .ref a.Full) hz hf T.xc_Unlike (kit_ref T.n_Unlike_Full T.d_Full T.t_Full T.s_Unlike_Full) (fun _ r => r) (by rfl) T.n_isinstance (pv 5) (pe_glob (v := .ref _) (by rfl) T.g_Full rfl)) paf_nil))) paf_nil)))))
      (pssd_one (qs_setN (i := 4) sc_law_refused.nd rfl (Or.inl rfl) (pen_op op_cat on_cat (PEn.r (ren_lcH (K := K) rfl [("word", 7), ("there", 8)] rfl hot rfl rfl sc_law_refused.nd (ped_var 6 (pv 6)) (blkOk_by (own := [("word", 7), ("there", 8)]) (N := n_law_refused) (sc := defScope s_law_refused) (by decide +kernel)) (fun _ _ _ _ _ => (qg_cons (qg_name (i := 7) sc_law_refused.nd rfl (Or.inl rfl)) (qg_cons (qg_name (i := 8) sc_law_refused.nd rfl (Or.inl rfl)) pgsd_nil))) (by decide) (fun _ _ _ _ _ => (ptsd_one (ptd_val (ped_var 8 (pv 8))))) (fun _ _ _ _ _ => (ped_var 7 (pv 7))))) (PEn.r (pen_lst (paf_cons (ped_isE (c := .ty "ValueError") hz hf T.xc_Unlike (kit_ve T.ve_Unlike) (fun _ r => r) (by rfl) T.n_isinstance (pv 5) (pe_bltn (v := .ty "ValueError") (by rfl) T.n_ValueError (by decide +kernel) rfl)) paf_nil)))))))))))⟩
    obtain ⟨ts2, qs⟩ := qs
    obtain ⟨ow, zw, fw⟩ := zn_wit (U := a.Unlike)
    refine ⟨_, pss_cons q0.ps (pss_cons (ps_try2 (i := 5) (ts1 := fun _ _ _ _ _ _ => False) (ts2 := fun b cls d D σ H => (cls = .ref a.Unlike ∧ d = none) ∧ ts2 b D σ H) (tb := fun W => tDrop (tCallV 0 f Φ (liftX (.ref a.Unlike) dsp) (WE W) (tCons (tVar 1) (tCons (tVar 2) (tCons (tVar 3) tNil))))) rfl rfl sc_law_refused.nd rfl rfl ⟨by rfl, by decide, .inl T.g_TooMany⟩ ⟨by rfl, by decide, .inl T.g_TakeError⟩
      (fun W pn xe tk po => pss_one (ps_expr (pe_callV (i := 0) hC (hr.mono (by decide)) rfl (Or.inl rfl) (fun σ => L2N.passAt tk σ) (pa_cons (pv 1) (pa_cons (pv 2) (pa_cons (pv 3) pa_nil)))))) (fun _ _ _ _ _ _ _ => pss_none) (fun b oe cls d pn hz hf => pss_when fun hp => by
        obtain ⟨rfl, rfl⟩ := hp
        exact (qs b oe pn hz hf).ps)) (pss_one q2.ps)), ?_⟩
    exact rd_ref (N := n_law_refused) q0.s q2.s (fun b => (qs b ow [] zw fw).s) (PySem.W.exm_ref T.sb_TooMany T.d_TooMany T.t_TooMany T.s_Unlike_TooMany) (PySem.W.exm_ref T.sb_TakeError T.d_TakeError T.t_TakeError T.s_Unlike_TakeError) hst hΦ e r hb hd kk (rd_refused0 f x1 x2 x3) (rd_refusedS_Unlike f x1 x2 x3)
theorem ok_law_near (T : Txt K mg a fd) : FnOk P w K mg base CX0 3 a.law_near fd.law_near ["bag", "house"] (lift sp_law_near) :=
  fun_d (t := b_law_near) (k := 2) T.F_law_near sc_law_near len_law_near (fun cdv A outer s H E hr => ⟨_, (pssd_cons (qs_if (ptd_cmp (op_eqD hr.units) od_eq (PEd.r (ped_var 1 (pv 1))) (PEd.r (ped_tup paf_nil))) (pssd_one (qs_ret (ped_var 1 (pv 1)))) pssd_nil)
      (pssd_cons (qs_set (i := 2) sc_law_near.nd rfl (Or.inl rfl) (ped_call (ok_law_take T) (hr.mono (by decide)) (by rfl) T.g_law_take T.F_law_take.kp T.b_law_take (pac_bag 0 (pv 0) (pac_d (ped_callB call_len_seq cd_len (by rfl) T.n_len PySem.boot_len (par_cons (PEd.r (ped_var 1 (pv 1))) par_nil)) pac_nil))))
      (pssd_cons (qs_asg (ped_ix ix_seq od_ix (PEd.r (ped_var 1 (pv 1))) (PEd.r (ped_var 2 (pv 2)))) (qg_tup rfl (qg_cons (qg_name (i := 3) sc_law_near.nd rfl (Or.inl rfl)) (qg_cons (qg_name (i := 4) sc_law_near.nd rfl (Or.inl rfl)) pgsd_nil))))
      (pssd_cons (qs_set (i := 5) sc_law_near.nd rfl (Or.inl rfl) (PEn.d (pen_lst (paf_cons (ped_tup (paf_cons (ped_var 3 (pv 3)) (paf_cons (ped_call (ok_law_take T) (hr.mono (by decide)) (by rfl) T.g_law_take T.F_law_take.kp T.b_law_take (pac_bag 0 (pv 0) (pac_d (ped_var 3 (pv 3)) pac_nil))) paf_nil))) (paf_cons (ped_tup (paf_cons (ped_callB (call_min2 rfl) cd_min2 (by rfl) T.n_min (by decide +kernel) (par_cons (PEd.r ped_int) (par_cons (PEd.r (ped_op op_addA od_add (PEd.r (ped_var 3 (pv 3))) (PEd.r ped_int))) par_nil))) (paf_cons (ped_var 4 (pv 4)) paf_nil))) paf_nil)))))
      (pssd_cons (qs_set (i := 5) sc_law_near.nd rfl (Or.inl rfl) (ped_op op_addA od_add (PEd.r (ped_var 5 (pv 5))) (PEn.r (pen_lst (paf_cons (ped_call (ok_law_taker T) (hr.mono (by decide)) (by rfl) T.g_law_taker T.F_law_taker.kp T.b_law_taker (pac_bag 0 (pv 0) (pac_d ped_int pac_nil))) (paf_cons (ped_tup (paf_cons (ped_var 3 (pv 3)) (paf_cons (ped_var 4 (pv 4)) paf_nil))) paf_nil))))))
      (pssd_cons (qs_set (i := 6) sc_law_near.nd rfl (Or.inl rfl) (ped_op op_addA od_add (PEd.r (ped_op op_addA od_add (PEd.r (ped_sl (PEd.r (ped_var 1 (pv 1))) pod_none (pod_some (ped_var 2 (pv 2))))) (PEd.r (ped_tup (paf_cons (ped_ix ix_seq od_ix (PEd.r (ped_var 5 (pv 5))) (PEd.r (ped_call (ok_law_take T) (hr.mono (by decide)) (by rfl) T.g_law_take T.F_law_take.kp T.b_law_take (pac_bag 0 (pv 0) (pac_d ped_int pac_nil))))) paf_nil))))) (PEd.r (ped_sl (PEd.r (ped_var 1 (pv 1))) (pod_some (ped_op op_addA od_add (PEd.r (ped_var 2 (pv 2))) (PEd.r ped_int))) pod_none))))
      (pssd_one (qs_ret (ped_ix ix_seq od_ix (PEn.r (pen_lst (paf_cons (ped_var 6 (pv 6)) (paf_cons (ped_var 6 (pv 6)) (paf_cons (ped_rev (PEd.r (ped_var 1 (pv 1)))) paf_nil))))) (PEd.r (ped_call (ok_law_take T) (hr.mono (by decide)) (by rfl) T.g_law_take T.F_law_take.kp T.b_law_take (pac_bag 0 (pv 0) (pac_d ped_int pac_nil)))))))))))))⟩) rd_law_near
theorem ok_law (T : Txt K mg a fd) (TB : LamX.TabB base mg a.codeL a.tabP) : FnOk P w K mg base CX0 8 a.law fd.law ["script"] (Pd.spLawT K a.tabP) := by
  obtain ⟨oc, od, kV, doc, pm, an, ct, osl, e, lk, hcd⟩ := T.code_law
  rw [e]
  rw [e] at lk
  refine okC (k := 7) lk hcd sc_law (fun vs H Q E h => ?_) (fun A outer s H vs Q E hr h => ?_)
  · obtain ⟨_, _, _, rfl, _⟩ := h
    rfl
  · have hb : PSsd (cxOf CX0 P w K mg base n_law "law" (defScope s_law) a.law (.ref a.codeL) A outer s H E).nox (lawLoop s_law) _ (b_law_loop a.tabP lamQ) := (pssd_cons (qs_set (i := 2) sc_law.nd rfl (Or.inl rfl) (ped_call (ok_law_drawn_row T) (hr.mono (by decide)) (by rfl) T.g_law_drawn_row T.F_law_drawn_row.kp T.b_law_drawn_row (pac_bag 1 (pv 1) (pac_d ped_int (pac_d (ped_ix ix_seq od_ix (PEn.r (pen_lst (paf_cons ped_int (paf_cons ped_int paf_nil)))) (PEd.r (ped_call (ok_law_take T) (hr.mono (by decide)) (by rfl) T.g_law_take T.F_law_take.kp T.b_law_take (pac_bag 1 (pv 1) (pac_d ped_int pac_nil))))) pac_nil)))))
      (pssd_cons (qs_set (i := 3) sc_law.nd rfl (Or.inr rfl) (ped_ix ix_seq od_ix (PEd.r (ped_call (ok_law_gone T) (hr.mono (by decide)) (by rfl) T.g_law_gone T.F_law_gone.kp T.b_law_gone (pac_d (ped_var 2 (pv 2)) (pac_d ped_int pac_nil)))) (PEd.r ped_int)))
      (pssd_cons (qs_for PassesOwn.never rfl (pid_r1 (by rfl) T.n_range (par_cons (PEd.r ped_int) par_nil)) (qg_name (i := 4) sc_law.nd rfl (Or.inl rfl))
      (pssd_cons (qs_set (i := 5) sc_law.nd rfl (Or.inl rfl) (ped_call (ok_law_near T) (hr.mono (by decide)) (by rfl) T.g_law_near T.F_law_near.kp T.b_law_near (pac_bag 1 (pv 1) (pac_d (ped_var 2 (pv 2)) pac_nil))))
      (pssd_cons (qs_set (i := 6) sc_law.nd rfl (Or.inr rfl) (ped_ix ix_seq od_ix (PEd.r (ped_call (ok_law_gone T) (hr.mono (by decide)) (by rfl) T.g_law_gone T.F_law_gone.kp T.b_law_gone (pac_d (ped_var 5 (pv 5)) (pac_d ped_int pac_nil)))) (PEd.r ped_int)))
      (pssd_cons (rs_lc (i := 7) [("piece", 9)] rfl rfl sc_law.nd rfl rfl (sw_true rfl rfl rfl (by decide +kernel)) (pid_r1 (by rfl) T.n_range (par_cons (PEd.r ped_int) par_nil)) (blkOk_by (own := [("piece", 9)]) (N := n_law) (sc := defScope s_law) (by decide +kernel)) (fun _ _ _ _ _ => (qg_name (i := 9) sc_law.nd rfl (Or.inl rfl))) (by decide) (fun _ _ _ _ _ => (ptsd_one (ptd_cmp (op_neD hr.units) od_ne (PEd.r (ped_ix ix_seq od_ix (PEd.r (ped_var 3 (pv 3))) (PEd.r (ped_var 9 (pv 9))))) (PEd.r (ped_ix ix_seq od_ix (PEd.r (ped_var 6 (pv 6))) (PEd.r (ped_var 9 (pv 9)))))))) (fun _ _ _ _ _ => (ped_op op_addA od_add (PEd.r (ped_var 9 (pv 9))) (PEd.r ped_int))))
      (pssd_cons (qs_set (i := 8) sc_law.nd rfl (Or.inl rfl) (ped_call (ok_parted T) (hr.mono (by decide)) (by rfl) T.g_parted T.F_parted.kp T.b_parted (pac_d (ped_var 2 (pv 2)) (pac_d (ped_var 5 (pv 5)) pac_nil))))
      (pssd_cons (qs_if (ptd_w (pwd_or (ptd_cmp (op_neD hr.units) od_ne (PEd.r (ped_call (ok_parted T) (hr.mono (by decide)) (by rfl) T.g_parted T.F_parted.kp T.b_parted (pac_d (ped_var 5 (pv 5)) (pac_d (ped_var 2 (pv 2)) pac_nil)))) (PEd.r (ped_var 8 (pv 8)))) (pwd_or1 (ptd_cmp (op_neD hr.units) od_ne (PEd.r (ped_cmp op_isN od_is (PEd.r (ped_var 8 (pv 8))) (PEd.r ped_none))) (PEd.r (ped_cmp (op_eqD hr.units) od_eq (PEd.r (ped_var 2 (pv 2))) (PEd.r (ped_var 5 (pv 5))))))))) (pssd_one (qs_ret ped_bool)) pssd_nil)
      (pssd_one (qs_if (ptd_w (pwd_or (ptd_w (pwd_and (ptd_cmp (op_neD hr.units) od_ne (PEd.r (ped_var 7 (pv 7))) (PEn.r (pen_lst paf_nil))) (pwd_and1 (ptd_cmp (op_neD hr.units) od_ne (PEd.r (ped_var 8 (pv 8))) (PEd.r (ped_ix ix_seq od_ix (PEd.r (ped_var 7 (pv 7))) (PEd.r ped_int))))))) (pwd_or1 (ptd_w (pwd_and (ptd_cmp (op_eqD hr.units) od_eq (PEd.r (ped_var 7 (pv 7))) (PEn.r (pen_lst paf_nil))) (pwd_and (ptd_cmp op_notN od_isnt (PEd.r (ped_var 8 (pv 8))) (PEd.r ped_none)) (pwd_and1 (ptd_cmp op_le od_le (PEd.r (ped_var 8 (pv 8))) (PEd.r ped_int))))))))) (pssd_one (qs_ret ped_bool)) pssd_nil))))))))
      (pssd_cons (qs_if (ptd_cmp op_notN od_isnt (PEd.r (ped_call (ok_parted T) (hr.mono (by decide)) (by rfl) T.g_parted T.F_parted.kp T.b_parted (pac_d (ped_var 2 (pv 2)) (pac_d (ped_var 2 (pv 2)) pac_nil)))) (PEd.r ped_none)) (pssd_one (qs_ret ped_bool)) pssd_nil)
      (pssd_one (qs_if (ptd_cmp (op_neD hr.units) od_ne (PEn.r (pen_ref (ok_law_refused T) (hr.mono (by decide)) (by rfl) T.g_law_refused T.F_law_refused.kp T.b_law_refused (pe_lam TB rfl rfl rfl rfl nofun) (fun f c1 pm ctv => callOk_lam (k := 5) (N := ["a", "b", "c"]) (ps := ["a", "b", "c"]) ⟨rfl, rfl, rfl, by decide +kernel, rfl, by decide +kernel, by decide +kernel⟩ (fun us hl => match us, hl with | [_, _, _], _ => rfl) lenL_parted (fun A outer s H E hr => ⟨_, pe_call (okx_parted T) (hr.mono (by decide)) (by rfl) T.g_parted T.F_parted.kp T.b_parted .nil passN (pa_cons (pv 0) (pa_cons (pv 1) pa_nil)), rdL_parted⟩)) (pac_d (ped_var 2 (pv 2)) (pac_d (ped_op op_addA od_add (PEd.r (ped_var 2 (pv 2))) (PEd.r (ped_tup (paf_cons (ped_tup (paf_cons ped_int (paf_cons ped_int paf_nil))) paf_nil)))) (pac_d ped_int pac_nil))))) (PEn.r (pen_lst (paf_cons ped_str (paf_cons ped_bool paf_nil))))) (pssd_one (qs_ret ped_bool)) pssd_nil))))))
    have hr2 : PSsd (cxOf CX0 P w K mg base n_law "law" (defScope s_law) a.law (.ref a.codeL) A outer s H E).nox (lawRest s_law) _ b_law_rest := (pssd_one (qs_ret (ped_and (ped_cmp (op_eqD hr.units) od_eq (PEd.r (ped_call (ok_parted T) (hr.mono (by decide)) (by rfl) T.g_parted T.F_parted.kp T.b_parted (pac_d (ped_tup (paf_cons (ped_tup (paf_cons ped_int (paf_cons ped_int paf_nil))) (paf_cons (ped_tup (paf_cons ped_int (paf_cons ped_int paf_nil))) paf_nil))) (pac_d (ped_tup (paf_cons (ped_tup (paf_cons ped_int (paf_cons ped_int paf_nil))) (paf_cons (ped_tup (paf_cons ped_int (paf_cons ped_int paf_nil))) paf_nil))) pac_nil)))) (PEd.r ped_int)) (ped_one (ped_cmp op_isN od_is (PEd.r (ped_call (ok_parted T) (hr.mono (by decide)) (by rfl) T.g_parted T.F_parted.kp T.b_parted (pac_d (ped_tup paf_nil) (pac_d (ped_tup paf_nil) pac_nil)))) (PEd.r ped_none))))))
    exact ⟨_, pss_cons (ps_for PassesOwn.never rfl (pi_list (pe_call (ok_law_bags T) (hr.mono (by decide)) (by rfl) T.g_law_bags T.F_law_bags.kp T.b_law_bags .nil pass0 (pa_cons (pv 0) (pa_cons pe_int pa_nil)))) (pg_name (i := 1) sc_law.nd rfl (Or.inl rfl)) hb.ps) hr2.ps, Pd.rd_lawT (K := K) n_law 10 rfl 8 1 hb.s hr2.s (by decide) (by decide) (by decide) (by decide) a.tabP lamQ (by decide) (rd_law_loop a.tabP lamQ) rd_law_rest h⟩
end
theorem all_mk {l : PySem.W.OpenLaw} {w : World} {K : PySem.W.Frag} {h : Heap} {mg : Str → Option Value} {fa : Addr} (X : K.In h) (G : h.Ns mainGlobals mg) (hfa : mg "law" = some (.ref fa))
    {c_codeL : Addr}
    {f0 : Addr} {od0 an0 : Option Addr} {sl0 : Array (Option Value)} {oc0 kV0 dc0 pm0 cd0 ct0 : Value}
    (a0 : PySem.W.nsIn K mainGlobals "is_within" = some (some (.ref f0))) (l0 : K.lookup f0 = some ⟨oc0, od0, .func (PySem.W.fnOf "is_within" "is_within" (defArgs s_is_within) (defBody s_is_within) (defScope s_is_within) .none kV0 dc0 pm0 an0 cd0 ct0), sl0⟩) (c0 : PySem.W.codeIn K cd0 "is_within" = true) (k0 : PySem.W.keepIn K (.ref f0) = true)
    {f1 : Addr} {od1 an1 : Option Addr} {sl1 : Array (Option Value)} {oc1 kV1 dc1 pm1 cd1 ct1 : Value}
    (a1 : PySem.W.nsIn K mainGlobals "is_taker" = some (some (.ref f1))) (l1 : K.lookup f1 = some ⟨oc1, od1, .func (PySem.W.fnOf "is_taker" "is_taker" (defArgs s_is_taker) (defBody s_is_taker) (defScope s_is_taker) .none kV1 dc1 pm1 an1 cd1 ct1), sl1⟩) (c1 : PySem.W.codeIn K cd1 "is_taker" = true) (k1 : PySem.W.keepIn K (.ref f1) = true)
    {f2 : Addr} {od2 an2 : Option Addr} {sl2 : Array (Option Value)} {oc2 kV2 dc2 pm2 cd2 ct2 : Value}
    (a2 : PySem.W.nsIn K mainGlobals "is_row" = some (some (.ref f2))) (l2 : K.lookup f2 = some ⟨oc2, od2, .func (PySem.W.fnOf "is_row" "is_row" (defArgs s_is_row) (defBody s_is_row) (defScope s_is_row) .none kV2 dc2 pm2 an2 cd2 ct2), sl2⟩) (c2 : PySem.W.codeIn K cd2 "is_row" = true) (k2 : PySem.W.keepIn K (.ref f2) = true)
    {f3 : Addr} {od3 an3 : Option Addr} {sl3 : Array (Option Value)} {oc3 kV3 dc3 pm3 cd3 ct3 : Value}
    (a3 : PySem.W.nsIn K mainGlobals "need_row" = some (some (.ref f3))) (l3 : K.lookup f3 = some ⟨oc3, od3, .func (PySem.W.fnOf "need_row" "need_row" (defArgs s_need_row) (defBody s_need_row) (defScope s_need_row) .none kV3 dc3 pm3 an3 cd3 ct3), sl3⟩) (c3 : PySem.W.codeIn K cd3 "need_row" = true) (k3 : PySem.W.keepIn K (.ref f3) = true)
    {f4 : Addr} {od4 an4 : Option Addr} {sl4 : Array (Option Value)} {oc4 kV4 dc4 pm4 cd4 ct4 : Value}
    (a4 : PySem.W.nsIn K mainGlobals "came_as" = some (some (.ref f4))) (l4 : K.lookup f4 = some ⟨oc4, od4, .func (PySem.W.fnOf "came_as" "came_as" (defArgs s_came_as) (defBody s_came_as) (defScope s_came_as) .none kV4 dc4 pm4 an4 cd4 ct4), sl4⟩) (c4 : PySem.W.codeIn K cd4 "came_as" = true) (k4 : PySem.W.keepIn K (.ref f4) = true)
    {f5 : Addr} {od5 an5 : Option Addr} {sl5 : Array (Option Value)} {oc5 kV5 dc5 pm5 cd5 ct5 : Value}
    (a5 : PySem.W.nsIn K mainGlobals "first_unlike" = some (some (.ref f5))) (l5 : K.lookup f5 = some ⟨oc5, od5, .func (PySem.W.fnOf "first_unlike" "first_unlike" (defArgs s_first_unlike) (defBody s_first_unlike) (defScope s_first_unlike) .none kV5 dc5 pm5 an5 cd5 ct5), sl5⟩) (c5 : PySem.W.codeIn K cd5 "first_unlike" = true) (k5 : PySem.W.keepIn K (.ref f5) = true)
    {f6 : Addr} {od6 an6 : Option Addr} {sl6 : Array (Option Value)} {oc6 kV6 dc6 pm6 cd6 ct6 : Value}
    (a6 : PySem.W.nsIn K mainGlobals "parted" = some (some (.ref f6))) (l6 : K.lookup f6 = some ⟨oc6, od6, .func (PySem.W.fnOf "parted" "parted" (defArgs s_parted) (defBody s_parted) (defScope s_parted) .none kV6 dc6 pm6 an6 cd6 ct6), sl6⟩) (c6 : PySem.W.codeIn K cd6 "parted" = true) (k6 : PySem.W.keepIn K (.ref f6) = true)
    {f7 : Addr} {od7 an7 : Option Addr} {sl7 : Array (Option Value)} {oc7 kV7 dc7 pm7 cd7 ct7 : Value}
    (a7 : PySem.W.nsIn K mainGlobals "_law_cell_at" = some (some (.ref f7))) (l7 : K.lookup f7 = some ⟨oc7, od7, .func (PySem.W.fnOf "_law_cell_at" "_law_cell_at" (defArgs s_law_cell_at) (defBody s_law_cell_at) (defScope s_law_cell_at) .none kV7 dc7 pm7 an7 cd7 ct7), sl7⟩) (c7 : PySem.W.codeIn K cd7 "_law_cell_at" = true) (k7 : PySem.W.keepIn K (.ref f7) = true)
    {f8 : Addr} {od8 an8 : Option Addr} {sl8 : Array (Option Value)} {oc8 kV8 dc8 pm8 cd8 ct8 : Value}
    (a8 : PySem.W.nsIn K mainGlobals "_law_draws" = some (some (.ref f8))) (l8 : K.lookup f8 = some ⟨oc8, od8, .func (PySem.W.fnOf "_law_draws" "_law_draws" (defArgs s_law_draws) (defBody s_law_draws) (defScope s_law_draws) .none kV8 dc8 pm8 an8 cd8 ct8), sl8⟩) (c8 : PySem.W.codeIn K cd8 "_law_draws" = true) (k8 : PySem.W.keepIn K (.ref f8) = true)
    {f9 : Addr} {od9 an9 : Option Addr} {sl9 : Array (Option Value)} {oc9 kV9 dc9 pm9 cd9 ct9 : Value}
    (a9 : PySem.W.nsIn K mainGlobals "_law_bag" = some (some (.ref f9))) (l9 : K.lookup f9 = some ⟨oc9, od9, .func (PySem.W.fnOf "_law_bag" "_law_bag" (defArgs s_law_bag) (defBody s_law_bag) (defScope s_law_bag) .none kV9 dc9 pm9 an9 cd9 ct9), sl9⟩) (c9 : PySem.W.codeIn K cd9 "_law_bag" = true) (k9 : PySem.W.keepIn K (.ref f9) = true)
    {f10 : Addr} {od10 an10 : Option Addr} {sl10 : Array (Option Value)} {oc10 kV10 dc10 pm10 cd10 ct10 : Value}
    (a10 : PySem.W.nsIn K mainGlobals "_law_bags" = some (some (.ref f10))) (l10 : K.lookup f10 = some ⟨oc10, od10, .func (PySem.W.fnOf "_law_bags" "_law_bags" (defArgs s_law_bags) (defBody s_law_bags) (defScope s_law_bags) .none kV10 dc10 pm10 an10 cd10 ct10), sl10⟩) (c10 : PySem.W.codeIn K cd10 "_law_bags" = true) (k10 : PySem.W.keepIn K (.ref f10) = true)
    {f11 : Addr} {od11 an11 : Option Addr} {sl11 : Array (Option Value)} {oc11 kV11 dc11 pm11 cd11 ct11 : Value}
    (a11 : PySem.W.nsIn K mainGlobals "_law_take" = some (some (.ref f11))) (l11 : K.lookup f11 = some ⟨oc11, od11, .func (PySem.W.fnOf "_law_take" "_law_take" (defArgs s_law_take) (defBody s_law_take) (defScope s_law_take) .none kV11 dc11 pm11 an11 cd11 ct11), sl11⟩) (c11 : PySem.W.codeIn K cd11 "_law_take" = true) (k11 : PySem.W.keepIn K (.ref f11) = true)
    {f12 : Addr} {od12 an12 : Option Addr} {sl12 : Array (Option Value)} {oc12 kV12 dc12 pm12 cd12 ct12 : Value}
    (a12 : PySem.W.nsIn K mainGlobals "_law_taker" = some (some (.ref f12))) (l12 : K.lookup f12 = some ⟨oc12, od12, .func (PySem.W.fnOf "_law_taker" "_law_taker" (defArgs s_law_taker) (defBody s_law_taker) (defScope s_law_taker) .none kV12 dc12 pm12 an12 cd12 ct12), sl12⟩) (c12 : PySem.W.codeIn K cd12 "_law_taker" = true) (k12 : PySem.W.keepIn K (.ref f12) = true)
    {f13 : Addr} {od13 an13 : Option Addr} {sl13 : Array (Option Value)} {oc13 kV13 dc13 pm13 cd13 ct13 : Value}
    (a13 : PySem.W.nsIn K mainGlobals "_law_drawn_row" = some (some (.ref f13))) (l13 : K.lookup f13 = some ⟨oc13, od13, .func (PySem.W.fnOf "_law_drawn_row" "_law_drawn_row" (defArgs s_law_drawn_row) (defBody s_law_drawn_row) (defScope s_law_drawn_row) .none kV13 dc13 pm13 an13 cd13 ct13), sl13⟩) (c13 : PySem.W.codeIn K cd13 "_law_drawn_row" = true) (k13 : PySem.W.keepIn K (.ref f13) = true)
    {f14 : Addr} {od14 an14 : Option Addr} {sl14 : Array (Option Value)} {oc14 kV14 dc14 pm14 cd14 ct14 : Value}
    (a14 : PySem.W.nsIn K mainGlobals "_law_gone" = some (some (.ref f14))) (l14 : K.lookup f14 = some ⟨oc14, od14, .func (PySem.W.fnOf "_law_gone" "_law_gone" (defArgs s_law_gone) (defBody s_law_gone) (defScope s_law_gone) .none kV14 dc14 pm14 an14 cd14 ct14), sl14⟩) (c14 : PySem.W.codeIn K cd14 "_law_gone" = true) (k14 : PySem.W.keepIn K (.ref f14) = true)
    {f15 : Addr} {od15 an15 : Option Addr} {sl15 : Array (Option Value)} {oc15 kV15 dc15 pm15 cd15 ct15 : Value}
    (a15 : PySem.W.nsIn K mainGlobals "_law_refused" = some (some (.ref f15))) (l15 : K.lookup f15 = some ⟨oc15, od15, .func (PySem.W.fnOf "_law_refused" "_law_refused" (defArgs s_law_refused) (defBody s_law_refused) (defScope s_law_refused) .none kV15 dc15 pm15 an15 cd15 ct15), sl15⟩) (c15 : PySem.W.codeIn K cd15 "_law_refused" = true) (k15 : PySem.W.keepIn K (.ref f15) = true)
    {f16 : Addr} {od16 an16 : Option Addr} {sl16 : Array (Option Value)} {oc16 kV16 dc16 pm16 cd16 ct16 : Value}
    (a16 : PySem.W.nsIn K mainGlobals "_law_near" = some (some (.ref f16))) (l16 : K.lookup f16 = some ⟨oc16, od16, .func (PySem.W.fnOf "_law_near" "_law_near" (defArgs s_law_near) (defBody s_law_near) (defScope s_law_near) .none kV16 dc16 pm16 an16 cd16 ct16), sl16⟩) (c16 : PySem.W.codeIn K cd16 "_law_near" = true) (k16 : PySem.W.keepIn K (.ref f16) = true)
    {f17 : Addr} {od17 an17 : Option Addr} {sl17 : Array (Option Value)} {oc17 kV17 dc17 pm17 ct17 : Value}
    (a17 : PySem.W.nsIn K mainGlobals "law" = some (some (.ref f17))) (l17 : K.lookup f17 = some ⟨oc17, od17, .func (PySem.W.fnOf "law" "law" (defArgs s_law) (defBody s_law) (defScope s_law) .none kV17 dc17 pm17 an17 (.ref c_codeL) ct17), sl17⟩) (c17 : PySem.W.codeIn K (.ref c_codeL) "law" = true) (k17 : PySem.W.keepIn K (.ref f17) = true)
    (z_ValueError : PySem.W.nsIn K mainGlobals "ValueError" = some none)
    (z_all : PySem.W.nsIn K mainGlobals "all" = some none)
    (z_bool : PySem.W.nsIn K mainGlobals "bool" = some none)
    (z_enumerate : PySem.W.nsIn K mainGlobals "enumerate" = some none)
    (z_int : PySem.W.nsIn K mainGlobals "int" = some none)
    (z_isinstance : PySem.W.nsIn K mainGlobals "isinstance" = some none)
    (z_len : PySem.W.nsIn K mainGlobals "len" = some none)
    (z_max : PySem.W.nsIn K mainGlobals "max" = some none)
    (z_min : PySem.W.nsIn K mainGlobals "min" = some none)
    (z_range : PySem.W.nsIn K mainGlobals "range" = some none)
    (z_tuple : PySem.W.nsIn K mainGlobals "tuple" = some none)
    {c_TakeError : Addr}
    {c_NoRow : Addr}
    {c_NoNumber : Addr}
    {c_NoTaker : Addr}
    {c_NoSeen : Addr}
    {c_NoCounts : Addr}
    {c_NoPlace : Addr}
    {c_Unlike : Addr}
    {c_Full : Addr}
    {c_TooMany : Addr}
    {c_tabP : Addr}
    (x_g_TakeError : PySem.W.nsIn K mainGlobals "TakeError" = some (some (.ref c_TakeError)))
    (x_d_TakeError : PySem.W.hasDictIn K c_TakeError = true)
    (x_t_TakeError : PySem.W.typeIn K (.ref c_TakeError) = some (.type "type"))
    (x_g_NoRow : PySem.W.nsIn K mainGlobals "NoRow" = some (some (.ref c_NoRow)))
    (x_d_NoRow : PySem.W.hasDictIn K c_NoRow = true)
    (x_t_NoRow : PySem.W.typeIn K (.ref c_NoRow) = some (.type "type"))
    (x_g_NoNumber : PySem.W.nsIn K mainGlobals "NoNumber" = some (some (.ref c_NoNumber)))
    (x_d_NoNumber : PySem.W.hasDictIn K c_NoNumber = true)
    (x_t_NoNumber : PySem.W.typeIn K (.ref c_NoNumber) = some (.type "type"))
    (x_g_NoTaker : PySem.W.nsIn K mainGlobals "NoTaker" = some (some (.ref c_NoTaker)))
    (x_d_NoTaker : PySem.W.hasDictIn K c_NoTaker = true)
    (x_t_NoTaker : PySem.W.typeIn K (.ref c_NoTaker) = some (.type "type"))
    (x_g_NoSeen : PySem.W.nsIn K mainGlobals "NoSeen" = some (some (.ref c_NoSeen)))
    (x_d_NoSeen : PySem.W.hasDictIn K c_NoSeen = true)
    (x_t_NoSeen : PySem.W.typeIn K (.ref c_NoSeen) = some (.type "type"))
    (x_g_NoCounts : PySem.W.nsIn K mainGlobals "NoCounts" = some (some (.ref c_NoCounts)))
    (x_d_NoCounts : PySem.W.hasDictIn K c_NoCounts = true)
    (x_t_NoCounts : PySem.W.typeIn K (.ref c_NoCounts) = some (.type "type"))
    (x_g_NoPlace : PySem.W.nsIn K mainGlobals "NoPlace" = some (some (.ref c_NoPlace)))
    (x_d_NoPlace : PySem.W.hasDictIn K c_NoPlace = true)
    (x_t_NoPlace : PySem.W.typeIn K (.ref c_NoPlace) = some (.type "type"))
    (x_g_Unlike : PySem.W.nsIn K mainGlobals "Unlike" = some (some (.ref c_Unlike)))
    (x_d_Unlike : PySem.W.hasDictIn K c_Unlike = true)
    (x_t_Unlike : PySem.W.typeIn K (.ref c_Unlike) = some (.type "type"))
    (x_g_Full : PySem.W.nsIn K mainGlobals "Full" = some (some (.ref c_Full)))
    (x_d_Full : PySem.W.hasDictIn K c_Full = true)
    (x_t_Full : PySem.W.typeIn K (.ref c_Full) = some (.type "type"))
    (x_g_TooMany : PySem.W.nsIn K mainGlobals "TooMany" = some (some (.ref c_TooMany)))
    (x_d_TooMany : PySem.W.hasDictIn K c_TooMany = true)
    (x_t_TooMany : PySem.W.typeIn K (.ref c_TooMany) = some (.type "type"))
    (x_sb_TakeError : PySem.W.subIn K (.ref c_TakeError) (.type "BaseException") = some true)
    (x_sb_TooMany : PySem.W.subIn K (.ref c_TooMany) (.type "BaseException") = some true)
    (x_sb_Unlike : PySem.W.subIn K (.ref c_Unlike) (.type "BaseException") = some true)
    (x_kp_Unlike : PySem.W.keepIn K (.ref c_Unlike) = true)
    (x_x_Unlike : PySem.W.excIn K c_Unlike [.type "ValueError", .type "Exception", .type "BaseException", .type "object"] "ValueError.__new__" = true)
    (x_hg_Unlike : PySem.W.findIn K (.ref c_Unlike) "__getattribute__" = some (some (.builtin "BaseException.__getattribute__")))
    (x_hk_Unlike : PySem.W.findIn K (.ref c_Unlike) "__getattr__" = some none)
    (x_ha_Unlike : PySem.W.findIn K (.ref c_Unlike) "__class__" = some (some (.builtin "object.__class__")))
    (x_hm_Unlike : PySem.W.mroIn K c_Unlike (.type "object") = some true)
    (x_ve_Unlike : PySem.W.subIn K (.ref c_Unlike) (.type "ValueError") = some true)
    (x_s_Unlike_NoRow : PySem.W.subIn K (.ref c_Unlike) (.ref c_NoRow) = some false)
    (x_n_Unlike_NoRow : c_Unlike ≠ c_NoRow)
    (x_s_Unlike_NoNumber : PySem.W.subIn K (.ref c_Unlike) (.ref c_NoNumber) = some false)
    (x_n_Unlike_NoNumber : c_Unlike ≠ c_NoNumber)
    (x_s_Unlike_NoTaker : PySem.W.subIn K (.ref c_Unlike) (.ref c_NoTaker) = some false)
    (x_n_Unlike_NoTaker : c_Unlike ≠ c_NoTaker)
    (x_s_Unlike_NoSeen : PySem.W.subIn K (.ref c_Unlike) (.ref c_NoSeen) = some false)
    (x_n_Unlike_NoSeen : c_Unlike ≠ c_NoSeen)
    (x_s_Unlike_NoCounts : PySem.W.subIn K (.ref c_Unlike) (.ref c_NoCounts) = some false)
    (x_n_Unlike_NoCounts : c_Unlike ≠ c_NoCounts)
    (x_s_Unlike_NoPlace : PySem.W.subIn K (.ref c_Unlike) (.ref c_NoPlace) = some false)
    (x_n_Unlike_NoPlace : c_Unlike ≠ c_NoPlace)
    (x_s_Unlike_Full : PySem.W.subIn K (.ref c_Unlike) (.ref c_Full) = some false)
    (x_n_Unlike_Full : c_Unlike ≠ c_Full)
    (x_s_Unlike_TooMany : PySem.W.subIn K (.ref c_Unlike) (.ref c_TooMany) = some false)
    (x_s_Unlike_TakeError : PySem.W.subIn K (.ref c_Unlike) (.ref c_TakeError) = some true)
    (x_hn_get : PySem.W.specialIn K (.builtin "object.__class__") "__get__" = some (some (.builtin "getset_descriptor.__get__")))
    (x_ht_get : PySem.W.takesIn K (.builtin "object.__class__") = some true)
    (hP : h.get? c_tabP = some (PySem.W.tabObj #[])) (x_nP : K.lookup c_tabP = none) (x_cP : PySem.W.codeHdIn K c_codeL c_tabP = true)
    : LamX.LawAtS l w K CX0 8 63 "script" mg fa h := by
  have e := hfa.symm.trans (PySem.W.mg_of X G a17)
  cases e
  have F0 := fun_mk (st := s_is_within) l0 c0 k0
  have b0 := F0.binds (ps := ["thing", "low", "high"]) fun _ _ _ _ _ _ us hl => match us, hl with | [_, _, _], _ => rfl
  have F1 := fun_mk (st := s_is_taker) l1 c1 k1
  have b1 := F1.binds (ps := ["thing"]) fun _ _ _ _ _ _ us hl => match us, hl with | [_], _ => rfl
  have F2 := fun_mk (st := s_is_row) l2 c2 k2
  have b2 := F2.binds (ps := ["thing"]) fun _ _ _ _ _ _ us hl => match us, hl with | [_], _ => rfl
  have F3 := fun_mk (st := s_need_row) l3 c3 k3
  have b3 := F3.binds (ps := ["row"]) fun _ _ _ _ _ _ us hl => match us, hl with | [_], _ => rfl
  have F4 := fun_mk (st := s_came_as) l4 c4 k4
  have b4 := F4.binds (ps := ["row", "number"]) fun _ _ _ _ _ _ us hl => match us, hl with | [_, _], _ => rfl
  have F5 := fun_mk (st := s_first_unlike) l5 c5 k5
  have b5 := F5.binds (ps := ["one", "other"]) fun _ _ _ _ _ _ us hl => match us, hl with | [_, _], _ => rfl
  have F6 := fun_mk (st := s_parted) l6 c6 k6
  have b6 := F6.binds (ps := ["one", "other"]) fun _ _ _ _ _ _ us hl => match us, hl with | [_, _], _ => rfl
  have F7 := fun_mk (st := s_law_cell_at) l7 c7 k7
  have b7 := F7.binds (ps := ["script", "k"]) fun _ _ _ _ _ _ us hl => match us, hl with | [_, _], _ => rfl
  have F8 := fun_mk (st := s_law_draws) l8 c8 k8
  have b8 := F8.binds (ps := ["cell", "many", "size"]) fun _ _ _ _ _ _ us hl => match us, hl with | [_, _, _], _ => rfl
  have F9 := fun_mk (st := s_law_bag) l9 c9 k9
  have b9 := F9.binds (ps := ["script", "k"]) fun _ _ _ _ _ _ us hl => match us, hl with | [_, _], _ => rfl
  have F10 := fun_mk (st := s_law_bags) l10 c10 k10
  have b10 := F10.binds (ps := ["script", "limit"]) fun _ _ _ _ _ _ us hl => match us, hl with | [_, _], _ => rfl
  have F11 := fun_mk (st := s_law_take) l11 c11 k11
  have b11 := F11.binds (ps := ["bag", "many"]) fun _ _ _ _ _ _ us hl => match us, hl with | [_, _], _ => rfl
  have F12 := fun_mk (st := s_law_taker) l12 c12 k12
  have b12 := F12.binds (ps := ["bag", "far"]) fun _ _ _ _ _ _ us hl => match us, hl with | [_, _], _ => rfl
  have F13 := fun_mk (st := s_law_drawn_row) l13 c13 k13
  have b13 := F13.binds (ps := ["bag", "takers", "far"]) fun _ _ _ _ _ _ us hl => match us, hl with | [_, _, _], _ => rfl
  have F14 := fun_mk (st := s_law_gone) l14 c14 k14
  have b14 := F14.binds (ps := ["house", "many"]) fun _ _ _ _ _ _ us hl => match us, hl with | [_, _], _ => rfl
  have F15 := fun_mk (st := s_law_refused) l15 c15 k15
  have b15 := F15.binds (ps := ["call", "one", "two", "three"]) fun _ _ _ _ _ _ us hl => match us, hl with | [_, _, _, _], _ => rfl
  have F16 := fun_mk (st := s_law_near) l16 c16 k16
  have b16 := F16.binds (ps := ["bag", "house"]) fun _ _ _ _ _ _ us hl => match us, hl with | [_, _], _ => rfl
  have F17 := fun_mk (st := s_law) l17 c17 k17
  have b17 := F17.binds (ps := ["script"]) fun _ _ _ _ _ _ us hl => match us, hl with | [_], _ => rfl
  have T : Txt K mg ⟨f0, f1, f2, f3, f4, f5, f6, f7, f8, f9, f10, f11, f12, f13, f14, f15, f16, _, c_TakeError, c_NoRow, c_NoNumber, c_NoTaker, c_NoSeen, c_NoCounts, c_NoPlace, c_Unlike, c_Full, c_TooMany, c_tabP, c_codeL⟩ ⟨_, _, _, _, _, _, _, _, _, _, _, _, _, _, _, _, _, _⟩ := ⟨F0, PySem.W.mg_of X G a0, b0, F1, PySem.W.mg_of X G a1, b1, F2, PySem.W.mg_of X G a2, b2, F3, PySem.W.mg_of X G a3, b3, F4, PySem.W.mg_of X G a4, b4, F5, PySem.W.mg_of X G a5, b5, F6, PySem.W.mg_of X G a6, b6, F7, PySem.W.mg_of X G a7, b7, F8, PySem.W.mg_of X G a8, b8, F9, PySem.W.mg_of X G a9, b9, F10, PySem.W.mg_of X G a10, b10, F11, PySem.W.mg_of X G a11, b11, F12, PySem.W.mg_of X G a12, b12, F13, PySem.W.mg_of X G a13, b13, F14, PySem.W.mg_of X G a14, b14, F15, PySem.W.mg_of X G a15, b15, F16, PySem.W.mg_of X G a16, b16, F17, PySem.W.mg_of X G a17, b17, PySem.W.mg_none_of X G z_ValueError, PySem.W.mg_none_of X G z_all, PySem.W.mg_none_of X G z_bool, PySem.W.mg_none_of X G z_enumerate, PySem.W.mg_none_of X G z_int, PySem.W.mg_none_of X G z_isinstance, PySem.W.mg_none_of X G z_len, PySem.W.mg_none_of X G z_max, PySem.W.mg_none_of X G z_min, PySem.W.mg_none_of X G z_range, PySem.W.mg_none_of X G z_tuple, PySem.W.mg_of X G x_g_TakeError, x_d_TakeError, x_t_TakeError, PySem.W.mg_of X G x_g_NoRow, x_d_NoRow, x_t_NoRow, PySem.W.mg_of X G x_g_NoNumber, x_d_NoNumber, x_t_NoNumber, PySem.W.mg_of X G x_g_NoTaker, x_d_NoTaker, x_t_NoTaker, PySem.W.mg_of X G x_g_NoSeen, x_d_NoSeen, x_t_NoSeen, PySem.W.mg_of X G x_g_NoCounts, x_d_NoCounts, x_t_NoCounts, PySem.W.mg_of X G x_g_NoPlace, x_d_NoPlace, x_t_NoPlace, PySem.W.mg_of X G x_g_Unlike, x_d_Unlike, x_t_Unlike, PySem.W.mg_of X G x_g_Full, x_d_Full, x_t_Full, PySem.W.mg_of X G x_g_TooMany, x_d_TooMany, x_t_TooMany, x_sb_TakeError, x_sb_TooMany, x_sb_Unlike, x_kp_Unlike, x_x_Unlike, x_hg_Unlike, x_hk_Unlike, x_ha_Unlike, x_hm_Unlike, x_ve_Unlike, x_s_Unlike_NoRow, x_n_Unlike_NoRow, x_s_Unlike_NoNumber, x_n_Unlike_NoNumber, x_s_Unlike_NoTaker, x_n_Unlike_NoTaker, x_s_Unlike_NoSeen, x_n_Unlike_NoSeen, x_s_Unlike_NoCounts, x_n_Unlike_NoCounts, x_s_Unlike_NoPlace, x_n_Unlike_NoPlace, x_s_Unlike_Full, x_n_Unlike_Full, x_s_Unlike_TooMany, x_s_Unlike_TakeError, x_hn_get, x_ht_get, ⟨_, _, _, _, _, _, _, _, rfl, l17, c17⟩⟩
  refine ⟨_, [(c_codeL, c_tabP)], Pd.spLawT K c_tabP, fun p hp => ?_, fun p hp => ?_, fun p hp => ?_, fun s v => .of_eq rfl, fun H a ns hl hbits hT hS => ⟨hT _ List.mem_cons_self, a, ns, rfl, hS, hl, fun _ => rfl⟩, fun base _ _ TB => ok_law T (TB _ List.mem_cons_self)⟩
  · obtain rfl := List.mem_singleton.mp hp
    exact hP
  · obtain rfl := List.mem_singleton.mp hp
    exact x_nP
  · obtain rfl := List.mem_singleton.mp hp
    exact PySem.W.codeHd_of_K X x_cP
end Lw

open PySem PySem.W PyProof.Rows in
set_option maxRecDepth 100000 in
set_option maxHeartbeats 0 in
theorem PySem.Challenge.cw_takenth_k11_where_two_rows_part_holds : PySem.Challenge.rw_takenth_k11_where_two_rows_part.Holds := by
  w_on; o_law; k_head; (case hw => w_witness2)
  k_fill
  refine LamX.walk_ofTs (l := PySem.Challenge.rw_takenth_k11_where_two_rows_part) (n := 63) (k := 8) (x := "script") (CX := fun _ => L2.CX0) rfl (by decide) rfl ⟨rfl, by decide, by decide⟩ (fun w h Y => PySem.W.km_in_of Y) ?F (fun _ _ _ _ _ z => z)
  case F =>
    intro w mg fa h Y KX G hmg
    have hP := PySem.W.km_tabs_of Y 253 (by simp)
    refine' Lw.all_mk KX G hmg ?a0 ?l0 ?c0 ?k0 ?a1 ?l1 ?c1 ?k1 ?a2 ?l2 ?c2 ?k2 ?a3 ?l3 ?c3 ?k3 ?a4 ?l4 ?c4 ?k4 ?a5 ?l5 ?c5 ?k5 ?a6 ?l6 ?c6 ?k6 ?a7 ?l7 ?c7 ?k7 ?a8 ?l8 ?c8 ?k8 ?a9 ?l9 ?c9 ?k9 ?a10 ?l10 ?c10 ?k10 ?a11 ?l11 ?c11 ?k11 ?a12 ?l12 ?c12 ?k12 ?a13 ?l13 ?c13 ?k13 ?a14 ?l14 ?c14 ?k14 ?a15 ?l15 ?c15 ?k15 ?a16 ?l16 ?c16 ?k16 ?a17 ?l17 ?c17 ?k17 ?z_ValueError ?z_all ?z_bool ?z_enumerate ?z_int ?z_isinstance ?z_len ?z_max ?z_min ?z_range ?z_tuple ?x_g_TakeError ?x_d_TakeError ?x_t_TakeError ?x_g_NoRow ?x_d_NoRow ?x_t_NoRow ?x_g_NoNumber ?x_d_NoNumber ?x_t_NoNumber ?x_g_NoTaker ?x_d_NoTaker ?x_t_NoTaker ?x_g_NoSeen ?x_d_NoSeen ?x_t_NoSeen ?x_g_NoCounts ?x_d_NoCounts ?x_t_NoCounts ?x_g_NoPlace ?x_d_NoPlace ?x_t_NoPlace ?x_g_Unlike ?x_d_Unlike ?x_t_Unlike ?x_g_Full ?x_d_Full ?x_t_Full ?x_g_TooMany ?x_d_TooMany ?x_t_TooMany ?x_sb_TakeError ?x_sb_TooMany ?x_sb_Unlike ?x_kp_Unlike ?x_x_Unlike ?x_hg_Unlike ?x_hk_Unlike ?x_ha_Unlike ?x_hm_Unlike ?x_ve_Unlike ?x_s_Unlike_NoRow ?x_n_Unlike_NoRow ?x_s_Unlike_NoNumber ?x_n_Unlike_NoNumber ?x_s_Unlike_NoTaker ?x_n_Unlike_NoTaker ?x_s_Unlike_NoSeen ?x_n_Unlike_NoSeen ?x_s_Unlike_NoCounts ?x_n_Unlike_NoCounts ?x_s_Unlike_NoPlace ?x_n_Unlike_NoPlace ?x_s_Unlike_Full ?x_n_Unlike_Full ?x_s_Unlike_TooMany ?x_s_Unlike_TakeError ?x_hn_get ?x_ht_get hP ?x_nP ?x_cP
    (case a0 => k_is)
    (case l0 => k_is)
    (case c0 => k_is)
    (case k0 => k_is)
    (case a1 => k_is)
    (case l1 => k_is)
    (case c1 => k_is)
    (case k1 => k_is)
    (case a2 => k_is)
    (case l2 => k_is)
    (case c2 => k_is)
    (case k2 => k_is)
    (case a3 => k_is)
    (case l3 => k_is)
    (case c3 => k_is)
    (case k3 => k_is)
    (case a4 => k_is)
    (case l4 => k_is)
    (case c4 => k_is)
    (case k4 => k_is)
    (case a5 => k_is)
    (case l5 => k_is)
    (case c5 => k_is)
    (case k5 => k_is)
    (case a6 => k_is)
    (case l6 => k_is)
    (case c6 => k_is)
    (case k6 => k_is)
    (case a7 => k_is)
    (case l7 => k_is)
    (case c7 => k_is)
    (case k7 => k_is)
    (case a8 => k_is)
    (case l8 => k_is)
    (case c8 => k_is)
    (case k8 => k_is)
    (case a9 => k_is)
    (case l9 => k_is)
    (case c9 => k_is)
    (case k9 => k_is)
    (case a10 => k_is)
    (case l10 => k_is)
    (case c10 => k_is)
    (case k10 => k_is)
    (case a11 => k_is)
    (case l11 => k_is)
    (case c11 => k_is)
    (case k11 => k_is)
    (case a12 => k_is)
    (case l12 => k_is)
    (case c12 => k_is)
    (case k12 => k_is)
    (case a13 => k_is)
    (case l13 => k_is)
    (case c13 => k_is)
    (case k13 => k_is)
    (case a14 => k_is)
    (case l14 => k_is)
    (case c14 => k_is)
    (case k14 => k_is)
    (case a15 => k_is)
    (case l15 => k_is)
    (case c15 => k_is)
    (case k15 => k_is)
    (case a16 => k_is)
    (case l16 => k_is)
    (case c16 => k_is)
    (case k16 => k_is)
    (case a17 => k_is)
    (case l17 => k_is)
    (case c17 => k_is)
    (case k17 => k_is)
    (case z_ValueError => k_is)
    (case z_all => k_is)
    (case z_bool => k_is)
    (case z_enumerate => k_is)
    (case z_int => k_is)
    (case z_isinstance => k_is)
    (case z_len => k_is)
    (case z_max => k_is)
    (case z_min => k_is)
    (case z_range => k_is)
    (case z_tuple => k_is)
    (case x_g_TakeError => k_is)
    (case x_d_TakeError => k_is)
    (case x_t_TakeError => k_is)
    (case x_g_NoRow => k_is)
    (case x_d_NoRow => k_is)
    (case x_t_NoRow => k_is)
    (case x_g_NoNumber => k_is)
    (case x_d_NoNumber => k_is)
    (case x_t_NoNumber => k_is)
    (case x_g_NoTaker => k_is)
    (case x_d_NoTaker => k_is)
    (case x_t_NoTaker => k_is)
    (case x_g_NoSeen => k_is)
    (case x_d_NoSeen => k_is)
    (case x_t_NoSeen => k_is)
    (case x_g_NoCounts => k_is)
    (case x_d_NoCounts => k_is)
    (case x_t_NoCounts => k_is)
    (case x_g_NoPlace => k_is)
    (case x_d_NoPlace => k_is)
    (case x_t_NoPlace => k_is)
    (case x_g_Unlike => k_is)
    (case x_d_Unlike => k_is)
    (case x_t_Unlike => k_is)
    (case x_g_Full => k_is)
    (case x_d_Full => k_is)
    (case x_t_Full => k_is)
    (case x_g_TooMany => k_is)
    (case x_d_TooMany => k_is)
    (case x_t_TooMany => k_is)
    (case x_sb_TakeError => k_is)
    (case x_sb_TooMany => k_is)
    (case x_sb_Unlike => k_is)
    (case x_kp_Unlike => k_is)
    (case x_x_Unlike => k_exc)
    (case x_hg_Unlike => k_is)
    (case x_hk_Unlike => k_is)
    (case x_ha_Unlike => k_is)
    (case x_hm_Unlike => k_is)
    (case x_ve_Unlike => k_is)
    (case x_s_Unlike_NoRow => k_is)
    (case x_n_Unlike_NoRow => decide)
    (case x_s_Unlike_NoNumber => k_is)
    (case x_n_Unlike_NoNumber => decide)
    (case x_s_Unlike_NoTaker => k_is)
    (case x_n_Unlike_NoTaker => decide)
    (case x_s_Unlike_NoSeen => k_is)
    (case x_n_Unlike_NoSeen => decide)
    (case x_s_Unlike_NoCounts => k_is)
    (case x_n_Unlike_NoCounts => decide)
    (case x_s_Unlike_NoPlace => k_is)
    (case x_n_Unlike_NoPlace => decide)
    (case x_s_Unlike_Full => k_is)
    (case x_n_Unlike_Full => decide)
    (case x_s_Unlike_TooMany => k_is)
    (case x_s_Unlike_TakeError => k_is)
    (case x_hn_get => k_is)
    (case x_ht_get => k_is)
    (case x_nP => kernel_rfl)
    (case x_cP => kernel_rfl)
