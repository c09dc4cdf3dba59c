import PyProof.Rows.All
import Wide.All
import OpenK.AllK
import Wide.FinOn
import HandS.ForMost
import HandS.Evl
import HandS.Deep
import HandS.TupAny
import HandS.TupMul
import HandS.Conv
import HandS.IsInst
import HandS.Wide
import HandS.Style
import HandS.Flow
import HandS.SortInts
import KE.GoesMore
import KE.GoesEnum
import HandS.More
import HandS.Strs
import HandS.TupSets
import HandS.SortOrd
import PySem.Challenge.RW_takenth_k14_whole_orders_and_what_is_lef
set_option Elab.async false
set_option linter.all false
set_option maxRecDepth 100000
set_option maxHeartbeats 4000000
set_option maxRecDepth 100000
set_option maxHeartbeats 4000000
/-! A layer of plain data over the hand layer: frozen data (Dt), owned lists, the bag of draws; readings over plain data. -/
namespace Pd
open PySem L2
open Evl (Ex)

/-! ### frozen data; a tuple is locked as an object without a dict of its own -/
def TupAt (F : Hp) (a : Addr) (xs : List V) : Prop := ∃ o : Obj, F a = some (.frz o (.tup xs)) ∧ o.dict = none
theorem TupAt.up {F F' : Hp} {a : Addr} {xs : List V} (h : TupAt F a xs) (e : Ex F F') : TupAt F' a xs := by
  obtain ⟨o, h1, h2⟩ := h
  exact ⟨o, e _ _ h1, h2⟩
theorem TupAt.sq0 {K : PySem.W.Frag} {F : Hp} {a : Addr} {xs : List V} (h : TupAt F a xs) : SqT K F a xs := by
  obtain ⟨o, h1, _⟩ := h
  exact .inl (.inr ⟨o, h1⟩)
theorem TupAt.sq {K : PySem.W.Frag} {F H : Hp} {a : Addr} {xs : List V} (h : TupAt F a xs) (e : Ex F H) : SqT K H a xs := (h.up e).sq0
theorem TupAt.new {F : Hp} {p : Addr} {o : Obj} {xs : List V} (h : o.dict = none) : TupAt (upd F p (.frz o (.tup xs))) p xs := ⟨o, upd_same, h⟩
mutual
inductive Dt (F : Hp) : V → PyData → Prop
  | non : Dt F .non .none
  | bl (b : Bool) : Dt F (.bl b) (.bool b)
  | int (i : Int) : Dt F (.int i) (.int i)
  | str (x : Str) : Dt F (.str x) (.str x)
  | lst {a : Addr} {xs : List V} {ds : List PyData} : F a = some (.lst xs) → DtA F xs ds → Dt F (.ref a) (.list ds)
  | tup {a : Addr} {xs : List V} {ds : List PyData} : TupAt F a xs → DtA F xs ds → Dt F (.ref a) (.tuple ds)
inductive DtA (F : Hp) : List V → List PyData → Prop
  | nil : DtA F [] []
  | cons {v : V} {vs : List V} {d : PyData} {ds : List PyData} : Dt F v d → DtA F vs ds → DtA F (v :: vs) (d :: ds)
end

section
variable {F F' H : Hp}
mutual
theorem Dt.mono (e : Ex F F') : ∀ (d : PyData) (v : V), Dt F v d → Dt F' v d
  | .none, _, h => by cases h; exact .non
  | .bool b, _, h => by cases h; exact .bl b
  | .int i, _, h => by cases h; exact .int i
  | .str x, _, h => by cases h; exact .str x
  | .list ds, _, h => by
    cases h with
    | lst ha hs => exact .lst (e _ _ ha) (DtA.mono e ds _ hs)
  | .tuple ds, _, h => by
    cases h with
    | tup ha hs => exact .tup (ha.up e) (DtA.mono e ds _ hs)
  | .dict _, _, h => by cases h
theorem DtA.mono (e : Ex F F') : ∀ (ds : List PyData) (vs : List V), DtA F vs ds → DtA F' vs ds
  | [], _, h => by cases h; exact .nil
  | d :: ds, _, h => by
    cases h with
    | cons h1 h2 => exact .cons (Dt.mono e d _ h1) (DtA.mono e ds _ h2)
end
theorem Dt.up {v : V} {d : PyData} (h : Dt F v d) (e : Ex F F') : Dt F' v d := Dt.mono e d v h
theorem DtA.up {vs : List V} {ds : List PyData} (h : DtA F vs ds) (e : Ex F F') : DtA F' vs ds := DtA.mono e ds vs h
mutual
theorem Dt.dp0 {K : PySem.W.Frag} : ∀ (d : PyData) (v : V), Dt H v d → Dp K H v d
  | .none, _, h => by cases h; exact .non
  | .bool b, _, h => by cases h; exact .bl b
  | .int i, _, h => by cases h; exact .int i
  | .str x, _, h => by cases h; exact .str x
  | .list ds, _, h => by
    cases h with
    | lst ha hs => exact .lst (SqL.of ha) (DtA.dp0 ds _ hs)
  | .tuple ds, _, h => by
    cases h with
    | tup ha hs => exact .tup ha.sq0 (DtA.dp0 ds _ hs)
  | .dict _, _, h => by cases h
theorem DtA.dp0 {K : PySem.W.Frag} : ∀ (ds : List PyData) (vs : List V), DtA H vs ds → DpAll K H vs ds
  | [], _, h => by cases h; exact .nil
  | d :: ds, _, h => by
    cases h with
    | cons h1 h2 => exact .cons (Dt.dp0 d _ h1) (DtA.dp0 ds _ h2)
end
theorem Dt.dp {K : PySem.W.Frag} {v : V} {d : PyData} (h : Dt H v d) : Dp K H v d := Dt.dp0 d v h

theorem DtA.len : ∀ {vs : List V} {ds : List PyData}, DtA F vs ds → vs.length = ds.length
  | _, _, .nil => rfl
  | _, _, .cons _ t => by rw [List.length_cons, List.length_cons, DtA.len t]
theorem DtA.get : ∀ {vs : List V} {ds : List PyData} {i : Nat} {d : PyData}, DtA F vs ds → ds[i]? = some d → ∃ v, vs[i]? = some v ∧ Dt F v d
  | _, _, _, _, .nil, e => by simp at e
  | _, _, 0, _, .cons r _, e => by
    simp at e
    subst e
    exact ⟨_, rfl, r⟩
  | _, _, i + 1, d, .cons _ t, e => by
    obtain ⟨u, h1, h2⟩ := DtA.get (i := i) (d := d) t (by simpa using e)
    exact ⟨u, by simpa using h1, h2⟩
theorem DtA.getV : ∀ {vs : List V} {ds : List PyData} {i : Nat} {v : V}, DtA F vs ds → vs[i]? = some v → ∃ d, ds[i]? = some d ∧ Dt F v d
  | _, _, _, _, .nil, e => by simp at e
  | _, _, 0, _, .cons r _, e => by
    simp at e
    subst e
    exact ⟨_, rfl, r⟩
  | _, _, i + 1, v, .cons _ t, e => by
    obtain ⟨u, h1, h2⟩ := DtA.getV (i := i) (v := v) t (by simpa using e)
    exact ⟨u, by simpa using h1, h2⟩
theorem DtA.app : ∀ {vs ws : List V} {ds es : List PyData}, DtA F vs ds → DtA F ws es → DtA F (vs ++ ws) (ds ++ es)
  | _, _, _, _, .nil, s => s
  | _, _, _, _, .cons r t, s => .cons r (DtA.app t s)
theorem DtA.take : ∀ {vs : List V} {ds : List PyData} (n : Nat), DtA F vs ds → DtA F (vs.take n) (ds.take n)
  | _, _, 0, _ => .nil
  | _, _, _ + 1, .nil => .nil
  | _, _, n + 1, .cons r t => .cons r (DtA.take n t)
theorem DtA.drop : ∀ {vs : List V} {ds : List PyData} (n : Nat), DtA F vs ds → DtA F (vs.drop n) (ds.drop n)
  | _, _, 0, r => r
  | _, _, _ + 1, .nil => .nil
  | _, _, n + 1, .cons _ t => DtA.drop n t
theorem DtA.set {v : V} {d : PyData} (r : Dt F v d) : ∀ {vs : List V} {ds : List PyData} (i : Nat), DtA F vs ds → DtA F (vs.set i v) (ds.set i d)
  | _, _, _, .nil => .nil
  | _, _, 0, .cons _ t => .cons r t
  | _, _, i + 1, .cons q t => .cons q (DtA.set r i t)
theorem DtA.rev : ∀ {vs : List V} {ds : List PyData}, DtA F vs ds → DtA F vs.reverse ds.reverse
  | _, _, .nil => .nil
  | _, _, .cons r t => by
    rw [List.reverse_cons, List.reverse_cons]
    exact DtA.app (DtA.rev t) (.cons r .nil)
theorem DtA.ints : ∀ {vs : List V} {ns : List Int}, DtA F vs (ns.map PyData.int) → vs = ns.map V.int
  | _, [], h => by cases h; rfl
  | _, n :: ns, h => by
    cases h with
    | cons h1 h2 =>
      cases h1
      rw [DtA.ints h2]
      rfl
theorem DtA.of_ints : ∀ (ns : List Int), DtA F (ns.map V.int) (ns.map PyData.int)
  | [] => .nil
  | n :: ns => .cons (.int n) (DtA.of_ints ns)
theorem DtA.bools : ∀ {vs : List V} {bs : List Bool}, DtA F vs (bs.map PyData.bool) → vs = bs.map V.bl
  | _, [], h => by cases h; rfl
  | _, n :: ns, h => by
    cases h with
    | cons h1 h2 =>
      cases h1
      rw [DtA.bools h2]
      rfl
end

/-! ### the frame's base, how heaps grow, the bag -/
/-- at a def's entry: the heap, its frozen part, the bags that may change -/
structure Bs where
  H : Hp
  F : Hp
  fp : Addr → Prop
/-- a bag of draws -/
def BagAt (F H : Hp) (b : Addr) : Prop := ∃ (l : Addr) (n : Int) (ns : List Int), H b = some (.lst [.ref l, .int n]) ∧ 0 ≤ n ∧ F l = some (.lst (ns.map V.int)) ∧ ns.length = 400 ∧ ∀ x ∈ ns, 0 ≤ x ∧ x < 1000

structure Grow (B : Bs) (F H : Hp) : Prop where
  fh : Ex F H
  bf : Ex B.F F
  keep : ∀ a o, ¬ B.fp a → B.H a = some o → H a = some o
  nofr : ∀ a o, B.H a = some o → B.F a = none → F a = none
  bag : ∀ b, B.fp b → BagAt F H b
  fpn : ∀ b, B.fp b → B.F b = none ∧ ∃ o, B.H b = some o

theorem upd_some {H : Hp} {p a : Addr} {o u : HO} (h : H p = none) (e : H a = some u) : upd H p o a = some u := by
  rw [upd_ne (ne_of_none e h)]
  exact e
theorem Ex.upd2 {F H : Hp} {p : Addr} {o : HO} (e : Ex F H) : Ex (upd F p o) (upd H p o) := fun a u h => by
  by_cases ha : a = p
  · subst ha
    rw [upd_same] at h ⊢
    exact h
  · rw [upd_ne ha] at h ⊢
    exact e a u h
theorem Ex.none {F H : Hp} {p : Addr} (e : Ex F H) (h : H p = Option.none) : F p = Option.none := Evl.fresh_back e h

theorem BagAt.mono {F F' H H' : Hp} {b : Addr} (h : BagAt F H b) (e : Ex F F') (eh : ∀ o, H b = some o → H' b = some o) : BagAt F' H' b := by
  obtain ⟨l, n, ns, h1, h2, h3, h4, h5⟩ := h
  exact ⟨l, n, ns, eh _ h1, h2, e _ _ h3, h4, h5⟩

section
variable {B : Bs} {F H F' H' : Hp}
/-- what stood at the entry stands -/
theorem Grow.there (g : Grow B F H) {a : Addr} {o : HO} (h : B.H a = some o) : ∃ u, H a = some u := by
  by_cases hf : B.fp a
  · obtain ⟨l, n, ns, h1, _⟩ := g.bag a hf
    exact ⟨_, h1⟩
  · exact ⟨o, g.keep a o hf h⟩
theorem Grow.new0 (g : Grow B F H) {p : Addr} (hp : H p = none) : B.H p = none := by
  cases e : B.H p with
  | none => rfl
  | some o =>
    obtain ⟨u, q⟩ := g.there e
    rw [hp] at q
    cases q
theorem Grow.bagNF (g : Grow B F H) {b : Addr} (h : B.fp b) : F b = none := by
  obtain ⟨h1, o, h2⟩ := g.fpn b h
  exact g.nofr b o h2 h1
/-- a new frozen object -/
theorem Grow.new (g : Grow B F H) {p : Addr} {o : HO} (hp : H p = none) : Grow B (upd F p o) (upd H p o) := by
  have hF : F p = none := Ex.none g.fh hp
  refine ⟨Ex.upd2 g.fh, fun a u e => upd_some hF (g.bf a u e), fun a u hf e => upd_some hp (g.keep a u hf e), fun a u e1 e2 => ?_, fun b hb => ?_, g.fpn⟩
  · have ha : a ≠ p := fun z => by
      subst z
      rw [g.new0 hp] at e1
      cases e1
    rw [upd_ne ha]
    exact g.nofr a u e1 e2
  · exact (g.bag b hb).mono (Ex.new hF) fun o' e => upd_some hp e
/-- a new object of one's own -/
theorem Grow.own (g : Grow B F H) {p : Addr} {o : HO} (hp : H p = none) : Grow B F (upd H p o) :=
  ⟨g.fh.trans (Ex.new hp), g.bf, fun a u hf e => upd_some hp (g.keep a u hf e), g.nofr, fun b hb => (g.bag b hb).mono (Ex.refl _) fun o' e => upd_some hp e, g.fpn⟩
/-- one's own object changes -/
theorem Grow.mut (g : Grow B F H) {l : Addr} {o : HO} (hl : B.H l = none) (hF : F l = none) : Grow B F (upd H l o) := by
  refine ⟨Ex.mut g.fh hF, g.bf, fun a u hf e => ?_, g.nofr, fun b hb => ?_, g.fpn⟩
  · rw [upd_ne (ne_of_none e hl)]
    exact g.keep a u hf e
  · obtain ⟨_, o', h2⟩ := g.fpn b hb
    refine (g.bag b hb).mono (Ex.refl _) fun o'' e => ?_
    rw [upd_ne (ne_of_none h2 hl)]
    exact e
/-- one's own object is frozen -/
theorem Grow.freeze (g : Grow B F H) {l : Addr} {o : HO} (hl : B.H l = none) (hF : F l = none) (hH : H l = some o) : Grow B (upd F l o) H := by
  refine ⟨fun a u e => ?_, fun a u e => upd_some hF (g.bf a u e), g.keep, fun a u e1 e2 => ?_, fun b hb => (g.bag b hb).mono (Ex.new hF) fun _ e => e, g.fpn⟩
  · by_cases ha : a = l
    · subst ha
      rw [upd_same] at e
      rw [← e]
      exact hH
    · rw [upd_ne ha] at e
      exact g.fh a u e
  · rw [upd_ne (ne_of_none e1 hl)]
    exact g.nofr a u e1 e2
/-- a call's growth upon the caller's -/
theorem Grow.call (g : Grow B F H) (c : Grow ⟨H, F, B.fp⟩ F' H') : Grow B F' H' :=
  ⟨c.fh, g.bf.trans c.bf, fun a o hf e => c.keep a o hf (g.keep a o hf e), fun a o e1 e2 => by
    obtain ⟨u, hu⟩ := g.there e1
    exact c.nofr a u hu (g.nofr a o e1 e2), c.bag, g.fpn⟩
theorem Grow.start (e : Ex F H) {fp : Addr → Prop} (hb : ∀ b, fp b → F b = none ∧ BagAt F H b) : Grow ⟨H, F, fp⟩ F H :=
  ⟨e, Ex.refl F, fun _ _ _ h => h, fun _ _ _ h => h, fun b h => (hb b h).2, fun b h => ⟨(hb b h).1, by
    obtain ⟨l, n, ns, h1, _⟩ := (hb b h).2
    exact ⟨_, h1⟩⟩⟩
end

/-- nothing, or one new frozen object -/
def Gro (F H F' H' : Hp) : Prop := (F' = F ∧ H' = H) ∨ ∃ p o, H p = none ∧ F' = upd F p o ∧ H' = upd H p o
theorem Gro.refl {F H : Hp} : Gro F H F H := .inl ⟨rfl, rfl⟩
theorem Gro.new {F H : Hp} {p : Addr} {o : HO} (h : H p = none) : Gro F H (upd F p o) (upd H p o) := .inr ⟨p, o, h, rfl, rfl⟩
theorem Gro.ex {F H F' H' : Hp} (e : Ex F H) (g : Gro F H F' H') : Ex F F' := by
  rcases g with ⟨rfl, rfl⟩ | ⟨p, o, hp, rfl, rfl⟩
  · exact Ex.refl _
  · exact Ex.new (Ex.none e hp)
theorem Gro.exh {F H F' H' : Hp} (g : Gro F H F' H') : Ex H H' := by
  rcases g with ⟨rfl, rfl⟩ | ⟨p, o, hp, rfl, rfl⟩
  · exact Ex.refl _
  · exact Ex.new hp
theorem Gro.fh {F H F' H' : Hp} (e : Ex F H) (g : Gro F H F' H') : Ex F' H' := by
  rcases g with ⟨rfl, rfl⟩ | ⟨p, o, hp, rfl, rfl⟩
  · exact e
  · exact Ex.upd2 e

/-! ### slots -/
inductive SV where
  | dat (d : PyData) | own (ds : List PyData) | bag
abbrev Denv := List (Option SV)

def SOk (B : Bs) (F H : Hp) (v : V) : SV → Prop
  | .dat d => Dt F v d
  | .own ds => ∃ l vs, v = .ref l ∧ B.H l = none ∧ F l = none ∧ H l = some (.lst vs) ∧ DtA F vs ds
  | .bag => ∃ b, v = .ref b ∧ B.fp b

structure Den (B : Bs) (F H : Hp) (σ : St) (env : Denv) : Prop where
  g : Grow B F H
  len : env.length = σ.length
  slot : ∀ (i : Nat) sv, env[i]? = some (some sv) → ∃ v, σ[i]? = some (some v) ∧ SOk B F H v sv
  sep : ∀ (i j : Nat) ds es l, env[i]? = some (some (.own ds)) → env[j]? = some (some (.own es)) → σ[i]? = some (some (V.ref l)) → σ[j]? = some (some (V.ref l)) → i = j

section
variable {B : Bs} {F H F' H' : Hp} {σ : St} {env : Denv}
theorem SOk.grow {v : V} : ∀ {sv : SV}, SOk B F H v sv → Ex F F' → (∀ a o, H a = some o → F a = none → B.H a = none → H' a = some o ∧ F' a = none) → SOk B F' H' v sv
  | .dat d, h, e, _ => Dt.up h e
  | .own ds, ⟨l, vs, h1, h2, h3, h4, h5⟩, e, k => ⟨l, vs, h1, h2, (k l _ h4 h3 h2).2, (k l _ h4 h3 h2).1, h5.up e⟩
  | .bag, h, _, _ => h
/-- the heap has grown, nothing of the frame's own has changed -/
theorem Den.grow (n : Den B F H σ env) (g : Grow B F' H') (e : Ex F F') (k : ∀ a o, H a = some o → F a = none → B.H a = none → H' a = some o ∧ F' a = none) : Den B F' H' σ env :=
  ⟨g, n.len, fun i sv h => by
    obtain ⟨v, h1, h2⟩ := n.slot i sv h
    exact ⟨v, h1, h2.grow e k⟩, n.sep⟩
theorem Den.gro (n : Den B F H σ env) (g : Gro F H F' H') : Den B F' H' σ env := by
  rcases g with ⟨rfl, rfl⟩ | ⟨p, o, hp, rfl, rfl⟩
  · exact n
  · refine n.grow (n.g.new hp) (Ex.new (Ex.none n.g.fh hp)) fun a u h1 h2 _ => ⟨upd_some hp h1, ?_⟩
    rw [upd_ne (ne_of_none h1 hp)]
    exact h2
/-- behind a call -/
theorem Den.call (n : Den B F H σ env) (c : Grow ⟨H, F, B.fp⟩ F' H') : Den B F' H' σ env :=
  n.grow (n.g.call c) c.bf fun a o h1 h2 h3 => ⟨c.keep a o (fun z => by
    obtain ⟨_, u, q⟩ := n.g.fpn a z
    rw [h3] at q
    cases q) h1, c.nofr a o h1 h2⟩
theorem get_set {α : Type} {l : List (Option α)} {i j : Nat} {x y : α} (h : (l.set i (some x))[j]? = some (some y)) : (i = j ∧ i < l.length ∧ x = y) ∨ (i ≠ j ∧ l[j]? = some (some y)) := by
  by_cases hij : i = j
  · subst hij
    by_cases hl : i < l.length
    · rw [List.getElem?_set_self hl] at h
      exact .inl ⟨rfl, hl, by cases h; rfl⟩
    · rw [List.set_eq_of_length_le (by omega)] at h
      rw [List.getElem?_eq_none (by omega)] at h
      cases h
  · rw [List.getElem?_set_ne hij] at h
    exact .inr ⟨hij, h⟩
theorem Den.setD (n : Den B F H σ env) {i : Nat} {v : V} {d : PyData} (h : Dt F v d) : Den B F H (σ.set i (some v)) (env.set i (some (.dat d))) := by
  refine ⟨n.g, by rw [List.length_set, List.length_set, n.len], fun j sv hj => ?_, fun j k ds es l h1 h2 h3 h4 => ?_⟩
  · rcases get_set hj with ⟨rfl, hl, rfl⟩ | ⟨hij, hj⟩
    · exact ⟨v, by rw [List.getElem?_set_self (by rw [← n.len]; exact hl)], h⟩
    · obtain ⟨u, h1, h2⟩ := n.slot j sv hj
      exact ⟨u, by rw [List.getElem?_set_ne hij]; exact h1, h2⟩
  · rcases get_set h1 with ⟨_, _, z⟩ | ⟨hij, h1⟩
    · cases z
    · rcases get_set h2 with ⟨_, _, z⟩ | ⟨hik, h2⟩
      · cases z
      · rw [List.getElem?_set_ne hij] at h3
        rw [List.getElem?_set_ne hik] at h4
        exact n.sep j k ds es l h1 h2 h3 h4
/-- a new list of the frame's own -/
structure Fresh (B : Bs) (F H : Hp) (σ : St) (env : Denv) (l : Addr) (vs : List V) (ds : List PyData) : Prop where
  b : B.H l = none
  f : F l = none
  h : H l = some (.lst vs)
  d : DtA F vs ds
  ne : ∀ (i : Nat) es, env[i]? = some (some (.own es)) → σ[i]? ≠ some (some (V.ref l))
theorem Fresh.of (n : Den B F H σ env) {l : Addr} {vs : List V} {ds : List PyData} (hl : H l = none) (h : DtA F vs ds) : Fresh B F (upd H l (.lst vs)) σ env l vs ds ∧ Den B F (upd H l (.lst vs)) σ env := by
  refine ⟨⟨n.g.new0 hl, Ex.none n.g.fh hl, upd_same, h, fun i es e z => ?_⟩, n.grow (n.g.own hl) (Ex.refl _) fun a o h1 h2 _ => ⟨upd_some hl h1, h2⟩⟩
  obtain ⟨v, h1, l', vs', h2, _, _, h4, _⟩ := n.slot i _ e
  rw [h2, z] at h1
  cases h1
  rw [hl] at h4
  cases h4
theorem Den.setN (n : Den B F H σ env) {i : Nat} {l : Addr} {vs : List V} {ds : List PyData} (h : Fresh B F H σ env l vs ds) : Den B F H (σ.set i (some (.ref l))) (env.set i (some (.own ds))) := by
  refine ⟨n.g, by rw [List.length_set, List.length_set, n.len], fun j sv hj => ?_, fun j k es es' a h1 h2 h3 h4 => ?_⟩
  · rcases get_set hj with ⟨rfl, hl, rfl⟩ | ⟨hij, hj⟩
    · exact ⟨.ref l, by rw [List.getElem?_set_self (by rw [← n.len]; exact hl)], l, vs, rfl, h.b, h.f, h.h, h.d⟩
    · obtain ⟨u, h1, h2⟩ := n.slot j sv hj
      exact ⟨u, by rw [List.getElem?_set_ne hij]; exact h1, h2⟩
  · rcases get_set h1 with ⟨e1, _, _⟩ | ⟨hij, h1⟩ <;> rcases get_set h2 with ⟨e2, _, _⟩ | ⟨hik, h2⟩
    · exact e1.symm.trans e2
    · rcases get_set h3 with ⟨_, _, z⟩ | ⟨z, _⟩
      · cases z
        rw [List.getElem?_set_ne hik] at h4
        exact absurd h4 (h.ne k _ h2)
      · exact absurd e1 z
    · rcases get_set h4 with ⟨_, _, z⟩ | ⟨z, _⟩
      · cases z
        rw [List.getElem?_set_ne hij] at h3
        exact absurd h3 (h.ne j _ h1)
      · exact absurd e2 z
    · rw [List.getElem?_set_ne hij] at h3
      rw [List.getElem?_set_ne hik] at h4
      exact n.sep j k _ _ a h1 h2 h3 h4
/-- a new list is frozen -/
theorem Fresh.freeze (n : Den B F H σ env) {l : Addr} {vs : List V} {ds : List PyData} (h : Fresh B F H σ env l vs ds) :
    Den B (upd F l (.lst vs)) H σ env ∧ Ex F (upd F l (.lst vs)) ∧ Dt (upd F l (.lst vs)) (.ref l) (.list ds) := by
  refine ⟨⟨n.g.freeze h.b h.f h.h, n.len, fun i sv hi => ?_, n.sep⟩, Ex.new h.f, .lst upd_same (h.d.up (Ex.new h.f))⟩
  obtain ⟨v, h1, h2⟩ := n.slot i sv hi
  refine ⟨v, h1, ?_⟩
  cases sv with
  | dat d => exact Dt.up h2 (Ex.new h.f)
  | bag => exact h2
  | own es =>
    obtain ⟨a, ws, e1, e2, e3, e4, e5⟩ := h2
    refine ⟨a, ws, e1, e2, ?_, e4, e5.up (Ex.new h.f)⟩
    have : a ≠ l := fun z => by
      subst z
      subst e1
      exact h.ne i es hi h1
    rw [upd_ne this]
    exact e3
/-- the own list in slot i -/
theorem Den.own (n : Den B F H σ env) {i : Nat} {ds : List PyData} (h : env[i]? = some (some (.own ds))) : ∃ l vs, σ[i]? = some (some (.ref l)) ∧ B.H l = none ∧ F l = none ∧ H l = some (.lst vs) ∧ DtA F vs ds := by
  obtain ⟨v, h1, l, vs, rfl, r⟩ := n.slot i _ h
  exact ⟨l, vs, h1, r⟩
/-- the own list in slot i changes -/
theorem Den.mut (n : Den B F H σ env) {i : Nat} {ds es : List PyData} {l : Addr} {ws : List V} (h : env[i]? = some (some (.own ds))) (hs : σ[i]? = some (some (.ref l))) (hd : DtA F ws es) :
    Den B F (upd H l (.lst ws)) σ (env.set i (some (.own es))) := by
  obtain ⟨l', vs, h1, h2, h3, h4, h5⟩ := n.own h
  rw [hs] at h1
  cases h1
  have hi : i < env.length := (List.getElem?_eq_some_iff.mp h).1
  refine ⟨n.g.mut h2 h3, by rw [List.length_set, n.len], fun j sv hj => ?_, fun j k e1 e2 a q1 q2 q3 q4 => ?_⟩
  · rcases get_set hj with ⟨rfl, _, rfl⟩ | ⟨hij, hj⟩
    · exact ⟨_, hs, l, ws, rfl, h2, h3, upd_same, hd⟩
    · obtain ⟨v, p1, p2⟩ := n.slot j sv hj
      refine ⟨v, p1, ?_⟩
      cases sv with
      | dat d => exact p2
      | bag => exact p2
      | own e =>
        obtain ⟨a, us, r1, r2, r3, r4, r5⟩ := p2
        refine ⟨a, us, r1, r2, r3, ?_, r5⟩
        have : a ≠ l := fun z => by
          subst z
          subst r1
          exact hij (n.sep i j _ _ _ h hj hs p1)
        rw [upd_ne this]
        exact r4
  · have back : ∀ (j : Nat) (e : List PyData), (env.set i (some (SV.own es)))[j]? = some (some (.own e)) → ∃ e', env[j]? = some (some (.own e')) := fun j e q => by
      rcases get_set q with ⟨rfl, _, _⟩ | ⟨_, q⟩
      · exact ⟨_, h⟩
      · exact ⟨_, q⟩
    obtain ⟨_, q1⟩ := back j _ q1
    obtain ⟨_, q2⟩ := back k _ q2
    exact n.sep j k _ _ a q1 q2 q3 q4
/-- the own list in slot i is frozen -/
theorem Den.freeze (n : Den B F H σ env) {i : Nat} {ds : List PyData} (h : env[i]? = some (some (.own ds))) : ∃ F', Ex F F' ∧ Den B F' H σ (env.set i (some (.dat (.list ds)))) := by
  obtain ⟨l, vs, h1, h2, h3, h4, h5⟩ := n.own h
  refine ⟨upd F l (.lst vs), Ex.new h3, n.g.freeze h2 h3 h4, by rw [List.length_set, n.len], fun j sv hj => ?_, fun j k e1 e2 a q1 q2 q3 q4 => ?_⟩
  · rcases get_set hj with ⟨rfl, _, rfl⟩ | ⟨hij, hj⟩
    · exact ⟨_, h1, .lst upd_same (h5.up (Ex.new h3))⟩
    · obtain ⟨v, p1, p2⟩ := n.slot j sv hj
      refine ⟨v, p1, ?_⟩
      cases sv with
      | dat d => exact Dt.up p2 (Ex.new h3)
      | bag => exact p2
      | own e =>
        obtain ⟨a, us, r1, r2, r3, r4, r5⟩ := p2
        refine ⟨a, us, r1, r2, ?_, r4, r5.up (Ex.new h3)⟩
        have : a ≠ l := fun z => by
          subst z
          subst r1
          exact hij (n.sep i j _ _ _ h hj h1 p1)
        rw [upd_ne this]
        exact r3
  · rcases get_set q1 with ⟨_, _, z⟩ | ⟨_, q1⟩
    · cases z
    · rcases get_set q2 with ⟨_, _, z⟩ | ⟨_, q2⟩
      · cases z
      · exact n.sep j k _ _ a q1 q2 q3 q4
/-- slots forgotten -/
theorem Den.forget (n : Den B F H σ env) {σ' : St} {env' : Denv} (hl : env'.length = σ'.length) (h : ∀ (i : Nat) sv, env'[i]? = some (some sv) → env[i]? = some (some sv) ∧ σ'[i]? = σ[i]?) : Den B F H σ' env' :=
  ⟨n.g, hl, fun i sv hi => by
    obtain ⟨h1, h2⟩ := h i sv hi
    obtain ⟨v, p, q⟩ := n.slot i sv h1
    exact ⟨v, by rw [h2]; exact p, q⟩, fun i j ds es l h1 h2 h3 h4 => by
    obtain ⟨a1, a2⟩ := h i _ h1
    obtain ⟨b1, b2⟩ := h j _ h2
    rw [a2] at h3
    rw [b2] at h4
    exact n.sep i j ds es l a1 b1 h3 h4⟩
end

/-! ### what may be read: frozen data, or an own list of frozen things -/
def Rb (F H : Hp) (v : V) (d : PyData) : Prop := Dt F v d ∨ ∃ l vs ds, v = V.ref l ∧ d = .list ds ∧ H l = some (.lst vs) ∧ DtA F vs ds
def VOk (σ : St) (env : Denv) (F : Hp) (v : V) (d : PyData) : Prop := Dt F v d ∨ ∃ (i : Nat) (ds : List PyData), env[i]? = some (some (.own ds)) ∧ σ[i]? = some (some v) ∧ d = .list ds
theorem VOk.up {σ : St} {env : Denv} {F F' : Hp} {v : V} {d : PyData} (h : VOk σ env F v d) (e : Ex F F') : VOk σ env F' v d := by
  rcases h with h | h
  · exact .inl (h.up e)
  · exact .inr h
theorem VOk.rb {B : Bs} {F H : Hp} {σ : St} {env : Denv} {v : V} {d : PyData} (h : VOk σ env F v d) (n : Den B F H σ env) : Rb F H v d := by
  rcases h with h | ⟨i, ds, h1, h2, rfl⟩
  · exact .inl h
  · obtain ⟨l, vs, p1, _, _, p4, p5⟩ := n.own h1
    rw [h2] at p1
    cases p1
    exact .inr ⟨l, vs, ds, rfl, rfl, p4, p5⟩
section
variable {F H : Hp} {v : V} {d : PyData}
theorem Rb.dt (h : Rb F H v d) (e : Ex F H) : Dt H v d := by
  rcases h with h | ⟨l, vs, ds, rfl, rfl, h1, h2⟩
  · exact h.up e
  · exact .lst h1 (h2.up e)
theorem Rb.int {i : Int} (h : Rb F H v (.int i)) : v = .int i := by
  rcases h with h | ⟨l, vs, ds, _, h, _⟩
  · cases h; rfl
  · cases h
theorem Rb.bool {i : Bool} (h : Rb F H v (.bool i)) : v = .bl i := by
  rcases h with h | ⟨l, vs, ds, _, h, _⟩
  · cases h; rfl
  · cases h
theorem Rb.none (h : Rb F H v .none) : v = .non := by
  rcases h with h | ⟨l, vs, ds, _, h, _⟩
  · cases h; rfl
  · cases h
theorem Rb.str {x : Str} (h : Rb F H v (.str x)) : v = .str x := by
  rcases h with h | ⟨l, vs, ds, _, h, _⟩
  · cases h; rfl
  · cases h
theorem Rb.list {ds : List PyData} (h : Rb F H v (.list ds)) (e : Ex F H) : ∃ l vs, v = .ref l ∧ H l = some (.lst vs) ∧ DtA F vs ds := by
  rcases h with h | ⟨l, vs, ds, rfl, h, h1, h2⟩
  · cases h with
    | lst h1 h2 => exact ⟨_, _, rfl, e _ _ h1, h2⟩
  · cases h
    exact ⟨l, vs, rfl, h1, h2⟩
theorem Rb.tuple {ds : List PyData} (h : Rb F H v (.tuple ds)) : ∃ l vs, v = .ref l ∧ TupAt F l vs ∧ DtA F vs ds := by
  rcases h with h | ⟨l, vs, ds, _, h, _⟩
  · cases h with
    | tup h1 h2 => exact ⟨_, _, rfl, h1, h2⟩
  · cases h
end
end Pd

set_option maxRecDepth 100000
set_option maxHeartbeats 4000000
namespace Pd
open PySem L2
open Evl (Ex)

/-! ### tuples made: each is locked as it is made -/
section
open PySem.Spec PyProof.Rows
variable {X : Cx}
def tTupZ (t : TA) : TE := fun σ H Q => t σ H fun xs H1 => xs.length ≤ sizeLine ∧ ∀ (p : Addr) (o : Obj), H1 p = none → o.dict = none → Q (.ref p) (upd H1 p (.frz o (.tup xs)))
theorem pe_tupZ {es : List Expr} {t : TA} {pos : Pos} {x1} (h : PA X es t) : PE X (.Tuple es x1 pos) (tTupZ t) := ⟨fun pins s σ H Q I hq => by
  refine wpAny_Tuple_spliced (thn (h.run pos pins s σ H _ I hq) fun us s1 ⟨xs, H1, I1, r, z, q⟩ => ⟨by rw [← r.length]; exact z, ?_⟩)
  refine ⟨.ref s1.heap.objs.size, _, I1.laid (t' := s1.toks) (o := .frz _ (.tup xs)) (fun b u e => Heap.get?_push_of_some _ e) (Nat.le_refl _) ⟨Heap.get?_push_size _ rfl, z, us, r, ⟨_, Heap.get?_push_size _ rfl, rfl, _, rfl⟩⟩, rfl, q _ _ (I1.hok.fresh (Nat.le_refl _)) rfl⟩⟩
def rCatZ (K : PySem.W.Frag) : R2 := fun x y H Q => ∃ a b xs ys, x = .ref a ∧ y = .ref b ∧ SqT K H a xs ∧ SqT K H b ys ∧ xs.length + ys.length ≤ sizeLine ∧
  (xs = [] → Q (.ref b) H) ∧ (xs ≠ [] → ys = [] → Q (.ref a) H) ∧ (xs ≠ [] → ys ≠ [] → ∀ (p : Addr) (o : Obj), H p = none → o.dict = none → Q (.ref p) (upd H p (.frz o (.tup (xs ++ ys)))))
theorem op_catZ : OpR X (binaryOp .Add) (rCatZ X.K) := fun pins s σ H x y v u Q I rx ry h => by
  obtain ⟨a, b, xs, ys, rfl, rfl, ha, hb, hz, q0, q1, q2⟩ := h
  cases rx
  cases ry
  obtain ⟨its, r1, p1, _⟩ := I.tuple ha
  obtain ⟨its2, r2, p2, _⟩ := I.tuple hb
  by_cases hx : xs = []
  · subst hx
    cases r1
    exact cat_tup0 p1 p2 ⟨.ref b, H, I, rfl, q0 rfl⟩
  · refine HT.cat_tup p1 p2 (fun z => hx (r1.nil_iff.mp z)) (fun z => ⟨.ref a, H, I, rfl, q1 hx (r2.nil_iff.mp z)⟩) (fun z => ?_) (by rw [← r1.length, ← r2.length]; exact hz)
    exact ⟨.ref s.heap.objs.size, _, I.laid (t' := s.toks) (o := .frz _ (.tup (xs ++ ys))) (fun b ob q => Heap.get?_push_of_some _ q) (Nat.le_refl _) ⟨Heap.get?_push_size _ rfl, by rw [List.length_append]; exact hz, _, r1.append r2, IsTup.new _ _⟩, rfl, q2 hx (fun w => z (r2.nil_iff.mpr w)) _ _ (I.hok.fresh (Nat.le_refl _)) rfl⟩
theorem call_tuple_ofZ : CallR X (.type "tuple") (fun xs H Q => ∃ p ys, xs = [.ref p] ∧ ((SqL X.K H p ys ∧ ∀ (l : Addr) (o : Obj), H l = none → o.dict = none → Q (.ref l) (upd H l (.frz o (.tup ys)))) ∨ (SqT X.K H p ys ∧ Q (.ref p) H))) := fun pins s σ H xs us Q I r h => by
  obtain ⟨p, ys, rfl, h⟩ := h
  obtain ⟨u, rfl, rx⟩ := vals1 r
  cases rx
  rcases h with ⟨hq, q⟩ | ⟨hq, q⟩
  · obtain ⟨its, r', pl, hz⟩ := I.list hq
    have hlen := r'.length
    refine call_tuple_list pl.isList (fun h' kp => ?_) (by simp only [List.size_toArray] <;> omega)
    have I1 : Inv X pins σ H { s with heap := h' } := I.kept (t' := s.toks) kp
    exact ⟨.ref h'.objs.size, _, I1.laid (t' := s.toks) (o := .frz _ (.tup ys)) (fun b o e => Heap.get?_push_of_some _ e) (Nat.le_refl _) ⟨Heap.get?_push_size _ rfl, hz, its, r', IsTup.new _ _⟩, rfl, q _ _ (I1.hok.fresh (Nat.le_refl _)) rfl⟩
  · obtain ⟨its, r', pl, hz⟩ := I.tuple hq
    exact call_tuple_same pl ⟨.ref p, H, I, rfl, q⟩
end
/-! ### judgements: the hand layer's term and reading, and the reading over plain data -/
abbrev DE := Denv → (PyData → Prop) → Prop
abbrev DN := Denv → (List PyData → Prop) → Prop
abbrev DT := Denv → (Bool → Prop) → Prop

/-- the value is frozen data -/
def Sd (te : TE) (t : DE) : Prop := ∀ B F H σ env Q Qv, Den B F H σ env → t env Q → (∀ v d F' H', Q d → Ex F F' → Den B F' H' σ env → Dt F' v d → Qv v H') → te σ H Qv
/-- .. is to be read -/
def Sr (te : TE) (t : DE) : Prop := ∀ B F H σ env Q Qv, Den B F H σ env → t env Q → (∀ v d F' H', Q d → Ex F F' → Den B F' H' σ env → VOk σ env F' v d → Qv v H') → te σ H Qv
/-- .. is a new list -/
def Sn (te : TE) (t : DN) : Prop := ∀ B F H σ env Q Qv, Den B F H σ env → t env Q → (∀ l vs ds F' H', Q ds → Ex F F' → Den B F' H' σ env → Fresh B F' H' σ env l vs ds → Qv (.ref l) H') → te σ H Qv
def St' (tt : TT) (t : DT) : Prop := ∀ B F H σ env Q Qv, Den B F H σ env → t env Q → (∀ b F' H', Q b → Ex F F' → Den B F' H' σ env → Qv b H') → tt σ H Qv
/-- a list of values that are read -/
def Sa (ta : TA) (t : DN) : Prop := ∀ B F H σ env Q Qv, Den B F H σ env → t env Q → (∀ vs ds F' H', Q ds → Ex F F' → Den B F' H' σ env → (Paired (VOk σ env F') vs ds) → Qv vs H') → ta σ H Qv
/-- .. of frozen values -/
def Sf (ta : TA) (t : DN) : Prop := ∀ B F H σ env Q Qv, Den B F H σ env → t env Q → (∀ vs ds F' H', Q ds → Ex F F' → Den B F' H' σ env → DtA F' vs ds → Qv vs H') → ta σ H Qv

structure PEd (X : Cx) (e : Expr) (te : TE) (t : DE) : Prop where
  pe : PE X e te
  s : Sd te t
structure PEr (X : Cx) (e : Expr) (te : TE) (t : DE) : Prop where
  pe : PE X e te
  s : Sr te t
structure PEn (X : Cx) (e : Expr) (te : TE) (t : DN) : Prop where
  pe : PE X e te
  s : Sn te t
structure PTd (X : Cx) (e : Expr) (tt : TT) (t : DT) : Prop where
  pt : PT X e tt
  s : St' tt t
structure PWd (X : Cx) (e : Expr) (tt : TT) (t : DT) : Prop where
  pw : PW X e tt
  s : St' tt t
structure PAr (X : Cx) (es : List Expr) (ta : TA) (t : DN) : Prop where
  pa : PA X es ta
  s : Sa ta t
structure PAf (X : Cx) (es : List Expr) (ta : TA) (t : DN) : Prop where
  pa : PA X es ta
  s : Sf ta t

section
variable {X : Cx} {a b c e : Expr} {es : List Expr} {ta tb te tc : TE} {tA tB' : TT} {da db dc dd : DE} {dn : DN} {dt du : DT} {pos : Pos}

theorem PEd.r (h : PEd X e te dd) : PEr X e te dd := ⟨h.pe, fun B F H σ env Q Qv n q k => h.s B F H σ env Q Qv n q fun v d F' H' q' e' n' r => k v d F' H' q' e' n' (.inl r)⟩
/-- a new list, frozen -/
def dFr (t : DN) : DE := fun env Q => t env fun ds => Q (.list ds)
theorem PEn.d (h : PEn X e te dn) : PEd X e te (dFr dn) := ⟨h.pe, fun B F H σ env Q Qv n q k => h.s B F H σ env _ Qv n q fun l vs ds F' H' q' e' n' r => by
  obtain ⟨n2, e2, d2⟩ := r.freeze n'
  exact k _ _ _ _ q' (e'.trans e2) n2 d2⟩
theorem PEn.r (h : PEn X e te dn) : PEr X e te (dFr dn) := h.d.r

/-! ### names, constants -/
def dVar (i : Nat) : DE := fun env Q => ∃ d, env[i]? = some (some (.dat d)) ∧ Q d
def dOwn (i : Nat) : DE := fun env Q => ∃ ds, env[i]? = some (some (.own ds)) ∧ Q (.list ds)
def dC (d : PyData) : DE := fun _ Q => Q d
theorem ped_var (i : Nat) {x : Str} (h : PE X (.Name x pos) (tVar i)) : PEd X (.Name x pos) (tVar i) (dVar i) := ⟨h, fun B F H σ env Q Qv n q k => by
  obtain ⟨d, h1, q⟩ := q
  obtain ⟨v, h2, h3⟩ := n.slot i _ h1
  exact ⟨v, h2, k v d F H q (Ex.refl F) n h3⟩⟩
theorem per_own (i : Nat) {x : Str} (h : PE X (.Name x pos) (tVar i)) : PEr X (.Name x pos) (tVar i) (dOwn i) := ⟨h, fun B F H σ env Q Qv n q k => by
  obtain ⟨ds, h1, q⟩ := q
  obtain ⟨v, h2, h3⟩ := n.slot i _ h1
  exact ⟨v, h2, k v _ F H q (Ex.refl F) n (.inr ⟨i, ds, h1, h2, rfl⟩)⟩⟩
theorem ped_c {v : V} {d : PyData} (h : PE X e (tC v)) (hd : ∀ F, Dt F v d) : PEd X e (tC v) (dC d) := ⟨h, fun B F H σ env Q Qv n q k => k v d F H q (Ex.refl F) n (hd F)⟩
theorem ped_int {i : Int} {j} : PEd X (.Constant (.int i) j pos) (tC (.int i)) (dC (.int i)) := ped_c pe_int fun F => .int i
theorem ped_bool {i : Bool} {j} : PEd X (.Constant (.bool i) j pos) (tC (.bl i)) (dC (.bool i)) := ped_c pe_bl fun F => .bl i
theorem ped_none {j} : PEd X (.Constant .none j pos) (tC .non) (dC .none) := ped_c pe_non fun F => .non
theorem ped_str {x : Str} {j} : PEd X (.Constant (.str x) j pos) (tC (.str x)) (dC (.str x)) := ped_c pe_str fun F => .str x
theorem ped_globI {x : Str} {i : Int} {u : Value} (hg : Gl X x) (hm : X.mg x = some u) (r : RelV (.int i) u) (hd : (x == ("__debug__" : Str)) = false := by decide) : PEd X (.Name x pos) (tC (.int i)) (dC (.int i)) := ped_c (pe_glob hg hm r hd) fun F => .int i

/-! ### operators -/
def OpD (r : R2) (o : PyData → PyData → (PyData → Prop) → Prop) : Prop := ∀ F H x y d e (Q : PyData → Prop) (Qv : VK), Ex F H → Rb F H x d → Rb F H y e → o d e Q → (∀ z f F' H', Q f → Gro F H F' H' → Dt F' z f → Qv z H') → r x y H Qv
def OpN (r : R2) (o : PyData → PyData → (List PyData → Prop) → Prop) : Prop := ∀ F H x y d e (Q : List PyData → Prop) (Qv : VK), Ex F H → Rb F H x d → Rb F H y e → o d e Q → (∀ p vs ds, Q ds → H p = none → DtA F vs ds → Qv (.ref p) (upd H p (.lst vs))) → r x y H Qv
def d2 (o : PyData → PyData → (PyData → Prop) → Prop) (da db : DE) : DE := fun env Q => da env fun x => db env fun y => o x y Q
def n2 (o : PyData → PyData → (List PyData → Prop) → Prop) (da db : DE) : DN := fun env Q => da env fun x => db env fun y => o x y Q
theorem sd_op {r : R2} {o : PyData → PyData → (PyData → Prop) → Prop} (hd : OpD r o) (ha : Sr ta da) (hb : Sr tb db) : Sd (tOp r ta tb) (d2 o da db) := fun B F H σ env Q Qv n q k =>
  ha B F H σ env _ _ n q fun v d F1 H1 q1 e1 n1 r1 => hb B F1 H1 σ env _ _ n1 q1 fun w f F2 H2 q2 e2 n2 r2 =>
    hd F2 H2 v w d f Q Qv n2.g.fh ((r1.up e2).rb n2) (r2.rb n2) q2 fun z f F' H' q' g' t' => k z f F' H' q' ((e1.trans e2).trans (g'.ex n2.g.fh)) (n2.gro g') t'
theorem sn_op {r : R2} {o : PyData → PyData → (List PyData → Prop) → Prop} (hd : OpN r o) (ha : Sr ta da) (hb : Sr tb db) : Sn (tOp r ta tb) (n2 o da db) := fun B F H σ env Q Qv n q k =>
  ha B F H σ env _ _ n q fun v d F1 H1 q1 e1 n1 r1 => hb B F1 H1 σ env _ _ n1 q1 fun w f F2 H2 q2 e2 n2 r2 =>
    hd F2 H2 v w d f Q Qv n2.g.fh ((r1.up e2).rb n2) (r2.rb n2) q2 fun p vs ds q' hp t' => by
      obtain ⟨f1, f2⟩ := Fresh.of n2 hp t'
      exact k p vs ds F2 _ q' (e1.trans e2) f2 f1
theorem ped_op {op : Operator} {r : R2} {o : PyData → PyData → (PyData → Prop) → Prop} (ho : OpR X (binaryOp op) r) (hd : OpD r o) (ha : PEr X a ta da) (hb : PEr X b tb db) : PEd X (.BinOp a op b pos) (tOp r ta tb) (d2 o da db) := ⟨pe_op ho ha.pe hb.pe, sd_op hd ha.s hb.s⟩
theorem pen_op {op : Operator} {r : R2} {o : PyData → PyData → (List PyData → Prop) → Prop} (ho : OpR X (binaryOp op) r) (hd : OpN r o) (ha : PEr X a ta da) (hb : PEr X b tb db) : PEn X (.BinOp a op b pos) (tOp r ta tb) (n2 o da db) := ⟨pe_op ho ha.pe hb.pe, sn_op hd ha.s hb.s⟩
theorem ped_cmp {op : CmpOp} {r : R2} {o : PyData → PyData → (PyData → Prop) → Prop} (ho : OpR X (compareOp op) r) (hd : OpD r o) (ha : PEr X a ta da) (hb : PEr X b tb db) (hm : behindInMarks op b = false := by rfl) : PEd X (.Compare a [op] [b] pos) (tOp r ta tb) (d2 o da db) := ⟨pe_cmpR ho ha.pe hb.pe hm, sd_op hd ha.s hb.s⟩
/-- a value as a test -/
def dTest (t : DE) : DT := fun env Q => t env fun d => ∃ k, d = .bool k ∧ Q k
theorem st_test (h : Sd te dd) : St' (tTest te) (dTest dd) := fun B F H σ env Q Qv n q k => h B F H σ env _ _ n q fun v d F' H' ⟨b, e, q'⟩ e' n' t' => by
  subst e
  cases t'
  exact ⟨b, rfl, k b F' H' q' e' n'⟩
theorem ptd_cmp {op : CmpOp} {r : R2} {o : PyData → PyData → (PyData → Prop) → Prop} (ho : OpR X (compareOp op) r) (hd : OpD r o) (ha : PEr X a ta da) (hb : PEr X b tb db) (hm : behindInMarks op b = false := by rfl) : PTd X (.Compare a [op] [b] pos) (tTest (tOp r ta tb)) (dTest (d2 o da db)) := ⟨pt_cmpR ho ha.pe hb.pe hm, st_test (sd_op hd ha.s hb.s)⟩
theorem ptd_val (h : PEd X e te dd) (he : ∀ whole, isTrue e X.env whole = (do let v ← whole; standAt e.pos; holding [v] (truthy v)) := by intro _; rfl) : PTd X e (tB te) (dTest dd) := ⟨pt_val h.pe he, st_test h.s⟩
def dChain (o o' : PyData → PyData → (PyData → Prop) → Prop) (da db dc : DE) : DE := fun env Q => da env fun x => db env fun y => o x y fun z => ∃ k, z = .bool k ∧ (if k = true then dc env fun w => o' y w Q else Q (.bool false))
theorem sd_chain {r r' : R2} {o o' : PyData → PyData → (PyData → Prop) → Prop} (hd : OpD r o) (hd' : OpD r' o') (ha : Sr ta da) (hb : Sr tb db) (hc : Sr tc dc) : Sd (tChain r r' ta tb tc) (dChain o o' da db dc) := fun B F H σ env Q Qv n q k =>
  ha B F H σ env _ _ n q fun v d F1 H1 q1 e1 n1 r1 => hb B F1 H1 σ env _ _ n1 q1 fun w f F2 H2 q2 e2 n2 r2 =>
    hd F2 H2 v w d f _ _ n2.g.fh ((r1.up e2).rb n2) (r2.rb n2) q2 fun z f' F3 H3 ⟨kk, ek, q3⟩ g3 t3 => by
      subst ek
      cases t3
      have e3 := (e1.trans e2).trans (g3.ex n2.g.fh)
      have n3 := n2.gro g3
      refine ⟨kk, rfl, ?_⟩
      cases kk with
      | false => exact k _ _ _ _ q3 e3 n3 (.bl false)
      | true => exact hc B F3 H3 σ env _ _ n3 q3 fun u g F4 H4 q4 e4 n4 r4 => hd' F4 H4 w u f g Q Qv n4.g.fh (((r2.up (g3.ex n2.g.fh)).up e4).rb n4) (r4.rb n4) q4 fun z f F' H' q' g' t' => k z f F' H' q' ((e3.trans e4).trans (g'.ex n4.g.fh)) (n4.gro g') t'
theorem ped_chain {op op' : CmpOp} {r r' : R2} {o o' : PyData → PyData → (PyData → Prop) → Prop} (ho : OpR X (compareOp op) r) (hd : OpD r o) (ho' : OpR X (compareOp op') r') (hd' : OpD r' o') (ha : PEr X a ta da) (hb : PEr X b tb db) (hc : PEr X c tc dc)
    (hm : lastMarks [op, op'] [b, c] = false := by with_unfolding_all rfl) : PEd X (.Compare a [op, op'] [b, c] pos) (tChain r r' ta tb tc) (dChain o o' da db dc) := ⟨pe_chain ho ho' ha.pe hb.pe hc.pe hm, sd_chain hd hd' ha.s hb.s hc.s⟩

/-! ### and, or, not, if -/
def dAnd (t u : DT) : DT := fun env Q => t env fun c => if c = true then u env Q else Q false
def dOr (t u : DT) : DT := fun env Q => t env fun c => if c = true then Q true else u env Q
def dNot (t : DT) : DT := fun env Q => t env fun c => Q (!c)
theorem pwd_and1 (ha : PTd X a tA dt) : PWd X (.BoolOp .And [a] pos) tA dt := ⟨pw_and1 ha.pt, ha.s⟩
theorem pwd_or1 (ha : PTd X a tA dt) : PWd X (.BoolOp .Or [a] pos) tA dt := ⟨pw_or1 ha.pt, ha.s⟩
theorem pwd_and (ha : PTd X a tA dt) (hb : PWd X (.BoolOp .And (b :: es) pos) tB' du) : PWd X (.BoolOp .And (a :: b :: es) pos) (tAnd tA tB') (dAnd dt du) := ⟨pw_and ha.pt hb.pw, fun B F H σ env Q Qv n q k =>
  ha.s B F H σ env _ _ n q fun c F1 H1 q1 e1 n1 => by
    cases c with
    | true => exact hb.s B F1 H1 σ env _ _ n1 q1 fun c F2 H2 q2 e2 n2 => k c F2 H2 q2 (e1.trans e2) n2
    | false => exact k _ _ _ q1 e1 n1⟩
theorem pwd_or (ha : PTd X a tA dt) (hb : PWd X (.BoolOp .Or (b :: es) pos) tB' du) : PWd X (.BoolOp .Or (a :: b :: es) pos) (tOr tA tB') (dOr dt du) := ⟨pw_or ha.pt hb.pw, fun B F H σ env Q Qv n q k =>
  ha.s B F H σ env _ _ n q fun c F1 H1 q1 e1 n1 => by
    cases c with
    | false => exact hb.s B F1 H1 σ env _ _ n1 q1 fun c F2 H2 q2 e2 n2 => k c F2 H2 q2 (e1.trans e2) n2
    | true => exact k _ _ _ q1 e1 n1⟩
theorem ptd_w (h : PWd X a tA dt) : PTd X a tA dt := ⟨h.pw.pt, h.s⟩
theorem ptd_not (ha : PTd X a tA dt) : PTd X (.UnaryOp .Not a pos) (tNot tA) (dNot dt) := ⟨pt_not ha.pt, fun B F H σ env Q Qv n q k => ha.s B F H σ env _ _ n q fun c F1 H1 q1 e1 n1 => k _ _ _ q1 e1 n1⟩
def dAndV (t u : DE) : DE := fun env Q => t env fun d => ∃ c, d = .bool c ∧ (if c = true then u env Q else Q (.bool false))
def dOrV (t u : DE) : DE := fun env Q => t env fun d => ∃ c, d = .bool c ∧ (if c = true then Q (.bool true) else u env Q)
def dNotV (t : DE) : DE := fun env Q => t env fun d => ∃ c, d = .bool c ∧ Q (.bool (!c))
theorem ped_one {op} (h : PEd X a ta da) : PEd X (.BoolOp op [a] pos) ta da := ⟨pe_one h.pe, h.s⟩
theorem ped_and (ha : PEd X a ta da) (hb : PEd X (.BoolOp .And (b :: es) pos) tb db) : PEd X (.BoolOp .And (a :: b :: es) pos) (tAndV ta tb) (dAndV da db) := ⟨pe_and ha.pe hb.pe, fun B F H σ env Q Qv n q k =>
  ha.s B F H σ env _ _ n q fun v d F1 H1 ⟨c, e, q1⟩ e1 n1 t1 => by
    subst e
    cases t1
    refine ⟨c, rfl, ?_⟩
    cases c with
    | true => exact hb.s B F1 H1 σ env _ _ n1 q1 fun v d F2 H2 q2 e2 n2 t2 => k v d F2 H2 q2 (e1.trans e2) n2 t2
    | false => exact k _ _ _ _ q1 e1 n1 (.bl false)⟩
theorem ped_or (ha : PEd X a ta da) (hb : PEd X (.BoolOp .Or (b :: es) pos) tb db) : PEd X (.BoolOp .Or (a :: b :: es) pos) (tOrV ta tb) (dOrV da db) := ⟨pe_or ha.pe hb.pe, fun B F H σ env Q Qv n q k =>
  ha.s B F H σ env _ _ n q fun v d F1 H1 ⟨c, e, q1⟩ e1 n1 t1 => by
    subst e
    cases t1
    refine ⟨c, rfl, ?_⟩
    cases c with
    | false => exact hb.s B F1 H1 σ env _ _ n1 q1 fun v d F2 H2 q2 e2 n2 t2 => k v d F2 H2 q2 (e1.trans e2) n2 t2
    | true => exact k _ _ _ _ q1 e1 n1 (.bl true)⟩
theorem ped_not (ha : PEd X a ta da) : PEd X (.UnaryOp .Not a pos) (tNotV ta) (dNotV da) := ⟨pe_not ha.pe, fun B F H σ env Q Qv n q k =>
  ha.s B F H σ env _ _ n q fun v d F1 H1 ⟨c, e, q1⟩ e1 n1 t1 => by
    subst e
    cases t1
    exact ⟨c, rfl, k _ _ _ _ q1 e1 n1 (.bl _)⟩⟩
def dIf (t : DT) (da db : DE) : DE := fun env Q => t env fun c => if c = true then da env Q else db env Q
theorem ped_if (hc : PTd X c tA dt) (ha : PEd X a ta da) (hb : PEd X b tb db) : PEd X (.IfExp c a b pos) (tIf tA ta tb) (dIf dt da db) := ⟨pe_ifExp hc.pt ha.pe hb.pe, fun B F H σ env Q Qv n q k =>
  hc.s B F H σ env _ _ n q fun c F1 H1 q1 e1 n1 => by
    cases c with
    | true => exact ha.s B F1 H1 σ env _ _ n1 q1 fun v d F2 H2 q2 e2 n2 t2 => k v d F2 H2 q2 (e1.trans e2) n2 t2
    | false => exact hb.s B F1 H1 σ env _ _ n1 q1 fun v d F2 H2 q2 e2 n2 t2 => k v d F2 H2 q2 (e1.trans e2) n2 t2⟩

/-! ### argument lists, displays -/
def nNil : DN := fun _ Q => Q []
def nCons (da : DE) (dn : DN) : DN := fun env Q => da env fun x => dn env fun xs => Q (x :: xs)
variable {tA1 : TA}
theorem par_nil : PAr X [] tNil nNil := ⟨pa_nil, fun B F H σ env Q Qv n q k => k [] [] F H q (Ex.refl F) n .nil⟩
theorem Paired.imp {α β : Type} {R S : α → β → Prop} : ∀ {l : List α} {m : List β}, Paired R l m → (∀ a b, R a b → S a b) → Paired S l m
  | _, _, .nil, _ => .nil
  | _, _, .cons r t, f => .cons (f _ _ r) (Paired.imp t f)
theorem par_cons (ha : PEr X e te dd) (hr : PAr X es tA1 dn) (hs : starEach (e :: es) X.env = (false, eval e X.env) :: starEach es X.env := by rfl) : PAr X (e :: es) (tCons te tA1) (nCons dd dn) := ⟨pa_cons ha.pe hr.pa hs, fun B F H σ env Q Qv n q k =>
  ha.s B F H σ env _ _ n q fun v d F1 H1 q1 e1 n1 r1 => hr.s B F1 H1 σ env _ _ n1 q1 fun vs ds F2 H2 q2 e2 n2 r2 => k (v :: vs) (d :: ds) F2 H2 q2 (e1.trans e2) n2 (.cons (r1.up e2) r2)⟩
theorem paf_nil : PAf X [] tNil nNil := ⟨pa_nil, fun B F H σ env Q Qv n q k => k [] [] F H q (Ex.refl F) n .nil⟩
theorem paf_cons (ha : PEd X e te dd) (hr : PAf X es tA1 dn) (hs : starEach (e :: es) X.env = (false, eval e X.env) :: starEach es X.env := by rfl) : PAf X (e :: es) (tCons te tA1) (nCons dd dn) := ⟨pa_cons ha.pe hr.pa hs, fun B F H σ env Q Qv n q k =>
  ha.s B F H σ env _ _ n q fun v d F1 H1 q1 e1 n1 r1 => hr.s B F1 H1 σ env _ _ n1 q1 fun vs ds F2 H2 q2 e2 n2 r2 => k (v :: vs) (d :: ds) F2 H2 q2 (e1.trans e2) n2 (.cons (r1.up e2) r2)⟩
def dTup (dn : DN) : DE := fun env Q => dn env fun ds => ds.length ≤ 1000 ∧ Q (.tuple ds)
def nLst (dn : DN) : DN := fun env Q => dn env fun ds => ds.length ≤ 1000 ∧ Q ds
theorem size1000 {n : Nat} (h : n ≤ 1000) : n ≤ sizeLine := Nat.le_trans h (by decide)
theorem ped_tup {x1} (h : PAf X es tA1 dn) : PEd X (.Tuple es x1 pos) (tTupZ tA1) (dTup dn) := ⟨pe_tupZ h.pa, fun B F H σ env Q Qv n q k =>
  h.s B F H σ env _ _ n q fun vs ds F1 H1 ⟨hl, q1⟩ e1 n1 t1 => ⟨by rw [t1.len]; exact size1000 hl, fun p o hp ho => by
    have g : Gro F1 H1 (upd F1 p (.frz o (.tup vs))) (upd H1 p (.frz o (.tup vs))) := .new hp
    exact k _ _ _ _ q1 (e1.trans (g.ex n1.g.fh)) (n1.gro g) (.tup (.new ho) (t1.up (g.ex n1.g.fh)))⟩⟩
theorem pen_lst (h : PAf X es tA1 dn) : PEn X (.List es pos) (tLst tA1) (nLst dn) := ⟨pe_lst h.pa, fun B F H σ env Q Qv n q k =>
  h.s B F H σ env _ _ n q fun vs ds F1 H1 ⟨hl, q1⟩ e1 n1 t1 => ⟨by rw [t1.len]; exact size1000 hl, fun p hp => by
    obtain ⟨f1, f2⟩ := Fresh.of n1 hp t1
    exact k p vs ds F1 _ q1 e1 f2 f1⟩⟩

/-! ### calls of built-ins -/
def CallD (r : List V → Hp → VK → Prop) (o : List PyData → (PyData → Prop) → Prop) : Prop := ∀ F H xs ds (Q : PyData → Prop) (Qv : VK), Ex F H → Paired (Rb F H) xs ds → o ds Q → (∀ z f F' H', Q f → Gro F H F' H' → Dt F' z f → Qv z H') → r xs H Qv
def CallN (r : List V → Hp → VK → Prop) (o : List PyData → (List PyData → Prop) → Prop) : Prop := ∀ F H xs ds (Q : List PyData → Prop) (Qv : VK), Ex F H → Paired (Rb F H) xs ds → o ds Q → (∀ p vs es, Q es → H p = none → DtA F vs es → Qv (.ref p) (upd H p (.lst vs))) → r xs H Qv
def dCB (o : List PyData → (PyData → Prop) → Prop) (dn : DN) : DE := fun env Q => dn env fun ds => o ds Q
def nCB (o : List PyData → (List PyData → Prop) → Prop) (dn : DN) : DN := fun env Q => dn env fun ds => o ds Q
variable {r : List V → Hp → VK → Prop} {id T : String} {x : Str} {p : Pos}
theorem sd_cb {o : List PyData → (PyData → Prop) → Prop} (hd : CallD r o) (ha : Sa tA1 dn) : Sd (tCB r tA1) (dCB o dn) := fun B F H σ env Q Qv n q k =>
  ha B F H σ env _ _ n q fun vs ds F1 H1 q1 e1 n1 r1 => hd F1 H1 vs ds Q Qv n1.g.fh (Paired.imp r1 fun _ _ h => h.rb n1) q1 fun z f F' H' q' g' t' => k z f F' H' q' (e1.trans (g'.ex n1.g.fh)) (n1.gro g') t'
theorem sn_cb {o : List PyData → (List PyData → Prop) → Prop} (hd : CallN r o) (ha : Sa tA1 dn) : Sn (tCB r tA1) (nCB o dn) := fun B F H σ env Q Qv n q k =>
  ha B F H σ env _ _ n q fun vs ds F1 H1 q1 e1 n1 r1 => hd F1 H1 vs ds Q Qv n1.g.fh (Paired.imp r1 fun _ _ h => h.rb n1) q1 fun p vs es q' hp t' => by
    obtain ⟨f1, f2⟩ := Fresh.of n1 hp t'
    exact k p vs es F1 _ q' e1 f2 f1
theorem ped_callB {o : List PyData → (PyData → Prop) → Prop} (hc : CallR X (.builtin id) r) (hd : CallD r o) (hg : Gl X x) (hm : X.mg x = none) (hv : bootBuiltins x = some (.builtin id)) (ha : PAr X (e :: es) tA1 dn) (hn : x ≠ "__name__" := by decide) (hdb : (x == ("__debug__" : Str)) = false := by decide)
    (he : starEach (e :: es) X.env = (false, eval e X.env) :: starEach es X.env := by rfl) (hpl : (backTo pos (starEach es X.env)).any (·.1) = false := by rfl) : PEd X (.Call (.Name x p) (e :: es) [] pos) (tCB r tA1) (dCB o dn) := ⟨pe_callB hc hg hm hv ha.pa hn hdb he hpl, sd_cb hd ha.s⟩
theorem ped_callTy {o : List PyData → (PyData → Prop) → Prop} (hc : CallR X (.type T) r) (hd : CallD r o) (hg : Gl X x) (hm : X.mg x = none) (hv : bootBuiltins x = some (.type T)) (ha : PAr X (e :: es) tA1 dn) (hn : x ≠ "__name__" := by decide) (hdb : (x == ("__debug__" : Str)) = false := by decide)
    (he : starEach (e :: es) X.env = (false, eval e X.env) :: starEach es X.env := by rfl) (hpl : (backTo pos (starEach es X.env)).any (·.1) = false := by rfl) : PEd X (.Call (.Name x p) (e :: es) [] pos) (tCB r tA1) (dCB o dn) := ⟨pe_callTy hc hg hm hv ha.pa hn hdb he hpl, sd_cb hd ha.s⟩
theorem pen_callTy {o : List PyData → (List PyData → Prop) → Prop} (hc : CallR X (.type T) r) (hd : CallN r o) (hg : Gl X x) (hm : X.mg x = none) (hv : bootBuiltins x = some (.type T)) (ha : PAr X (e :: es) tA1 dn) (hn : x ≠ "__name__" := by decide) (hdb : (x == ("__debug__" : Str)) = false := by decide)
    (he : starEach (e :: es) X.env = (false, eval e X.env) :: starEach es X.env := by rfl) (hpl : (backTo pos (starEach es X.env)).any (·.1) = false := by rfl) : PEn X (.Call (.Name x p) (e :: es) [] pos) (tCB r tA1) (nCB o dn) := ⟨pe_callTy hc hg hm hv ha.pa hn hdb he hpl, sn_cb hd ha.s⟩
theorem pen_callB {o : List PyData → (List PyData → Prop) → Prop} (hc : CallR X (.builtin id) r) (hd : CallN r o) (hg : Gl X x) (hm : X.mg x = none) (hv : bootBuiltins x = some (.builtin id)) (ha : PAr X (e :: es) tA1 dn) (hn : x ≠ "__name__" := by decide) (hdb : (x == ("__debug__" : Str)) = false := by decide)
    (he : starEach (e :: es) X.env = (false, eval e X.env) :: starEach es X.env := by rfl) (hpl : (backTo pos (starEach es X.env)).any (·.1) = false := by rfl) : PEn X (.Call (.Name x p) (e :: es) [] pos) (tCB r tA1) (nCB o dn) := ⟨pe_callB hc hg hm hv ha.pa hn hdb he hpl, sn_cb hd ha.s⟩

/-! ### one-place operators, subscripts, slices -/
def d1 (o : PyData → (PyData → Prop) → Prop) (da : DE) : DE := fun env Q => da env fun x => o x Q
def negD : PyData → (PyData → Prop) → Prop
  | .int i, Q => Q (.int (-i))
  | _, _ => False
theorem ped_neg (ha : PEr X a ta da) : PEd X (.UnaryOp .USub a pos) (tUn (rU fun i => .int (-i)) ta) (d1 negD da) := ⟨pe_un un_neg ha.pe, fun B F H σ env Q Qv n q k =>
  ha.s B F H σ env _ _ n q fun v d F1 H1 q1 e1 n1 r1 => by
    cases d with
    | int i => exact ⟨i, (r1.rb n1).int, k _ _ _ _ q1 e1 n1 (.int _)⟩
    | _ => exact q1.elim⟩
theorem ped_ix {r : R2} {o : PyData → PyData → (PyData → Prop) → Prop} (hr : IxR X r) (hd : OpD r o) (ha : PEr X a ta da) (hb : PEr X b tb db) (hs : PlainIx b := by intro _ _; rfl) : PEd X (.Subscript a b pos) (tOp r ta tb) (d2 o da db) := ⟨pe_ix hr ha.pe hb.pe hs, sd_op hd ha.s hb.s⟩
abbrev DO := Denv → (Option Int → Prop) → Prop
def So (to : TO) (t : DO) : Prop := ∀ B F H σ env Q Qv, Den B F H σ env → t env Q → (∀ i F' H', Q i → Ex F F' → Den B F' H' σ env → Qv i H') → to σ H Qv
structure POd (X : Cx) (e : Option Expr) (to : TO) (t : DO) : Prop where
  po : PO X e to
  s : So to t
def oNone : DO := fun _ Q => Q none
def oSome (t : DE) : DO := fun env Q => t env fun d => ∃ i, d = .int i ∧ Q (some i)
theorem pod_none : POd X none tNoPart oNone := ⟨po_none, fun B F H σ env Q Qv n q k => k none F H q (Ex.refl F) n⟩
theorem pod_some (h : PEd X e te dd) : POd X (some e) (tPart te) (oSome dd) := ⟨po_some h.pe, fun B F H σ env Q Qv n q k => h.s B F H σ env _ _ n q fun v d F1 H1 ⟨i, e, q1⟩ e1 n1 t1 => by
  subst e
  cases t1
  exact ⟨i, rfl, k _ _ _ q1 e1 n1⟩⟩
def cutD (ds : List PyData) (lo hi : Option Int) : List PyData := (ds.drop (HT.sIx ds.length 0 lo)).take (HT.sIx ds.length ds.length hi - HT.sIx ds.length 0 lo)
theorem DtA.cut {F : Hp} {vs : List V} {ds : List PyData} (h : DtA F vs ds) (lo hi : Option Int) : DtA F (cutV vs lo hi) (cutD ds lo hi) := by
  unfold cutV cutD
  rw [h.len]
  exact (h.drop _).take _
def nSlL (da : DE) (lo hi : DO) : DN := fun env Q => da env fun d => lo env fun l => hi env fun u => ∃ ds, d = .list ds ∧ Q (cutD ds l u)
variable {lo hi : Option Expr} {tl th : TO} {dl dh : DO} {p2 : Pos}
theorem pen_slL (ha : PEr X a ta da) (hl : POd X lo tl dl) (hh : POd X hi th dh) : PEn X (.Subscript a (.Slice lo hi none p2) pos) (tSl (rSlL X.K) ta tl th) (nSlL da dl dh) := ⟨pe_slice sl_list ha.pe hl.po hh.po, fun B F H σ env Q Qv n q k =>
  ha.s B F H σ env _ _ n q fun v d F1 H1 q1 e1 n1 r1 => hl.s B F1 H1 σ env _ _ n1 q1 fun l F2 H2 q2 e2 n2 => hh.s B F2 H2 σ env _ _ n2 q2 fun u F3 H3 ⟨ds, ed, q3⟩ e3 n3 => by
    subst ed
    obtain ⟨a', vs, rfl, h1, h2⟩ := ((r1.up (e2.trans e3)).rb n3).list n3.g.fh
    refine ⟨a', vs, rfl, SqL.of h1, fun p hp => ?_⟩
    obtain ⟨f1, f2⟩ := Fresh.of n3 hp (h2.cut l u)
    exact k p _ _ F3 _ q3 (e1.trans (e2.trans e3)) f2 f1⟩
theorem cut_all {F : Hp} {vs : List V} {ds : List PyData} (h : DtA F vs ds) {lo hi : Option Int} (h0 : HT.sIx vs.length 0 lo = 0 ∧ HT.sIx vs.length vs.length hi = vs.length) : cutD ds lo hi = ds := by
  unfold cutD
  rw [← h.len, h0.1, h0.2, h.len]
  simp
def nRevL (da : DE) : DN := fun env Q => da env fun d => ∃ ds, d = .list ds ∧ Q ds.reverse
theorem pen_revL {k : Nat} {p1 p2 p3 : Pos} (ha : PEr X a ta da) : PEn X (.Subscript a (.Slice none none (some (.UnaryOp .USub (.Constant (.int 1) k p1) p2)) p3) pos) (tRevL X.K ta) (nRevL da) := ⟨pe_revL ha.pe, fun B F H σ env Q Qv n q k =>
  ha.s B F H σ env _ _ n q fun v d F1 H1 ⟨ds, ed, q1⟩ e1 n1 r1 => by
    subst ed
    obtain ⟨a', vs, rfl, h1, h2⟩ := (r1.rb n1).list n1.g.fh
    refine ⟨a', vs, rfl, SqL.of h1, fun p hp => ?_⟩
    obtain ⟨f1, f2⟩ := Fresh.of n1 hp h2.rev
    exact k p _ _ F1 _ q1 e1 f2 f1⟩
end

/-! ### the operators over data -/
section
variable {X : Cx}
def mulOk (i j : Int) : Prop := (i.natAbs < 2 ^ 1000 ∧ j.natAbs < 2 ^ 1000) ∨ j = 0 ∨ j = 1
def addD : PyData → PyData → (PyData → Prop) → Prop
  | .int i, .int j, Q => Q (.int (i + j))
  | .list xs, .list ys, Q => xs.length + ys.length ≤ 1000000 ∧ Q (.list (xs ++ ys))
  | .tuple xs, .tuple ys, Q => xs.length + ys.length ≤ 1000000 ∧ Q (.tuple (xs ++ ys))
  | _, _, _ => False
def subD : PyData → PyData → (PyData → Prop) → Prop
  | .int i, .int j, Q => Q (.int (i - j))
  | _, _, _ => False
def mulD : PyData → PyData → (PyData → Prop) → Prop
  | .int i, .int j, Q => mulOk i j ∧ Q (.int (i * j))
  | .list xs, .int j, Q => 0 ≤ j ∧ j ≤ 1000 ∧ xs.length ≤ 1000 ∧ Q (.list (List.replicate j.toNat xs).flatten)
  | _, _, _ => False
def fdivD : PyData → PyData → (PyData → Prop) → Prop
  | .int i, .int j, Q => (0 < j ∧ j.natAbs < 2 ^ 1000) ∧ Q (.int (i / j))
  | _, _, _ => False
def modD : PyData → PyData → (PyData → Prop) → Prop
  | .int i, .int j, Q => 0 < j ∧ Q (.int (i % j))
  | _, _, _ => False
def powD : PyData → PyData → (PyData → Prop) → Prop
  | .int i, .int j, Q => (0 ≤ j ∧ j ≤ 1000 ∧ i.natAbs < 2 ^ 64) ∧ Q (.int (i ^ j.toNat))
  | _, _, _ => False
def ltD : PyData → PyData → (PyData → Prop) → Prop
  | .int i, .int j, Q => Q (.bool (decide (i < j)))
  | _, _, _ => False
def leD : PyData → PyData → (PyData → Prop) → Prop
  | .int i, .int j, Q => Q (.bool (decide (i ≤ j)))
  | _, _, _ => False
def gtD : PyData → PyData → (PyData → Prop) → Prop
  | .int i, .int j, Q => Q (.bool (decide (j < i)))
  | _, _, _ => False
def geD : PyData → PyData → (PyData → Prop) → Prop
  | .int i, .int j, Q => Q (.bool (decide (j ≤ i)))
  | _, _, _ => False

theorem rep_dta {F : Hp} {vs : List V} {ds : List PyData} (h : DtA F vs ds) : ∀ n : Nat, DtA F (List.replicate n vs).flatten (List.replicate n ds).flatten
  | 0 => .nil
  | n + 1 => by
    rw [List.replicate_succ, List.replicate_succ, List.flatten_cons, List.flatten_cons]
    exact h.app (rep_dta h n)
theorem OpR.or {f : Value → Value → Sem Value} {r r' : R2} (h : OpR X f r) (h' : OpR X f r') : OpR X f (fun x y H Q => r x y H Q ∨ r' x y H Q) := fun pins s σ H x y v u Q I rx ry q => by
  rcases q with q | q
  · exact h pins s σ H x y v u Q I rx ry q
  · exact h' pins s σ H x y v u Q I rx ry q
def rAddA (K : PySem.W.Frag) : R2 := fun x y H Q => (rI0 fun i j => .int (i + j)) x y H Q ∨ (rCat x y H Q ∨ rCatZ K x y H Q)
theorem op_addA : OpR X (binaryOp .Add) (rAddA X.K) := OpR.or op_add (OpR.or op_cat op_catZ)
theorem dta_nil {F : Hp} {vs : List V} (h : DtA F vs []) : vs = [] := by
  cases h
  rfl
theorem dta_nil' {F : Hp} {ds : List PyData} (h : DtA F [] ds) : ds = [] := by
  cases h
  rfl
theorem od_add {K : PySem.W.Frag} : OpD (rAddA K) addD := fun F H x y d e Q Qv ex rx ry q k => by
  cases d with
  | int i =>
    cases e with
    | int j => exact .inl ⟨i, j, rx.int, ry.int, k _ _ F H q .refl (.int _)⟩
    | _ => exact q.elim
  | list xs =>
    cases e with
    | list ys =>
      obtain ⟨hl, q⟩ := (show xs.length + ys.length ≤ 1000000 ∧ Q (.list (xs ++ ys)) from q)
      obtain ⟨a, vs, rfl, h1, h2⟩ := rx.list ex
      obtain ⟨b, ws, rfl, h3, h4⟩ := ry.list ex
      refine .inr (.inl ⟨a, b, vs, ws, rfl, rfl, h1, h3, ?_, fun p hp => ?_⟩)
      · rw [h2.len, h4.len]
        exact Nat.le_trans hl (by decide)
      · have g : Gro F H (upd F p (.lst (vs ++ ws))) (upd H p (.lst (vs ++ ws))) := .new hp
        exact k _ _ _ _ q g (.lst upd_same ((h2.app h4).up (g.ex ex)))
    | _ => exact q.elim
  | tuple xs =>
    cases e with
    | tuple ys =>
      obtain ⟨hl, q⟩ := (show xs.length + ys.length ≤ 1000000 ∧ Q (.tuple (xs ++ ys)) from q)
      obtain ⟨a, vs, rfl, h1, h2⟩ := rx.tuple
      obtain ⟨b, ws, rfl, h3, h4⟩ := ry.tuple
      refine .inr (.inr ⟨a, b, vs, ws, rfl, rfl, h1.sq ex, h3.sq ex, ?_, fun z => ?_, fun _ z => ?_, fun _ _ p o hp ho => ?_⟩)
      · rw [h2.len, h4.len]
        exact Nat.le_trans hl (by decide)
      · subst z
        rw [dta_nil' h2] at q
        exact k _ _ F H q .refl (.tup h3 h4)
      · subst z
        rw [dta_nil' h4, List.append_nil] at q
        exact k _ _ F H q .refl (.tup h1 h2)
      · have g : Gro F H (upd F p (.frz o (.tup (vs ++ ws)))) (upd H p (.frz o (.tup (vs ++ ws)))) := .new hp
        exact k _ _ _ _ q g (.tup (.new ho) ((h2.app h4).up (g.ex ex)))
    | _ => exact q.elim
  | _ => exact q.elim
/-- a list + a list, new -/
def catN : PyData → PyData → (List PyData → Prop) → Prop
  | .list xs, .list ys, Q => xs.length + ys.length ≤ 1000000 ∧ Q (xs ++ ys)
  | _, _, _ => False
theorem on_cat : OpN rCat catN := fun F H x y d e Q Qv ex rx ry q k => by
  cases d with
  | list xs =>
    cases e with
    | list ys =>
      obtain ⟨hl, q⟩ := (show xs.length + ys.length ≤ 1000000 ∧ Q (xs ++ ys) from q)
      obtain ⟨a, vs, rfl, h1, h2⟩ := rx.list ex
      obtain ⟨b, ws, rfl, h3, h4⟩ := ry.list ex
      refine ⟨a, b, vs, ws, rfl, rfl, h1, h3, ?_, fun p hp => k p _ _ q hp (h2.app h4)⟩
      rw [h2.len, h4.len]
      exact Nat.le_trans hl (by decide)
    | _ => exact q.elim
  | _ => exact q.elim
theorem od_int0 {g : Int → Int → Int} {o : PyData → PyData → (PyData → Prop) → Prop} (h : ∀ d e Q, o d e Q → ∃ i j, d = .int i ∧ e = .int j ∧ Q (.int (g i j))) : OpD (rI0 fun i j => .int (g i j)) o := fun F H x y d e Q Qv ex rx ry q k => by
  obtain ⟨i, j, rfl, rfl, q1⟩ := h d e Q q
  exact ⟨i, j, rx.int, ry.int, k _ _ F H q1 .refl (.int _)⟩
theorem od_bool0 {g : Int → Int → Bool} {o : PyData → PyData → (PyData → Prop) → Prop} (h : ∀ d e Q, o d e Q → ∃ i j, d = .int i ∧ e = .int j ∧ Q (.bool (g i j))) : OpD (rI0 fun i j => .bl (g i j)) o := fun F H x y d e Q Qv ex rx ry q k => by
  obtain ⟨i, j, rfl, rfl, q1⟩ := h d e Q q
  exact ⟨i, j, rx.int, ry.int, k _ _ F H q1 .refl (.bl _)⟩
theorem od_sub : OpD (rI0 fun i j => .int (i - j)) subD := od_int0 fun d e Q q => by
  cases d <;> cases e <;> first | exact q.elim | exact ⟨_, _, rfl, rfl, q⟩
theorem od_lt : OpD (rI0 fun i j => .bl (decide (i < j))) ltD := od_bool0 fun d e Q q => by
  cases d <;> cases e <;> first | exact q.elim | exact ⟨_, _, rfl, rfl, q⟩
theorem od_le : OpD (rI0 fun i j => .bl (decide (i ≤ j))) leD := od_bool0 fun d e Q q => by
  cases d <;> cases e <;> first | exact q.elim | exact ⟨_, _, rfl, rfl, q⟩
theorem od_gt : OpD (rI0 fun i j => .bl (decide (j < i))) gtD := od_bool0 fun d e Q q => by
  cases d <;> cases e <;> first | exact q.elim | exact ⟨_, _, rfl, rfl, q⟩
theorem od_ge : OpD (rI0 fun i j => .bl (decide (j ≤ i))) geD := od_bool0 fun d e Q q => by
  cases d <;> cases e <;> first | exact q.elim | exact ⟨_, _, rfl, rfl, q⟩
theorem od_mod : OpD (rI (fun _ j => 0 < j) fun i j => .int (i % j)) modD := fun F H x y d e Q Qv ex rx ry q k => by
  cases d <;> cases e <;> first | exact q.elim | exact ⟨_, _, rx.int, ry.int, q.1, k _ _ F H q.2 .refl (.int _)⟩
theorem od_fdiv : OpD (rI CDivW fun i j => .int (i / j)) fdivD := fun F H x y d e Q Qv ex rx ry q k => by
  cases d <;> cases e <;> first | exact q.elim | exact ⟨_, _, rx.int, ry.int, wide_div q.1.1 q.1.2 (by decide) (by decide), k _ _ F H q.2 .refl (.int _)⟩
theorem od_pow : OpD (rI CPow fun i j => .int (i ^ j.toNat)) powD := fun F H x y d e Q Qv ex rx ry q k => by
  cases d <;> cases e <;> first | exact q.elim | exact ⟨_, _, rx.int, ry.int, ⟨q.1.1, Int.le_trans q.1.2.1 (by decide), q.1.2.2⟩, k _ _ F H q.2 .refl (.int _)⟩
def CMulA (i j : Int) : Prop := CMul i j ∨ CMulW i j
theorem op_mulA : OpR X (binaryOp .Mult) (rI CMulA fun i j => .int (i * j)) := fun pins s σ H x y v u Q I rx ry q => by
  obtain ⟨i, j, e1, e2, c | c, q⟩ := q
  · exact op_mul pins s σ H x y v u Q I rx ry ⟨i, j, e1, e2, c, q⟩
  · exact op_mulW pins s σ H x y v u Q I rx ry ⟨i, j, e1, e2, c, q⟩
theorem mulOk.a {i j : Int} (h : mulOk i j) : CMulA i j := by
  rcases h with ⟨h1, h2⟩ | rfl | rfl
  · exact .inr (wide_mul h1 h2 (by decide) (by decide) (by decide))
  · exact .inl (.inr ⟨by decide, by decide⟩)
  · exact .inl (.inr ⟨by decide, by decide⟩)
def rMulA (K : PySem.W.Frag) : R2 := fun x y H Q => (rI CMulA fun i j => .int (i * j)) x y H Q ∨ rRep x y H Q
theorem op_mulB : OpR X (binaryOp .Mult) (rMulA X.K) := OpR.or op_mulA op_rep
theorem od_mul {K : PySem.W.Frag} : OpD (rMulA K) mulD := fun F H x y d e Q Qv ex rx ry q k => by
  cases d with
  | int i =>
    cases e with
    | int j => exact .inl ⟨i, j, rx.int, ry.int, q.1.a, k _ _ F H q.2 .refl (.int _)⟩
    | _ => exact q.elim
  | list xs =>
    cases e with
    | int j =>
      obtain ⟨h0, h9, hl, q⟩ := (show 0 ≤ j ∧ j ≤ 1000 ∧ xs.length ≤ 1000 ∧ Q (.list (List.replicate j.toNat xs).flatten) from q)
      obtain ⟨a, vs, rfl, h1, h2⟩ := rx.list ex
      refine .inr (⟨a, j, vs, rfl, ry.int, h1, by omega, by omega, ?_, fun p hp => ?_⟩)
      · rw [h2.len]
        refine Nat.le_trans (Nat.mul_le_mul hl (show j.toNat ≤ 1000 by omega)) (by decide)
      · have g : Gro F H (upd F p (.lst (List.replicate j.toNat vs).flatten)) (upd H p (.lst (List.replicate j.toNat vs).flatten)) := .new hp
        exact k _ _ _ _ q g (.lst upd_same ((rep_dta h2 _).up (g.ex ex)))
    | _ => exact q.elim
  | _ => exact q.elim

/-! ### ==, !=, is None, in -/
def eqD (d e : PyData) (Q : PyData → Prop) : Prop := SeqAt.shaped d = true ∧ SeqAt.shaped e = true ∧ Q (.bool (PyData.eqv d e))
def neD (d e : PyData) (Q : PyData → Prop) : Prop := SeqAt.shaped d = true ∧ SeqAt.shaped e = true ∧ Q (.bool (!PyData.eqv d e))
theorem od_eq {K : PySem.W.Frag} : OpD (rEqD K) eqD := fun F H x y d e Q Qv ex rx ry q k => ⟨d, e, (rx.dt ex).dp, (ry.dt ex).dp, q.1, q.2.1, k _ _ F H q.2.2 .refl (.bl _)⟩
theorem od_ne {K : PySem.W.Frag} : OpD (rNeD K) neD := fun F H x y d e Q Qv ex rx ry q k => ⟨d, e, (rx.dt ex).dp, (ry.dt ex).dp, q.1, q.2.1, k _ _ F H q.2.2 .refl (.bl _)⟩
def isNone : PyData → Bool
  | .none => true
  | _ => false
def isD (d e : PyData) (Q : PyData → Prop) : Prop := e = .none ∧ Q (.bool (isNone d))
def isntD (d e : PyData) (Q : PyData → Prop) : Prop := e = .none ∧ Q (.bool (!isNone d))
theorem isNone_v {F : Hp} {H : Hp} {v : V} {d : PyData} (h : Rb F H v d) : decide (v = .non) = isNone d := by
  rcases h with h | ⟨l, vs, ds, rfl, rfl, _⟩
  · cases h <;> rfl
  · rfl
theorem od_is : OpD (fun x y H Q => y = .non ∧ Q (.bl (decide (x = .non))) H) isD := fun F H x y d e Q Qv ex rx ry q k => by
  obtain ⟨rfl, q⟩ := q
  refine ⟨ry.none, ?_⟩
  rw [isNone_v rx]
  exact k _ _ F H q .refl (.bl _)
theorem od_isnt : OpD (fun x y H Q => y = .non ∧ Q (.bl (!decide (x = .non))) H) isntD := fun F H x y d e Q Qv ex rx ry q k => by
  obtain ⟨rfl, q⟩ := q
  refine ⟨ry.none, ?_⟩
  rw [isNone_v rx]
  exact k _ _ F H q .refl (.bl _)
/-- an int in a tuple of ints; data in a list of data -/
def inD (neg : Bool) : PyData → PyData → (PyData → Prop) → Prop
  | .int i, .tuple ds, Q => ∃ ns : List Int, ds = ns.map .int ∧ Q (.bool (if neg = true then !decide (i ∈ ns) else decide (i ∈ ns)))
  | d, .list ds, Q => SeqAt.shaped d = true ∧ SeqAt.shaped (.list ds) = true ∧ Q (.bool (if neg = true then !(ds.any fun z => PyData.eqv z d) else ds.any fun z => PyData.eqv z d))
  | _, _, _ => False
theorem inV_ints (i : Int) : ∀ ns : List Int, inV (.int i) (ns.map V.int) = decide (i ∈ ns)
  | [] => by rfl
  | n :: ns => by
    show ((eqV (.int n) (.int i)) || inV (.int i) (ns.map V.int)) = _
    rw [inV_ints i ns]
    have : eqV (.int n) (.int i) = decide (n = i) := by
      rw [show eqV (.int n) (.int i) = (n == i) from rfl]
      rw [Bool.eq_iff_iff]
      simp
    rw [this, Bool.eq_iff_iff]
    simp
    constructor
    · rintro (h | h)
      · exact .inl h.symm
      · exact .inr h
    · rintro (h | h)
      · exact .inl h.symm
      · exact .inr h
theorem flat_ints : ∀ ns : List Int, (ns.map V.int).all flatV = true
  | [] => rfl
  | n :: ns => by
    show (flatV (.int n) && (ns.map V.int).all flatV) = true
    rw [flat_ints ns]
    rfl
def rInA (K : PySem.W.Frag) : R2 := fun x y H Q => rIn K false x y H Q ∨ rInD K x y H Q
def rNiA (K : PySem.W.Frag) : R2 := fun x y H Q => rIn K true x y H Q ∨ rNotInD K x y H Q
theorem op_inA (hu : X.A.units + 65 < cLine) : OpR X (compareOp .In) (rInA X.K) := OpR.or op_in_seq (op_inD hu)
theorem op_niA (hu : X.A.units + 65 < cLine) : OpR X (compareOp .NotIn) (rNiA X.K) := OpR.or op_notIn_seq (op_notInD hu)
theorem od_in {K : PySem.W.Frag} : OpD (rInA K) (inD false) := fun F H x y d e Q Qv ex rx ry q k => by
  cases e with
  | list ds =>
    have q' : SeqAt.shaped d = true ∧ SeqAt.shaped (.list ds) = true ∧ Q (.bool (ds.any fun z => PyData.eqv z d)) := by
      cases d <;> exact q
    exact .inr ⟨d, ds, (rx.dt ex).dp, (ry.dt ex).dp, q'.1, q'.2.1, k _ _ F H q'.2.2 .refl (.bl _)⟩
  | tuple ds =>
    cases d with
    | int i =>
      obtain ⟨ns, rfl, q⟩ := q
      obtain ⟨a, vs, rfl, h1, h2⟩ := ry.tuple
      have := h2.ints
      subst this
      refine .inl ⟨a, _, rfl, .inr (h1.sq ex), by rw [rx.int]; rfl, flat_ints ns, ?_⟩
      rw [rx.int, if_neg Bool.false_ne_true, inV_ints]
      exact k _ _ F H q .refl (.bl _)
    | _ => exact q.elim
  | _ => cases d <;> exact q.elim
theorem od_ni {K : PySem.W.Frag} : OpD (rNiA K) (inD true) := fun F H x y d e Q Qv ex rx ry q k => by
  cases e with
  | list ds =>
    have q' : SeqAt.shaped d = true ∧ SeqAt.shaped (.list ds) = true ∧ Q (.bool (!(ds.any fun z => PyData.eqv z d))) := by
      cases d <;> exact q
    exact .inr ⟨d, ds, (rx.dt ex).dp, (ry.dt ex).dp, q'.1, q'.2.1, k _ _ F H q'.2.2 .refl (.bl _)⟩
  | tuple ds =>
    cases d with
    | int i =>
      obtain ⟨ns, rfl, q⟩ := q
      obtain ⟨a, vs, rfl, h1, h2⟩ := ry.tuple
      have := h2.ints
      subst this
      refine .inl ⟨a, _, rfl, .inr (h1.sq ex), by rw [rx.int]; rfl, flat_ints ns, ?_⟩
      rw [rx.int, if_pos rfl, inV_ints]
      exact k _ _ F H q .refl (.bl _)
    | _ => exact q.elim
  | _ => cases d <;> exact q.elim

/-! ### subscripts -/
def ixD : PyData → PyData → (PyData → Prop) → Prop
  | .list ds, .int i, Q => ∃ z, atI ds i = some z ∧ Q z
  | .tuple ds, .int i, Q => ∃ z, atI ds i = some z ∧ Q z
  | _, _, _ => False
theorem atI_dta {F : Hp} {vs : List V} {ds : List PyData} {i : Int} {z : PyData} (h : DtA F vs ds) (e : atI ds i = some z) : ∃ v, atI vs i = some v ∧ Dt F v z := by
  unfold atI at e ⊢
  rw [h.len]
  cases q : ixN ds.length i with
  | none =>
    rw [q] at e
    cases e
  | some j =>
    rw [q] at e
    exact h.get e
theorem od_ix {K : PySem.W.Frag} : OpD (rIx K) ixD := fun F H x y d e Q Qv ex rx ry q k => by
  cases d with
  | list ds =>
    cases e with
    | int i =>
      obtain ⟨z, hz, q⟩ := q
      obtain ⟨a, vs, rfl, h1, h2⟩ := rx.list ex
      obtain ⟨v, h3, h4⟩ := atI_dta h2 hz
      exact .inl ⟨a, vs, i, v, rfl, ry.int, SqL.of h1, h3, k _ _ F H q .refl h4⟩
    | _ => exact q.elim
  | tuple ds =>
    cases e with
    | int i =>
      obtain ⟨z, hz, q⟩ := q
      obtain ⟨a, vs, rfl, h1, h2⟩ := rx.tuple
      obtain ⟨v, h3, h4⟩ := atI_dta h2 hz
      exact .inr (.inl ⟨a, vs, i, v, rfl, ry.int, h1.sq ex, h3, k _ _ F H q .refl h4⟩)
    | _ => exact q.elim
  | _ => exact q.elim

/-! ### built-ins over data -/
theorem paired1 {α β : Type} {R : α → β → Prop} {xs : List α} {y : β} (h : Paired R xs [y]) : ∃ x, xs = [x] ∧ R x y := by
  cases h with
  | cons r t =>
    cases t
    exact ⟨_, rfl, r⟩
theorem paired2 {α β : Type} {R : α → β → Prop} {xs : List α} {y z : β} (h : Paired R xs [y, z]) : ∃ x w, xs = [x, w] ∧ R x y ∧ R w z := by
  cases h with
  | cons r t =>
    obtain ⟨w, rfl, r2⟩ := paired1 t
    exact ⟨_, w, rfl, r, r2⟩
def lenD : List PyData → (PyData → Prop) → Prop
  | [.list ds], Q => Q (.int ds.length)
  | [.tuple ds], Q => Q (.int ds.length)
  | _, _ => False
theorem cd_len : CallD (fun xs H Q => ∃ p ys, xs = [.ref p] ∧ (SqL X.K H p ys ∨ SqT X.K H p ys) ∧ Q (.int ys.length) H) lenD := fun F H xs ds Q Qv ex r q k => by
  unfold lenD at q
  split at q
  · obtain ⟨x, rfl, r1⟩ := paired1 r
    obtain ⟨a, vs, rfl, h1, h2⟩ := r1.list ex
    exact ⟨a, vs, rfl, .inl (SqL.of h1), by rw [h2.len]; exact k _ _ F H q .refl (.int _)⟩
  · obtain ⟨x, rfl, r1⟩ := paired1 r
    obtain ⟨a, vs, rfl, h1, h2⟩ := r1.tuple
    exact ⟨a, vs, rfl, .inr (h1.sq ex), by rw [h2.len]; exact k _ _ F H q .refl (.int _)⟩
  · exact q.elim
def intD : List PyData → (PyData → Prop) → Prop
  | [.int i], Q => Q (.int i)
  | [.bool b], Q => Q (.int (if b = true then 1 else 0))
  | _, _ => False
theorem cd_int : CallD (fun xs H Q => (∃ i, xs = [.int i] ∧ Q (.int i) H) ∨ ∃ k, xs = [.bl k] ∧ Q (.int (if k then 1 else 0)) H) intD := fun F H xs ds Q Qv ex r q k => by
  unfold intD at q
  split at q
  · obtain ⟨x, rfl, r1⟩ := paired1 r
    rw [r1.int]
    exact .inl ⟨_, rfl, k _ _ F H q .refl (.int _)⟩
  · obtain ⟨x, rfl, r1⟩ := paired1 r
    rw [r1.bool]
    exact .inr ⟨_, rfl, k _ _ F H q .refl (.int _)⟩
  · exact q.elim
def max2D : List PyData → (PyData → Prop) → Prop
  | [.int i, .int j], Q => Q (.int (max i j))
  | _, _ => False
def min2D : List PyData → (PyData → Prop) → Prop
  | [.int i, .int j], Q => Q (.int (min i j))
  | _, _ => False
theorem cd_max2 : CallD (fun xs H Q => ∃ i j, xs = [.int i, .int j] ∧ Q (.int (if j > i then j else i)) H) max2D := fun F H xs ds Q Qv ex r q k => by
  unfold max2D at q
  split at q
  · obtain ⟨x, y, rfl, r1, r2⟩ := paired2 r
    rw [r1.int, r2.int]
    refine ⟨_, _, rfl, ?_⟩
    rename_i i j
    have e : (if j > i then j else i) = max i j := by
      split <;> omega
    rw [e]
    exact k _ _ F H q .refl (.int _)
  · exact q.elim
theorem cd_min2 : CallD (fun xs H Q => ∃ i j, xs = [.int i, .int j] ∧ Q (.int (if j < i then j else i)) H) min2D := fun F H xs ds Q Qv ex r q k => by
  unfold min2D at q
  split at q
  · obtain ⟨x, y, rfl, r1, r2⟩ := paired2 r
    rw [r1.int, r2.int]
    refine ⟨_, _, rfl, ?_⟩
    rename_i i j
    have e : (if j < i then j else i) = min i j := by
      split <;> omega
    rw [e]
    exact k _ _ F H q .refl (.int _)
  · exact q.elim
/-- of one list of ints -/
def sumD (ds : List PyData) (Q : PyData → Prop) : Prop := ∃ ns : List Int, ds = [.list (ns.map .int)] ∧ Q (.int ns.sum)
def maxD (ds : List PyData) (Q : PyData → Prop) : Prop := ∃ ns : List Int, ds = [.list (ns.map .int)] ∧ ns ≠ [] ∧ ∀ m, m ∈ ns → (∀ y ∈ ns, y ≤ m) → Q (.int m)
def minD (ds : List PyData) (Q : PyData → Prop) : Prop := ∃ ns : List Int, ds = [.list (ns.map .int)] ∧ ns ≠ [] ∧ ∀ m, m ∈ ns → (∀ y ∈ ns, m ≤ y) → Q (.int m)
def allD (ds : List PyData) (Q : PyData → Prop) : Prop := ∃ bs : List Bool, ds = [.list (bs.map .bool)] ∧ Q (.bool (bs.all id))
theorem cd_sum {K : PySem.W.Frag} : CallD (rSum K) sumD := fun F H xs ds Q Qv ex r q k => by
  obtain ⟨ns, rfl, q⟩ := q
  obtain ⟨x, rfl, r1⟩ := paired1 r
  obtain ⟨a, vs, rfl, h1, h2⟩ := r1.list ex
  rw [h2.ints] at h1
  exact ⟨a, ns, rfl, SqL.of h1, k _ _ F H q .refl (.int _)⟩
theorem cd_max {K : PySem.W.Frag} : CallD (rMax K) maxD := fun F H xs ds Q Qv ex r q k => by
  obtain ⟨ns, rfl, hn, q⟩ := q
  obtain ⟨x, rfl, r1⟩ := paired1 r
  obtain ⟨a, vs, rfl, h1, h2⟩ := r1.list ex
  rw [h2.ints] at h1
  exact ⟨a, ns, rfl, SqL.of h1, List.length_pos_iff.mpr hn, fun m hm hy => k _ _ F H (q m hm hy) .refl (.int _)⟩
theorem cd_min {K : PySem.W.Frag} : CallD (rMin K) minD := fun F H xs ds Q Qv ex r q k => by
  obtain ⟨ns, rfl, hn, q⟩ := q
  obtain ⟨x, rfl, r1⟩ := paired1 r
  obtain ⟨a, vs, rfl, h1, h2⟩ := r1.list ex
  rw [h2.ints] at h1
  exact ⟨a, ns, rfl, SqL.of h1, List.length_pos_iff.mpr hn, fun m hm hy => k _ _ F H (q m hm hy) .refl (.int _)⟩
theorem cd_all {K : PySem.W.Frag} : CallD (rAll K) allD := fun F H xs ds Q Qv ex r q k => by
  obtain ⟨ns, rfl, q⟩ := q
  obtain ⟨x, rfl, r1⟩ := paired1 r
  obtain ⟨a, vs, rfl, h1, h2⟩ := r1.list ex
  rw [h2.bools] at h1
  exact ⟨a, ns, rfl, SqL.of h1, k _ _ F H q .refl (.bl _)⟩
/-- list(xs), tuple(xs) -/
def listN : List PyData → (List PyData → Prop) → Prop
  | [.list ds], Q => Q ds
  | [.tuple ds], Q => Q ds
  | _, _ => False
theorem cn_list : CallN (fun xs H Q => ∃ p ys, xs = [.ref p] ∧ (SqL X.K H p ys ∨ SqT X.K H p ys) ∧ ∀ l, H l = none → Q (.ref l) (upd H l (.lst ys))) listN := fun F H xs ds Q Qv ex r q k => by
  unfold listN at q
  split at q
  · obtain ⟨x, rfl, r1⟩ := paired1 r
    obtain ⟨a, vs, rfl, h1, h2⟩ := r1.list ex
    exact ⟨a, vs, rfl, .inl (SqL.of h1), fun p hp => k p vs _ q hp h2⟩
  · obtain ⟨x, rfl, r1⟩ := paired1 r
    obtain ⟨a, vs, rfl, h1, h2⟩ := r1.tuple
    exact ⟨a, vs, rfl, .inr (h1.sq ex), fun p hp => k p vs _ q hp h2⟩
  · exact q.elim
def tupleD : List PyData → (PyData → Prop) → Prop
  | [.list ds], Q => Q (.tuple ds)
  | [.tuple ds], Q => Q (.tuple ds)
  | _, _ => False
theorem cd_tuple : CallD (fun xs H Q => ∃ p ys, xs = [.ref p] ∧ ((SqL X.K H p ys ∧ ∀ (l : Addr) (o : Obj), H l = none → o.dict = none → Q (.ref l) (upd H l (.frz o (.tup ys)))) ∨ (SqT X.K H p ys ∧ Q (.ref p) H))) tupleD := fun F H xs ds Q Qv ex r q k => by
  unfold tupleD at q
  split at q
  · obtain ⟨x, rfl, r1⟩ := paired1 r
    obtain ⟨a, vs, rfl, h1, h2⟩ := r1.list ex
    refine ⟨a, vs, rfl, .inl ⟨SqL.of h1, fun p o hp ho => ?_⟩⟩
    have g : Gro F H (upd F p (.frz o (.tup vs))) (upd H p (.frz o (.tup vs))) := .new hp
    exact k _ _ _ _ q g (.tup (.new ho) (h2.up (g.ex ex)))
  · obtain ⟨x, rfl, r1⟩ := paired1 r
    obtain ⟨a, vs, rfl, h1, h2⟩ := r1.tuple
    exact ⟨a, vs, rfl, .inr ⟨h1.sq ex, k _ _ F H q .refl (.tup h1 h2)⟩⟩
  · exact q.elim
/-! isinstance -/
def tyD : PyData → String
  | .none => "NoneType"
  | .bool _ => "bool"
  | .int _ => "int"
  | .str _ => "str"
  | .list _ => "list"
  | .tuple _ => "tuple"
  | .dict _ => "dict"
theorem ty_of {K : PySem.W.Frag} {H : Hp} {v : V} {d : PyData} (h : Dt H v d) : TyX K H v (.type (tyD d)) := by
  cases h with
  | non => exact .base .non
  | bl b => exact .base (.bl b)
  | int i => exact .base (.int i)
  | str x => exact .base (.str x)
  | lst h1 _ => exact .base (.lst h1)
  | tup h1 _ =>
    obtain ⟨o, h1, _⟩ := h1
    exact .fTuple h1
def isiD (T : String) (d : PyData) (Q : PyData → Prop) : Prop := ∃ b, kitB (tyD d) T = some b ∧ Q (.bool b)
variable {a : Expr} {ta : TE} {da : DE} {p p2 pos : Pos} {x : Str}
theorem ped_isi {T : String} (hg : Gl X "isinstance") (hm : X.mg "isinstance" = none) (hgT : Gl X x) (hmT : X.mg x = none) (hv : bootBuiltins x = some (.type T)) (ha : PEr X a ta da) (hdb : (x == ("__debug__" : Str)) = false := by decide) (hnm : x ≠ "__name__" := by decide)
    (he : starEach [a, .Name x p2] X.env = (false, eval a X.env) :: starEach [.Name x p2] X.env := by rfl) (he2 : starEach [.Name x p2] X.env = (false, eval (.Name x p2) X.env) :: starEach [] X.env := by rfl) (hpl : (backTo pos (starEach [.Name x p2] X.env)).any (·.1) = false := by rfl) :
    PEd X (.Call (.Name "isinstance" p) [a, .Name x p2] [] pos) (tCB (rIsi X.K) (tCons ta (tCons (tC (.ty T)) tNil))) (d1 (isiD T) da) :=
  ⟨pe_callB call_isi hg hm (by decide +kernel) (pa_cons ha.pe (pa_cons (pe_bltn (v := .ty T) hgT hmT hv rfl hnm hdb) pa_nil he2) he) (by decide) (by decide) he hpl, fun B F H σ env Q Qv n q k =>
    ha.s B F H σ env _ _ n q fun v d F1 H1 ⟨b, eb, q1⟩ e1 n1 r1 => ⟨v, .ty T, .type (tyD d), .type T, b, rfl, .ty T, ty_of ((r1.rb n1).dt n1.g.fh), kit_ty eb, k _ _ _ _ q1 e1 n1 (.bl b)⟩⟩
end
end Pd

set_option maxRecDepth 100000
set_option maxHeartbeats 4000000
namespace Pd
open PySem L2
open Evl (Ex)

/-! ### statements -/
inductive RVd where
  | dat (d : PyData) | new (ds : List PyData)
def RVd.d : RVd → PyData
  | .dat d => d
  | .new ds => .list ds
structure DEnds where
  nx : Denv → Prop
  rt : RVd → Prop
  bk : Denv → Prop := fun _ => False
  ct : Denv → Prop := fun _ => False
abbrev DS := DEnds → Denv → Prop
def ROk (B : Bs) (F H : Hp) (v : V) : RVd → Prop
  | .dat d => Dt F v d
  | .new ds => ∃ l vs, v = .ref l ∧ B.H l = none ∧ F l = none ∧ H l = some (.lst vs) ∧ DtA F vs ds
structure EOk (B : Bs) (F : Hp) (Dd : DEnds) (D : Ends) : Prop where
  nx : ∀ F' H' σ' env', Ex F F' → Den B F' H' σ' env' → Dd.nx env' → D.nx σ' H'
  rt : ∀ F' H' v r, Ex F F' → Grow B F' H' → ROk B F' H' v r → Dd.rt r → D.rt v H'
  bk : ∀ F' H' σ' env', Ex F F' → Den B F' H' σ' env' → Dd.bk env' → D.bk σ' H'
  ct : ∀ F' H' σ' env', Ex F F' → Den B F' H' σ' env' → Dd.ct env' → D.ct σ' H'
theorem EOk.up {B : Bs} {F F' : Hp} {Dd : DEnds} {D : Ends} (h : EOk B F Dd D) (e : Ex F F') : EOk B F' Dd D :=
  ⟨fun F2 H2 σ2 env2 e2 => h.nx F2 H2 σ2 env2 (e.trans e2), fun F2 H2 v r e2 => h.rt F2 H2 v r (e.trans e2), fun F2 H2 σ2 env2 e2 => h.bk F2 H2 σ2 env2 (e.trans e2), fun F2 H2 σ2 env2 e2 => h.ct F2 H2 σ2 env2 (e.trans e2)⟩
def Ss (ts : TS) (t : DS) : Prop := ∀ B F H σ env D Dd, Den B F H σ env → EOk B F Dd D → t Dd env → ts D σ H
structure PSd (X : Cx) (st : Stmt) (ts : TS) (t : DS) : Prop where
  ps : PS X st ts
  s : Ss ts t
structure PSsd (X : Cx) (st : List Stmt) (ts : TS) (t : DS) : Prop where
  ps : PSs X st ts
  s : Ss ts t

section
variable {X : Cx} {e a b : Expr} {te ta tb : TE} {dd da db : DE} {dn dm : DN} {dt : DT} {tt : TT} {st : Stmt} {sts sts2 : List Stmt} {ts us : TS} {d u : DS} {pos : Pos}
def dNext : DS := fun D env => D.nx env
def dSeq (t u : DS) : DS := fun D env => t { D with nx := u D } env
theorem pssd_nil : PSsd X [] tNext dNext := ⟨pss_nil, fun B F H σ env D Dd n k q => k.nx F H σ env (Ex.refl F) n q⟩
theorem ss_seq (h1 : Ss ts d) (h2 : Ss us u) : Ss (tSeq ts us) (dSeq d u) := fun B F H σ env D Dd n k q =>
  h1 B F H σ env { D with nx := us D } { Dd with nx := u Dd } n ⟨fun F' H' σ' env' e' n' q' => h2 B F' H' σ' env' D Dd n' (k.up e') q', k.rt, k.bk, k.ct⟩ q
theorem pssd_cons (h1 : PSd X st ts d) (h2 : PSsd X sts us u) : PSsd X (st :: sts) (tSeq ts us) (dSeq d u) := ⟨pss_cons h1.ps h2.ps, ss_seq h1.s h2.s⟩
theorem pssd_one (h1 : PSd X st ts d) : PSsd X [st] ts d := ⟨pss_one h1.ps, h1.s⟩
/-- an own list is frozen ahead of a block -/
def dFreeze (i : Nat) (t : DS) : DS := fun D env => ∃ ds, env[i]? = some (some (.own ds)) ∧ t D (env.set i (some (.dat (.list ds))))
theorem pssd_freeze (i : Nat) (h : PSsd X sts ts d) : PSsd X sts ts (dFreeze i d) := ⟨h.ps, fun B F H σ env D Dd n k q => by
  obtain ⟨ds, h1, q⟩ := q
  obtain ⟨F', e', n'⟩ := n.freeze h1
  exact h.s B F' H σ _ D Dd n' (k.up e') q⟩
def dPass : DS := fun D env => D.nx env
def dNever : DS := fun _ _ => False
theorem psd_never : PSd X st tNever dNever := ⟨ps_never, fun _ _ _ _ _ _ _ _ _ q => q.elim⟩
theorem pssd_never : PSsd X sts tNever dNever := ⟨pss_never, fun _ _ _ _ _ _ _ _ _ q => q.elim⟩
def dDrop (t : DE) : DS := fun D env => t env fun _ => D.nx env
theorem psd_expr (h : PEd X e te dd) (hp : PS X (.Expr e pos) (tDrop te)) : PSd X (.Expr e pos) (tDrop te) (dDrop dd) := ⟨hp, fun B F H σ env D Dd n k q =>
  h.s B F H σ env _ _ n q fun v d F' H' q' e' n' _ => k.nx F' H' σ env e' n' q'⟩
def dRet (t : DE) : DS := fun D env => t env fun d => D.rt (.dat d)
def dRetN (t : DN) : DS := fun D env => t env fun ds => D.rt (.new ds)
def dRetO (i : Nat) : DS := fun D env => ∃ ds, env[i]? = some (some (.own ds)) ∧ D.rt (.new ds)
theorem psd_ret (h : PEd X e te dd) (hp : PS X (.Return (some e) pos) (tRet te)) : PSd X (.Return (some e) pos) (tRet te) (dRet dd) := ⟨hp, fun B F H σ env D Dd n k q =>
  h.s B F H σ env _ _ n q fun v d F' H' q' e' n' t' => k.rt F' H' v (.dat d) e' n'.g t' q'⟩
theorem psd_retN (h : PEn X e te dn) (hp : PS X (.Return (some e) pos) (tRet te)) : PSd X (.Return (some e) pos) (tRet te) (dRetN dn) := ⟨hp, fun B F H σ env D Dd n k q =>
  h.s B F H σ env _ _ n q fun l vs ds F' H' q' e' n' f => k.rt F' H' _ (.new ds) e' n'.g ⟨l, vs, rfl, f.b, f.f, f.h, f.d⟩ q'⟩
theorem psd_retO (i : Nat) (hp : PS X (.Return (some e) pos) (tRet (tVar i))) : PSd X (.Return (some e) pos) (tRet (tVar i)) (dRetO i) := ⟨hp, fun B F H σ env D Dd n k q => by
  obtain ⟨ds, h1, q⟩ := q
  obtain ⟨l, vs, h2, h3⟩ := n.own h1
  exact ⟨_, h2, k.rt F H _ (.new ds) (Ex.refl F) n.g ⟨l, vs, rfl, h3⟩ q⟩⟩
def dRet0 : DS := fun D _ => D.rt (.dat .none)
theorem psd_ret0 (hp : PS X (.Return none pos) tRetN) : PSd X (.Return none pos) tRetN dRet0 := ⟨hp, fun B F H σ env D Dd n k q => k.rt F H _ (.dat .none) (Ex.refl F) n.g .non q⟩
def dIfS (c : DT) (t u : DS) : DS := fun D env => c env fun b => if b = true then t D env else u D env
theorem psd_if {c : Expr} (hc : PTd X c tt dt) (h1 : PSsd X sts ts d) (h2 : PSsd X sts2 us u) (hp : PS X (.If c sts sts2 pos) (tIfS tt ts us)) : PSd X (.If c sts sts2 pos) (tIfS tt ts us) (dIfS dt d u) := ⟨hp, fun B F H σ env D Dd n k q =>
  hc.s B F H σ env _ _ n q fun b F' H' q' e' n' => by
    cases b with
    | true => exact h1.s B F' H' σ env D Dd n' (k.up e') q'
    | false => exact h2.s B F' H' σ env D Dd n' (k.up e') q'⟩

/-! ### targets -/
abbrev DG := PyData → Denv → (Denv → Prop) → Prop
abbrev DGs := List PyData → Denv → (Denv → Prop) → Prop
def Sg (g : TG) (dg : DG) (vs : List Nat) : Prop := ∀ B F H σ env v d Q Qg, Den B F H σ env → Dt F v d → dg d env Q → (∀ σ' env', Q env' → Den B F H σ' env' → σ'.length = σ.length → (∀ i, i ∉ vs → σ'[i]? = σ[i]?) → Qg σ' H) → g v σ H Qg
def Sgs (g : TGs) (dg : DGs) (vs : List Nat) : Prop := ∀ B F H σ env ws ds Q Qg, Den B F H σ env → DtA F ws ds → dg ds env Q → (∀ σ' env', Q env' → Den B F H σ' env' → σ'.length = σ.length → (∀ i, i ∉ vs → σ'[i]? = σ[i]?) → Qg σ' H) → g ws σ H Qg
structure PGd (X : Cx) (tg : Expr) (g : TG) (dg : DG) (vs : List Nat) : Prop where
  pg : PG X tg g
  s : Sg g dg vs
structure PGsd (X : Cx) (tgs : List Expr) (g : TGs) (dg : DGs) (vs : List Nat) : Prop where
  pg : PGs X tgs g
  s : Sgs g dg vs
def gdName (i : Nat) : DG := fun d env Q => Q (env.set i (some (.dat d)))
def gdNil : DGs := fun ds env Q => ds = [] ∧ Q env
def gdCons (g : DG) (gs : DGs) : DGs := fun ds env Q => ∃ d r, ds = d :: r ∧ g d env fun env' => gs r env' Q
def gdTup (n : Nat) (gs : DGs) : DG := fun d env Q => ∃ ds, d = .tuple ds ∧ ds.length = n ∧ gs ds env Q
theorem sg_name (i : Nat) : Sg (gName i) (gdName i) [i] := fun B F H σ env v d Q Qg n t q k => k _ _ q (n.setD t) (by rw [List.length_set]) fun j hj => by
  rw [List.getElem?_set_ne]
  intro z
  subst z
  exact hj List.mem_cons_self
theorem pgd_name (i : Nat) (h : PG X e (gName i)) : PGd X e (gName i) (gdName i) [i] := ⟨h, sg_name i⟩
theorem pgsd_nil : PGsd X [] gNil gdNil [] := ⟨pgs_nil, fun B F H σ env ws ds Q Qg n t q k => by
  obtain ⟨rfl, q⟩ := q
  cases t
  exact ⟨rfl, k _ _ q n rfl fun _ _ => rfl⟩⟩
variable {g : TG} {gs : TGs} {dg : DG} {dgs : DGs} {vs vs1 vs2 : List Nat} {es : List Expr}
theorem sgs_cons (h1 : Sg g dg vs1) (h2 : Sgs gs dgs vs2) : Sgs (gCons g gs) (gdCons dg dgs) (vs1 ++ vs2) := fun B F H σ env ws ds Q Qg n t q k => by
  obtain ⟨d, r, rfl, q⟩ := q
  cases t with
  | cons t1 t2 =>
    refine ⟨_, _, rfl, h1 B F H σ env _ d _ _ n t1 q fun σ1 env1 q1 n1 l1 s1 => h2 B F H σ1 env1 _ r Q _ n1 t2 q1 fun σ2 env2 q2 n2 l2 s2 => k σ2 env2 q2 n2 (l2.trans l1) fun i hi => ?_⟩
    rw [List.mem_append, not_or] at hi
    exact (s2 i hi.2).trans (s1 i hi.1)
theorem sg_tup {K : PySem.W.Frag} {m : Nat} (h : Sgs gs dgs vs) : Sg (gTup K m gs) (gdTup m dgs) vs := fun B F H σ env v d Q Qg n t q k => by
  obtain ⟨ds, rfl, hl, q⟩ := q
  cases t with
  | tup h1 h2 => exact ⟨_, _, rfl, h1.sq n.g.fh, h2.len.trans hl, h B F H σ env _ ds Q Qg n h2 q k⟩
def dAsgG (t : DE) (g : DG) : DS := fun D env => t env fun d => g d env D.nx
theorem psd_asg {tg : Expr} (h : PEd X e te dd) (hg : Sg g dg vs) (hp : PS X (.Assign [tg] e pos) (tAsg te g)) : PSd X (.Assign [tg] e pos) (tAsg te g) (dAsgG dd dg) := ⟨hp, fun B F H σ env D Dd n k q =>
  h.s B F H σ env _ _ n q fun v d F' H' q' e' n' t' => hg B F' H' σ env v d _ _ n' t' q' fun σ' env' q2 n2 _ _ => k.nx F' H' σ' env' e' n2 q2⟩
/-- a new list for a name -/
def dAsgN (t : DN) (i : Nat) : DS := fun D env => t env fun ds => D.nx (env.set i (some (.own ds)))
theorem ss_asgN {i : Nat} (h : Sn te dn) : Ss (tAsg te (gName i)) (dAsgN dn i) := fun B F H σ env D Dd n k q =>
  h B F H σ env _ _ n q fun l vs ds F' H' q' e' n' f => k.nx F' H' _ _ e' (n'.setN f) q'
theorem ss_asgF {i : Nat} (h : Sn te dn) : Ss (tAsg te (gName i)) (dAsgG (dFr dn) (gdName i)) := fun B F H σ env D Dd n k q =>
  h B F H σ env _ _ n q fun l vs ds F' H' q' e' n' f => by
    obtain ⟨n2, e2, d2⟩ := f.freeze n'
    exact k.nx _ _ _ _ (e'.trans e2) (n2.setD d2) q'
theorem psd_asgN {i : Nat} {tg : Expr} (h : PEn X e te dn) (hp : PS X (.Assign [tg] e pos) (tAsg te (gName i))) : PSd X (.Assign [tg] e pos) (tAsg te (gName i)) (dAsgN dn i) := ⟨hp, ss_asgN h.s⟩
/-- a, b = x, y -/
def dPar (i j : Nat) (dn : DN) : DS := fun D env => dn env fun ds => ∃ x y, ds = [x, y] ∧ D.nx ((env.set i (some (.dat x))).set j (some (.dat y)))
theorem psd_par {i j : Nat} {tA : TA} (h : PAf X es tA dn) (hp : PS X st (tPar i j tA)) : PSd X st (tPar i j tA) (dPar i j dn) := ⟨hp, fun B F H σ env D Dd n k q =>
  h.s B F H σ env _ _ n q fun vs ds F' H' ⟨x, y, ed, q'⟩ e' n' t' => by
    subst ed
    cases t' with
    | cons t1 t2 =>
      cases t2 with
      | cons t2 t3 =>
        cases t3
        exact ⟨_, _, rfl, k.nx F' H' _ _ e' ((n'.setD t1).setD t2) q'⟩⟩
def dPar3 (i j l : Nat) (dn : DN) : DS := fun D env => dn env fun ds => ∃ x y z, ds = [x, y, z] ∧ D.nx (((env.set i (some (.dat x))).set j (some (.dat y))).set l (some (.dat z)))
theorem psd_par3 {i j l : Nat} {tA : TA} (h : PAf X es tA dn) (hp : PS X st (tPar3 i j l tA)) : PSd X st (tPar3 i j l tA) (dPar3 i j l dn) := ⟨hp, fun B F H σ env D Dd n k q =>
  h.s B F H σ env _ _ n q fun vs ds F' H' ⟨x, y, z, ed, q'⟩ e' n' t' => by
    subst ed
    cases t' with
    | cons t1 t2 =>
      cases t2 with
      | cons t2 t3 =>
        cases t3 with
        | cons t3 t4 =>
          cases t4
          exact ⟨_, _, _, rfl, k.nx F' H' _ _ e' (((n'.setD t1).setD t2).setD t3) q'⟩⟩

/-! ### an own list changed -/
def dApp (i : Nat) (t : DE) : DS := fun D env => ∃ ds, env[i]? = some (some (.own ds)) ∧ t env fun d => ds.length < 1000000 ∧ D.nx (env.set i (some (.own (ds ++ [d]))))
theorem psd_app {i : Nat} {c : Expr} (h : PEd X e te dd) (hp : PS X (.Expr c pos) (tDrop (tBM X.K "list" rAppend (tVar i) (tCons te tNil)))) : PSd X (.Expr c pos) (tDrop (tBM X.K "list" rAppend (tVar i) (tCons te tNil))) (dApp i dd) := ⟨hp, fun B F H σ env D Dd n k q => by
  obtain ⟨ds, h1, q⟩ := q
  obtain ⟨l, vs, h2, h3, h4, h5, h6⟩ := n.own h1
  refine ⟨_, h2, .inl ⟨rfl, vs, SqL.of h5⟩, h.s B F H σ env _ _ n q fun v d F' H' ⟨hl, q'⟩ e' n' t' => ?_⟩
  obtain ⟨l', ws, p2, p3, p4, p5, p6⟩ := n'.own h1
  rw [h2] at p2
  cases p2
  refine ⟨l, ws, v, rfl, rfl, p5, ?_, k.nx F' _ σ _ e' (n'.mut h1 h2 (p6.app (.cons t' .nil))) q'⟩
  rw [p6.len]
  exact Nat.lt_of_lt_of_le hl (by decide)⟩
def dSetI (i : Nat) (ti te : DE) : DS := fun D env => te env fun d => ∃ ds, env[i]? = some (some (.own ds)) ∧ ti env fun x => ∃ k j, x = .int k ∧ ixN ds.length k = some j ∧ D.nx (env.set i (some (.own (ds.set j d))))
theorem psd_setI {i : Nat} {o x : Expr} {ti : TE} {di : DE} {p : Pos} (h : PEd X e te dd) (hi : PEd X x ti di) (hp : PS X (.Assign [.Subscript o x p] e pos) (tAsg te (gSub (tVar i) ti rSetL))) : PSd X (.Assign [.Subscript o x p] e pos) (tAsg te (gSub (tVar i) ti rSetL)) (dSetI i di dd) := ⟨hp, fun B F H σ env D Dd n k q => by
  refine h.s B F H σ env _ _ n q fun v d F' H' ⟨ds, h1, q'⟩ e' n' t' => ?_
  obtain ⟨l, vs, h2, h3, h4, h5, h6⟩ := n'.own h1
  refine ⟨_, h2, hi.s B F' H' σ env _ _ n' q' fun w f F2 H2 ⟨kk, j, ef, hj, q2⟩ e2 n2 t2 => ?_⟩
  subst ef
  cases t2
  obtain ⟨l', ws, p2, p3, p4, p5, p6⟩ := n2.own h1
  rw [h2] at p2
  cases p2
  exact ⟨l, ws, kk, j, rfl, rfl, p5, by rw [p6.len]; exact hj, k.nx F2 _ σ _ (e'.trans e2) (n2.mut h1 h2 (DtA.set (t'.up e2) j p6)) q2⟩⟩

/-! ### what is walked -/
/-- the iterator yields these data -/
def Wk (J : It) (F : Hp) (its : List PyData) : Prop := ∀ F' H', Ex F F' → Ex F' H' → J.stop its.length H' ∧ ∀ (i : Nat) d, its[i]? = some d → J.go i H' ∧ ∀ x H'', J.yld i H' x H'' → ∃ F'', Gro F' H' F'' H'' ∧ Dt F'' x d
def Si (wi : TI) (it : DN) : Prop := ∀ B F H σ env Q R, Den B F H σ env → it env Q → (∀ its J F' H', Q its → Ex F F' → Den B F' H' σ env → Wk J F' its → R J H') → wi σ H R
structure PId (X : Cx) (tg iter : Expr) (wi : TI) (it : DN) : Prop where
  pi : PI X tg iter wi
  s : Si wi it
def seqD : PyData → Option (List PyData)
  | .list ds => some ds
  | .tuple ds => some ds
  | _ => none
def itSeq (t : DE) : DN := fun env Q => t env fun d => ∃ ds, seqD d = some ds ∧ Q ds
def iSeq (K : PySem.W.Frag) (tl : TE) : TI := fun σ H R => tl σ H fun x H1 => ∃ a, x = .ref a ∧ (((∃ xs, SqL K H1 a xs) ∧ R (Itl K a) H1) ∨ ((∃ xs, SqT K H1 a xs) ∧ R (Itt K a) H1))
theorem pi_seq {tg : Expr} (hl : PE X e te) : PI X tg e (iSeq X.K te) := by
  refine ⟨fun pins s σ H R I h => ?_⟩
  refine thn (hl.run pins s σ H _ I h) fun v s1 ⟨x, H1, I1, r1, q1⟩ => ?_
  obtain ⟨a, e, q1⟩ := q1
  subst e
  cases r1
  rcases q1 with ⟨⟨xs, hq⟩, q⟩ | ⟨⟨xs, hq⟩, q⟩
  · obtain ⟨its, rv, p, hz⟩ := I1.list hq
    refine wpAny_pyIter_list p.isList ?_
    refine ⟨s1.heap.objs.size, [s1.heap.objs.size], _, _, H1, rfl, I1.kept (t' := s1.toks) fun b o e => Heap.get?_push_of_some _ e, turn_list a _, ⟨_, Heap.get?_push_size _ rfl, rfl, rfl⟩, fun b hb => ?_, q⟩
    have e : b = s1.heap.objs.size := by simpa using hb
    subst e
    exact I1.fpOk (Nat.le_refl _) (I1.hok.fresh (Nat.le_refl _))
  · obtain ⟨its, rv, p, hz⟩ := I1.tuple hq
    refine wpAny_pyIter_tuple (show s1.heap.IsTuple a its.toArray from p) ?_
    refine ⟨s1.heap.objs.size, [s1.heap.objs.size], _, _, H1, rfl, I1.kept (t' := s1.toks) fun b o e => Heap.get?_push_of_some _ e, turn_tuple a _, ⟨_, Heap.get?_push_size _ rfl, rfl, rfl⟩, fun b hb => ?_, q⟩
    have e : b = s1.heap.objs.size := by simpa using hb
    subst e
    exact I1.fpOk (Nat.le_refl _) (I1.hok.fresh (Nat.le_refl _))
theorem sq_inj {K : PySem.W.Frag} {H : Hp} {a : Addr} {xs ys : List V} (h : H a = some (.lst xs)) (h2 : H a = some (.lst ys)) : xs = ys := by
  rw [h] at h2
  cases h2
  rfl
theorem si_seq {K : PySem.W.Frag} (h : Sd te dd) : Si (iSeq K te) (itSeq dd) := fun B F H σ env Q R n q k => by
  refine h B F H σ env _ _ n q fun v d F' H' ⟨ds, hd, q'⟩ e' n' t' => ?_
  cases t' with
  | @lst a xs ds' h1 h2 =>
    cases hd
    refine ⟨a, rfl, .inl ⟨⟨xs, SqL.of (n'.g.fh _ _ h1)⟩, k ds _ F' H' q' e' n' fun F2 H2 e2 eh => ⟨⟨xs, SqL.of (eh _ _ (e2 _ _ h1)), Nat.le_of_eq h2.len⟩, fun i d hi => ?_⟩⟩⟩
    obtain ⟨v, hv, tv⟩ := (h2.up e2).get hi
    exact ⟨⟨xs, v, SqL.of (eh _ _ (e2 _ _ h1)), hv⟩, fun x H'' ⟨eH, y⟩ => by
      subst eH
      have := y xs (SqL.of (eh _ _ (e2 _ _ h1)))
      rw [hv] at this
      cases this
      exact ⟨F2, .refl, tv⟩⟩
  | @tup a xs ds' h1 h2 =>
    cases hd
    refine ⟨a, rfl, .inr ⟨⟨xs, h1.sq n'.g.fh⟩, k ds _ F' H' q' e' n' fun F2 H2 e2 eh => ⟨⟨xs, (h1.up e2).sq eh, Nat.le_of_eq h2.len⟩, fun i d hi => ?_⟩⟩⟩
    obtain ⟨v, hv, tv⟩ := (h2.up e2).get hi
    exact ⟨⟨xs, v, (h1.up e2).sq eh, hv⟩, fun x H'' ⟨eH, y⟩ => by
      subst eH
      have := y xs ((h1.up e2).sq eh)
      rw [hv] at this
      cases this
      exact ⟨F2, .refl, tv⟩⟩
  | _ => cases hd
theorem pid_seq {tg : Expr} (h : PEd X e te dd) : PId X tg e (iSeq X.K te) (itSeq dd) := ⟨pi_seq h.pe, si_seq h.s⟩
def rngD (lo : Int) (n : Nat) : List PyData := (List.range n).map fun i => .int (lo + (i : Nat))
theorem rngD_len (lo : Int) (n : Nat) : (rngD lo n).length = n := by simp [rngD]
theorem wk_rng {F : Hp} {lo : Int} {n : Nat} : Wk (Itr lo n) F (rngD lo n) := fun F2 H2 e2 eh => ⟨by
    rw [rngD_len]
    exact Nat.le_refl n, fun i d hi => by
    have hl : i < n := by
      have := (List.getElem?_eq_some_iff.mp hi).1
      rw [rngD_len] at this
      exact this
    have : d = .int (lo + (i : Nat)) := by
      unfold rngD at hi
      rw [List.getElem?_map, List.getElem?_range hl] at hi
      cases hi
      rfl
    subst this
    exact ⟨hl, fun x H'' ⟨eH, ex⟩ => by
      subst eH
      subst ex
      exact ⟨F2, .refl, .int _⟩⟩⟩
def itR1 (dn : DN) : DN := fun env Q => dn env fun ds => ∃ j : Int, ds = [.int j] ∧ (-(2 ^ 62) ≤ j ∧ j < 2 ^ 62) ∧ Q (rngD 0 j.toNat)
def itR2 (dn : DN) : DN := fun env Q => dn env fun ds => ∃ i j : Int, ds = [.int i, .int j] ∧ (-(2 ^ 62) ≤ i ∧ i < 2 ^ 62 ∧ -(2 ^ 62) ≤ j ∧ j < 2 ^ 62) ∧ Q (rngD i (j - i).toNat)
variable {tA : TA}
theorem vok_int {σ : St} {env : Denv} {F : Hp} {v : V} {i : Int} (h : VOk σ env F v (.int i)) : v = .int i := by
  rcases h with h | ⟨_, _, _, _, h⟩
  · cases h
    rfl
  · cases h
theorem pid_r1 {tg : Expr} {p : Pos} (hg : Gl X "range") (hm : X.mg "range" = none) (h : PAr X [a] tA dn) (hs : starEach [a] X.env = [(false, eval a X.env)] := by rfl) : PId X tg (.Call (.Name "range" p) [a] [] pos) (iRng1 tA) (itR1 dn) := ⟨pi_range1 hg hm h.pa hs, fun B F H σ env Q R n q k =>
  h.s B F H σ env _ _ n q fun vs ds F' H' ⟨j, ed, hj, q'⟩ e' n' r' => by
    subst ed
    obtain ⟨x, rfl, r1⟩ := paired1 r'
    rw [vok_int r1]
    exact ⟨j, rfl, hj.1, hj.2, k _ _ F' H' q' e' n' wk_rng⟩⟩
theorem pid_r2 {tg : Expr} {p : Pos} (hg : Gl X "range") (hm : X.mg "range" = none) (h : PAr X [a, b] tA dn) (hs : starEach [a, b] X.env = [(false, eval a X.env), (false, eval b X.env)] := by rfl) (hs2 : starEach [b] X.env = [(false, eval b X.env)] := by rfl) : PId X tg (.Call (.Name "range" p) [a, b] [] pos) (iRng2 tA) (itR2 dn) := ⟨pi_range2 hg hm h.pa hs hs2, fun B F H σ env Q R n q k =>
  h.s B F H σ env _ _ n q fun vs ds F' H' ⟨i, j, ed, hj, q'⟩ e' n' r' => by
    subst ed
    obtain ⟨x, y, rfl, r1, r2⟩ := paired2 r'
    rw [vok_int r1, vok_int r2]
    exact ⟨i, j, rfl, hj, k _ _ F' H' q' e' n' wk_rng⟩⟩
def enumD : Nat → List PyData → List PyData
  | _, [] => []
  | n, d :: ds => .tuple [.int (n : Nat), d] :: enumD (n + 1) ds
theorem enumD_len : ∀ (n : Nat) (ds : List PyData), (enumD n ds).length = ds.length
  | _, [] => rfl
  | n, d :: ds => by
    show (enumD (n + 1) ds).length + 1 = ds.length + 1
    rw [enumD_len]
theorem enumD_get : ∀ (n : Nat) (ds : List PyData) (i : Nat), (enumD n ds)[i]? = (ds[i]?).map fun d => .tuple [.int ((n + i : Nat) : Int), d]
  | _, [], i => by simp [enumD]
  | n, d :: ds, 0 => by simp [enumD]
  | n, d :: ds, i + 1 => by
    show (enumD (n + 1) ds)[i]? = _
    rw [enumD_get (n + 1) ds i, List.getElem?_cons_succ]
    congr 1
    funext d
    rw [show n + 1 + i = n + (i + 1) by omega]
def zipD (xs ys : List PyData) : List PyData := List.zipWith (fun x y => .tuple [x, y]) xs ys
/-! ### for -/
def dForL (g : DG) (tb : DS) : List PyData → DS
  | [], D, env => D.nx env
  | d :: ds, D, env => g d env fun env' => tb { D with nx := dForL g tb ds D, ct := dForL g tb ds D, bk := D.nx } env'
def dFor (it : DN) (g : DG) (tb : DS) : DS := fun D env => it env fun its => dForL g tb its D env
variable {wi : TI} {it : DN}
theorem ss_for (hi : Si wi it) (hg : Sg g dg vs) (hb : Ss ts d) : Ss (tFor wi g ts) (dFor it dg d) := fun B F H σ env D Dd n k q => by
  refine hi B F H σ env _ _ n q fun its J F1 H1 q1 e1 n1 wk => ?_
  refine ⟨fun i m σ' H' => m = its.length - i ∧ i ≤ its.length ∧ ∃ F' env', Ex F1 F' ∧ Den B F' H' σ' env' ∧ dForL dg d (its.drop i) Dd env', ⟨its.length, rfl, Nat.zero_le _, F1, env, Ex.refl _, n1, q1⟩, ?_⟩
  rintro i m σ' H' ⟨rfl, hi', F', env', e', n', q'⟩
  obtain ⟨w1, w2⟩ := wk F' H' e' n'.g.fh
  by_cases hlt : i < its.length
  · refine .inr ⟨(w2 i its[i] (List.getElem?_eq_getElem hlt)).1, fun σ2 H2 => ∃ F2 env2, Ex F1 F2 ∧ Den B F2 H2 σ2 env2 ∧ dForL dg d (its.drop (i + 1)) Dd env2, fun σ2 H2 ⟨F2, env2, p1, p2, p3⟩ => ⟨its.length - (i + 1), by omega, rfl, hlt, F2, env2, p1, p2, p3⟩, fun x H'' hy => ?_⟩
    obtain ⟨F'', g'', t''⟩ := (w2 i its[i] (List.getElem?_eq_getElem hlt)).2 x H'' hy
    rw [List.drop_eq_getElem_cons hlt] at q'
    have n'' := n'.gro g''
    have e'' := e'.trans (g''.ex n'.g.fh)
    refine hg B F'' H'' σ' env' x _ _ _ n'' t'' q' fun σ2 env2 q2 n2 _ _ => hb B F'' H'' σ2 env2 _ { Dd with nx := dForL dg d (its.drop (i + 1)) Dd, ct := dForL dg d (its.drop (i + 1)) Dd, bk := Dd.nx } n2 ⟨fun F3 H3 σ3 env3 e3 n3 q3 => ⟨F3, env3, e''.trans e3, n3, q3⟩, fun F3 H3 v r e3 => k.rt F3 H3 v r ((e1.trans e'').trans e3), fun F3 H3 σ3 env3 e3 => k.nx F3 H3 σ3 env3 ((e1.trans e'').trans e3), fun F3 H3 σ3 env3 e3 n3 q3 => ⟨F3, env3, e''.trans e3, n3, q3⟩⟩ q2
  · have ei : i = its.length := by omega
    subst ei
    rw [List.drop_length] at q'
    exact .inl ⟨w1, k.nx F' H' σ' env' (e1.trans e') n' q'⟩
theorem psd_for {tg iter : Expr} {body : List Stmt} (hi : PId X tg iter wi it) (hg : PGd X tg g dg vs) (hb : PSsd X body ts d) (hp : PS X (.For tg iter body [] pos) (tFor wi g ts)) : PSd X (.For tg iter body [] pos) (tFor wi g ts) (dFor it dg d) := ⟨hp, ss_for hi.s hg.s hb.s⟩
/-! ### while -/
def dWhile (c : DT) (tb : DS) : DS := fun D env => ∃ W : Nat → Denv → Prop, (∃ m, W m env) ∧ ∀ m env, W m env → c env fun b => if b = true then ∃ N : Denv → Prop, (∀ env', N env' → ∃ m', m' < m ∧ W m' env') ∧ tb { D with nx := N, ct := N, bk := D.nx } env else D.nx env
theorem ss_while (hc : St' tt dt) (hb : Ss ts d) : Ss (tWhile tt ts) (dWhile dt d) := fun B F H σ env D Dd n k q => by
  obtain ⟨W, ⟨m0, w0⟩, turn⟩ := q
  refine ⟨fun m σ' H' => ∃ F' env', Ex F F' ∧ Den B F' H' σ' env' ∧ W m env', ⟨m0, F, env, Ex.refl _, n, w0⟩, fun m σ' H' ⟨F', env', e', n', w'⟩ => ?_⟩
  refine hc B F' H' σ' env' _ _ n' (turn m env' w') fun b F2 H2 q2 e2 n2 => ?_
  cases b with
  | true =>
    obtain ⟨N, hN, q2⟩ := q2
    refine ⟨fun σ3 H3 => ∃ F3 env3, Ex F F3 ∧ Den B F3 H3 σ3 env3 ∧ N env3, fun σ3 H3 ⟨F3, env3, p1, p2, p3⟩ => ?_, hb B F2 H2 σ' env' _ { Dd with nx := N, ct := N, bk := Dd.nx } n2 ⟨fun F3 H3 σ3 env3 e3 n3 q3 => ⟨F3, env3, (e'.trans e2).trans e3, n3, q3⟩, fun F3 H3 v r e3 => k.rt F3 H3 v r ((e'.trans e2).trans e3), fun F3 H3 σ3 env3 e3 => k.nx F3 H3 σ3 env3 ((e'.trans e2).trans e3), fun F3 H3 σ3 env3 e3 n3 q3 => ⟨F3, env3, (e'.trans e2).trans e3, n3, q3⟩⟩ q2⟩
    obtain ⟨m', hm, w3⟩ := hN env3 p3
    exact ⟨m', hm, F3, env3, p1, p2, w3⟩
  | false => exact k.nx F2 H2 σ' env' (e'.trans e2) n2 q2
theorem psd_while {c : Expr} {body : List Stmt} (hc : PTd X c tt dt) (hb : PSsd X body ts d) (hp : PS X (.While c body [] pos) (tWhile tt ts)) : PSd X (.While c body [] pos) (tWhile tt ts) (dWhile dt d) := ⟨hp, ss_while hc.s hb.s⟩
/-! ### comprehensions -/
def wipeD (env : Denv) : List Nat → Denv
  | [] => env
  | v :: vs => (wipeD env vs).set v none
theorem wipeD_length (env : Denv) : ∀ vs : List Nat, (wipeD env vs).length = env.length
  | [] => rfl
  | v :: vs => by unfold wipeD; rw [List.length_set, wipeD_length env vs]
theorem wipeD_some {env : Denv} {i : Nat} {x : SV} : ∀ {vs : List Nat}, (wipeD env vs)[i]? = some (some x) → env[i]? = some (some x) ∧ i ∉ vs
  | [], h => ⟨h, by simp⟩
  | v :: vs, h => by
    unfold wipeD at h
    by_cases hi : v = i
    · subst hi
      by_cases hv : v < (wipeD env vs).length
      · rw [List.getElem?_set_self hv] at h; cases h
      · rw [List.getElem?_eq_none (by simpa using hv)] at h; cases h
    · rw [List.getElem?_set_ne hi] at h
      obtain ⟨h1, h2⟩ := wipeD_some h
      exact ⟨h1, by simp only [List.mem_cons, not_or]; exact ⟨fun e => hi e.symm, h2⟩⟩
theorem wipe_get {σ : St} {i : Nat} : ∀ {vs : List Nat}, i ∉ vs → (wipe σ vs)[i]? = σ[i]?
  | [], _ => rfl
  | v :: vs, h => by
    unfold wipe
    simp only [List.mem_cons, not_or] at h
    rw [List.getElem?_set_ne (fun z => h.1 z.symm), wipe_get h.2]
theorem wipe_at {σ : St} {i : Nat} : ∀ {vs : List Nat}, i ∈ vs → i < σ.length → (wipe σ vs)[i]? = some none
  | v :: vs, h, hl => by
    unfold wipe
    by_cases hi : v = i
    · subst hi
      rw [List.getElem?_set_self (by rw [wipe_length]; exact hl)]
    · rw [List.getElem?_set_ne hi]
      rcases List.mem_cons.mp h with z | z
      · exact absurd z.symm hi
      · exact wipe_at z hl
theorem wipe_congr {σ τ : St} {vs : List Nat} (hl : σ.length = τ.length) (h : ∀ i, i ∉ vs → σ[i]? = τ[i]?) : wipe σ vs = wipe τ vs := by
  refine List.ext_getElem? fun i => ?_
  by_cases hi : i ∈ vs
  · by_cases hx : i < σ.length
    · rw [wipe_at hi hx, wipe_at hi (by omega)]
    · rw [List.getElem?_eq_none (by rw [wipe_length]; omega), List.getElem?_eq_none (by rw [wipe_length]; omega)]
  · rw [wipe_get hi, wipe_get hi, h i hi]
theorem wipe_wipe {σ : St} {vs : List Nat} : wipe (wipe σ vs) vs = wipe σ vs := wipe_congr (wipe_length σ vs) fun i hi => wipe_get hi
theorem Den.wipe {B : Bs} {F H : Hp} {σ : St} {env : Denv} (n : Den B F H σ env) (vs : List Nat) : Den B F H (wipe σ vs) (wipeD env vs) := n.forget (by rw [wipeD_length, wipe_length, n.len]) fun i sv h => by
  obtain ⟨h1, h2⟩ := wipeD_some h
  exact ⟨h1, wipe_get h2⟩
def dropO (env : Denv) : Denv := env.map fun o => match o with
  | some (.own _) => none
  | x => x
theorem dropO_some {env : Denv} {i : Nat} {x : SV} (h : (dropO env)[i]? = some (some x)) : env[i]? = some (some x) ∧ ∀ ds, x ≠ .own ds := by
  unfold dropO at h
  rw [List.getElem?_map] at h
  cases e : env[i]? with
  | none =>
    rw [e] at h
    cases h
  | some o =>
    rw [e] at h
    cases o with
    | none => cases h
    | some sv =>
      cases sv with
      | own ds => cases h
      | dat d =>
        cases h
        exact ⟨rfl, fun _ z => nomatch z⟩
      | bag =>
        cases h
        exact ⟨rfl, fun _ z => nomatch z⟩
/-- the slots that a block may read -/
structure SlC (fp : Addr → Prop) (F : Hp) (σ : St) (env : Denv) : Prop where
  len : env.length = σ.length
  no : ∀ (i : Nat) ds, env[i]? ≠ some (some (.own ds))
  dat : ∀ (i : Nat) d, env[i]? = some (some (.dat d)) → ∃ v, σ[i]? = some (some v) ∧ Dt F v d
  bag : ∀ (i : Nat), env[i]? = some (some .bag) → ∃ b, σ[i]? = some (some (.ref b)) ∧ fp b
theorem SlC.up {fp : Addr → Prop} {F F' : Hp} {σ : St} {env : Denv} (h : SlC fp F σ env) (e : Ex F F') : SlC fp F' σ env := ⟨h.len, h.no, fun i d hi => by
  obtain ⟨v, h1, h2⟩ := h.dat i d hi
  exact ⟨v, h1, h2.up e⟩, h.bag⟩
theorem SlC.den {B : Bs} {F H : Hp} {σ : St} {env : Denv} (h : SlC B.fp F σ env) (g : Grow B F H) : Den ⟨H, F, B.fp⟩ F H σ env := ⟨Grow.start g.fh fun b hb => ⟨g.bagNF hb, g.bag b hb⟩, h.len, fun i sv hi => by
  cases sv with
  | dat d => exact h.dat i d hi
  | own ds => exact absurd hi (h.no i ds)
  | bag =>
    obtain ⟨b, h1, h2⟩ := h.bag i hi
    exact ⟨_, h1, b, rfl, h2⟩, fun i j ds es l h1 _ _ _ => absurd h1 (h.no i ds)⟩
theorem Den.slC {B : Bs} {F H : Hp} {σ : St} {env : Denv} (n : Den B F H σ env) (vs : List Nat) : SlC B.fp F (L2.wipe σ vs) (dropO (wipeD env vs)) := ⟨by
    unfold dropO
    rw [List.length_map, wipeD_length, wipe_length, n.len], fun i ds h => (dropO_some h).2 ds rfl, fun i d h => by
    obtain ⟨h1, _⟩ := dropO_some h
    obtain ⟨h2, h3⟩ := wipeD_some h1
    obtain ⟨v, h4, h5⟩ := n.slot i _ h2
    exact ⟨v, by rw [wipe_get h3]; exact h4, h5⟩, fun i h => by
    obtain ⟨h1, _⟩ := dropO_some h
    obtain ⟨h2, h3⟩ := wipeD_some h1
    obtain ⟨v, h4, b, rfl, h5⟩ := n.slot i _ h2
    exact ⟨b, by rw [wipe_get h3]; exact h4, h5⟩⟩
def lcL (g : DG) (tt : DT) (te : DE) (env : Denv) : List PyData → (List PyData → Prop) → Prop
  | [], Q => Q []
  | d :: ds, Q => g d env fun env' => tt env' fun b => if b = true then te env' fun y => lcL g tt te env ds fun ys => Q (y :: ys) else lcL g tt te env ds Q
def nLc (it : DN) (g : DG) (tt : DT) (te : DE) (vs : List Nat) : DN := fun env Q => it env fun its => its.length ≤ 1000000 ∧ lcL g tt te (dropO (wipeD env vs)) its Q
def dYes : DT := fun _ Q => Q true
theorem st_yes : St' tYes dYes := fun B F H σ env Q Qv n q k => k true F H q (Ex.refl F) n
theorem lcL_mono {g : DG} {tt : DT} {te : DE} {env : Denv} (hg : ∀ d env Q Q', (∀ x, Q x → Q' x) → g d env Q → g d env Q') (ht : ∀ env (Q Q' : Bool → Prop), (∀ x, Q x → Q' x) → tt env Q → tt env Q') (he : ∀ env (Q Q' : PyData → Prop), (∀ x, Q x → Q' x) → te env Q → te env Q') :
    ∀ (ds : List PyData) (Q Q' : List PyData → Prop), (∀ x, Q x → Q' x) → lcL g tt te env ds Q → lcL g tt te env ds Q'
  | [], Q, Q', h, q => h _ q
  | d :: ds, Q, Q', h, q => hg d env _ _ (fun env' q1 => ht env' _ _ (fun b q2 => by
      cases b with
      | true => exact he env' _ _ (fun y q3 => lcL_mono hg ht he ds _ _ (fun ys q4 => h _ q4) q3) q2
      | false => exact lcL_mono hg ht he ds _ _ h q2) q1) q
theorem sn_lc {wi : TI} {it : DN} {g : TG} {dg : DG} {vs vs' : List Nat} {tt : TT} {dt : DT} {te : TE} {dd : DE} (hi : Si wi it) (hg : Sg g dg vs') (hv : ∀ i ∈ vs', i ∈ vs) (ht : St' tt dt) (he : Sd te dd) : Sn (tLc wi g tt te vs) (nLc it dg dt dd vs) := fun B F H σ env Q Qv n q k => by
  refine hi B F H σ env _ _ n q fun its J F1 H1 ⟨hz, q1⟩ e1 n1 wk => ?_
  intro D hD
  have sl1 := n1.slC vs
  refine ⟨fun i m H' => m = its.length - i ∧ i ≤ its.length ∧ ∃ F' accv acc, Grow ⟨H1, F1, B.fp⟩ F' H' ∧ H' D = some (.lst accv) ∧ F' D = none ∧ DtA F' accv acc ∧ acc.length ≤ i ∧ lcL dg dt dd (dropO (wipeD env vs)) (its.drop i) fun ys => Q (acc ++ ys), ⟨its.length, rfl, Nat.zero_le _, F1, [], [], ?_, upd_same, Ex.none n1.g.fh hD, .nil, Nat.le_refl _, q1⟩, ?_⟩
  · exact (Grow.start n1.g.fh fun b hb => ⟨n1.g.bagNF hb, n1.g.bag b hb⟩).own hD
  · rintro i m H' ⟨rfl, hi', F', accv, acc, g', hD', fD', ta, hl, q'⟩
    have eF : Ex F1 F' := g'.bf
    obtain ⟨w1, w2⟩ := wk F' H' eF g'.fh
    have nD : ¬ B.fp D := fun z => by
      obtain ⟨_, o, h2⟩ := n1.g.fpn D z
      rw [n1.g.new0 hD] at h2
      cases h2
    by_cases hlt : i < its.length
    · refine .inr ⟨(w2 i its[i] (List.getElem?_eq_getElem hlt)).1, fun H2 => ∃ F2 accv acc, Grow ⟨H1, F1, B.fp⟩ F2 H2 ∧ H2 D = some (.lst accv) ∧ F2 D = none ∧ DtA F2 accv acc ∧ acc.length ≤ i + 1 ∧ lcL dg dt dd (dropO (wipeD env vs)) (its.drop (i + 1)) fun ys => Q (acc ++ ys), fun H2 ⟨F2, av, ac, p⟩ => ⟨its.length - (i + 1), by omega, rfl, hlt, F2, av, ac, p⟩, fun x H'' hy => ?_⟩
      obtain ⟨F'', g'', t''⟩ := (w2 i its[i] (List.getElem?_eq_getElem hlt)).2 x H'' hy
      rw [List.drop_eq_getElem_cons hlt] at q'
      have n' : Den ⟨H', F', B.fp⟩ F' H' (wipe σ vs) (dropO (wipeD env vs)) := SlC.den (B := ⟨H1, F1, B.fp⟩) (sl1.up eF) g'
      have n'' := n'.gro g''
      refine hg _ F'' H'' (wipe σ vs) _ x _ _ _ n'' t'' q' fun σ2 env2 q2 n2 l2 s2 => ⟨?_, ?_⟩
      · rw [wipe_congr l2 fun i hi => s2 i fun z => hi (hv i z), wipe_wipe]
      · refine ht _ F'' H'' σ2 env2 _ _ n2 q2 fun b F3 H3 q3 e3 n3 => ?_
        have back : ∀ {F4 H4 : Hp}, Den ⟨H', F', B.fp⟩ F4 H4 σ2 env2 → Grow ⟨H1, F1, B.fp⟩ F4 H4 ∧ H4 D = some (.lst accv) ∧ F4 D = none ∧ Ex F' F4 := fun {F4 H4} n4 => ⟨g'.call n4.g, n4.g.keep D _ nD hD', n4.g.nofr D _ hD' fD', n4.g.bf⟩
        cases b with
        | false =>
          obtain ⟨b1, b2, b3, b4⟩ := back n3
          exact ⟨F3, accv, acc, b1, b2, b3, ta.up b4, by omega, q3⟩
        | true =>
          refine he _ F3 H3 σ2 env2 _ _ n3 q3 fun y d F4 H4 q4 e4 n4 t4 => ?_
          obtain ⟨b1, b2, b3, b4⟩ := back n4
          refine ⟨accv, b2, ?_, F4, accv ++ [y], acc ++ [d], b1.mut (n1.g.new0 hD ▸ hD) b3, upd_same, b3, (ta.up b4).app (.cons t4 .nil), ?_, ?_⟩
          · rw [ta.len]
            exact Nat.lt_of_le_of_lt hl (Nat.lt_of_lt_of_le hlt (Nat.le_trans hz (by decide)))
          · rw [List.length_append]
            show acc.length + 1 ≤ i + 1
            omega
          · show lcL dg dt dd (dropO (wipeD env vs)) (its.drop (i + 1)) fun ys => Q ((acc ++ [d]) ++ ys)
            have ea : (fun ys : List PyData => Q ((acc ++ [d]) ++ ys)) = fun ys => Q (acc ++ d :: ys) := by
              funext ys
              rw [List.append_assoc]
              rfl
            rw [ea]
            exact q4
    · have ei : i = its.length := by omega
      subst ei
      rw [List.drop_length] at q'
      refine .inl ⟨w1, ?_⟩
      have q2 : Q (acc ++ []) := q'
      rw [List.append_nil] at q2
      refine k D accv acc F' H' q2 (e1.trans eF) (n1.call g') ⟨n1.g.new0 hD, fD', hD', ta, fun i es hi z => ?_⟩
      obtain ⟨l, ws, p1, p2, p3, p4, p5⟩ := n1.own hi
      rw [z] at p1
      cases p1
      rw [hD] at p4
      cases p4
end
section
variable {X : Cx} {elt tg iter : Expr} {ifs : List Expr} {scope : Scope} {own : List (Str × Nat)} {pos spos : Pos} {wi : TI} {it : DN} {g : TG} {dg : DG} {vs' : List Nat} {tt : TT} {dt : DT} {te : TE} {dd : DE}
structure PTsd (X : Cx) (ifs : List Expr) (tt : TT) (t : DT) : Prop where
  pt : PTs X ifs tt
  s : St' tt t
theorem ptsd_nil : PTsd X [] tYes dYes := ⟨pts_nil, st_yes⟩
theorem ptsd_one {c : Expr} (h : PTd X c tt dt) : PTsd X [c] tt dt := ⟨pts_one h.pt, h.s⟩
theorem pen_lc (hc : X.calm = true) (hN : X.N.Nodup) (hi : PId X tg iter wi it) (ok : BlkOk X.N X.env.scope scope own)
    (hg : ∀ (s : Shared) (H : Hp) (C : Addr) (cl : List (Str × Addr)) (fp : List Addr), PGd (X.blk s H scope (compEnvC scope cl C X.env) fp) tg g dg vs') (hv : ∀ i ∈ vs', i ∈ own.map (·.2)) (ht : ∀ (s : Shared) (H : Hp) (C : Addr) (cl : List (Str × Addr)) (fp : List Addr), PTsd (X.blk s H scope (compEnvC scope cl C X.env) fp) ifs tt dt)
    (he : ∀ (s : Shared) (H : Hp) (C : Addr) (cl : List (Str × Addr)) (fp : List Addr), PEd (X.blk s H scope (compEnvC scope cl C X.env) fp) elt te dd) (hs : ∀ x, foldedSetIterable iter X.env x = pure x := by intro _; rfl) :
    PEn X (.ListComp elt [⟨tg, iter, ifs, 0⟩] scope pos) (tLc wi g tt te (own.map (·.2))) (nLc it dg dt dd (own.map (·.2))) :=
  ⟨pe_lc hc hN hi.pi ok (fun s H C cl fp => (hg s H C cl fp).pg) (fun s H C cl fp => (ht s H C cl fp).pt) (fun s H C cl fp => (he s H C cl fp).pe) hs,
    sn_lc hi.s (hg ({} : Shared) (fun _ => none) 0 [] []).s hv (ht ({} : Shared) (fun _ => none) 0 [] []).s (he ({} : Shared) (fun _ => none) 0 [] []).s⟩
end
end Pd

set_option maxRecDepth 100000
set_option maxHeartbeats 4000000
namespace Pd
open PySem L2
open PyProof.Rows (envOfC)
open Evl (Ex)

/-! ### defs and their calls -/
abbrev DSp := List SV → (RVd → Prop) → Prop
abbrev DA := Denv → (List SV → Prop) → Prop
def ArgOk (fp : Addr → Prop) (F : Hp) (v : V) : SV → Prop
  | .dat d => Dt F v d
  | .bag => ∃ b, v = .ref b ∧ fp b
  | .own _ => False
def lift (dsp : DSp) : Sp := fun vs H Q _ => ∃ (F : Hp) (fp : Addr → Prop) (svs : List SV) (R : RVd → Prop), Ex F H ∧ Paired (ArgOk fp F) vs svs ∧ (∀ b, fp b → F b = none ∧ BagAt F H b) ∧ dsp svs R ∧
  ∀ v r F' H', R r → Grow ⟨H, F, fp⟩ F' H' → ROk ⟨H, F, fp⟩ F' H' v r → Q v H'
theorem ArgOk.up {fp : Addr → Prop} {F F' : Hp} {v : V} {sv : SV} (h : ArgOk fp F v sv) (e : Ex F F') : ArgOk fp F' v sv := by
  cases sv with
  | dat d => exact Dt.up h e
  | bag => exact h
  | own ds => exact h
def Sc (ta : TA) (da : DA) : Prop := ∀ B F H σ env Q Qv, Den B F H σ env → da env Q → (∀ vs svs F' H', Q svs → Ex F F' → Den B F' H' σ env → Paired (ArgOk B.fp F') vs svs → Qv vs H') → ta σ H Qv
structure PAc (X : Cx) (es : List Expr) (ta : TA) (da : DA) : Prop where
  pa : PA X es ta
  s : Sc ta da
def aNil : DA := fun _ Q => Q []
def aDat (t : DE) (r : DA) : DA := fun env Q => t env fun d => r env fun svs => Q (.dat d :: svs)
def aBag (i : Nat) (r : DA) : DA := fun env Q => env[i]? = some (some .bag) ∧ r env fun svs => Q (.bag :: svs)
section
variable {X : Cx} {e : Expr} {es : List Expr} {te : TE} {ta : TA} {dd : DE} {da : DA} {pos p : Pos} {x : Str} {dsp : DSp}
theorem pac_nil : PAc X [] tNil aNil := ⟨pa_nil, fun B F H σ env Q Qv n q k => k [] [] F H q (Ex.refl F) n .nil⟩
theorem pac_d (ha : PEd X e te dd) (hr : PAc X es ta da) (hs : starEach (e :: es) X.env = (false, eval e X.env) :: starEach es X.env := by rfl) : PAc X (e :: es) (tCons te ta) (aDat dd da) := ⟨pa_cons ha.pe hr.pa hs, fun B F H σ env Q Qv n q k =>
  ha.s B F H σ env _ _ n q fun v d F1 H1 q1 e1 n1 r1 => hr.s B F1 H1 σ env _ _ n1 q1 fun vs svs F2 H2 q2 e2 n2 r2 => k (v :: vs) (.dat d :: svs) F2 H2 q2 (e1.trans e2) n2 (.cons (Dt.up r1 e2) r2)⟩
theorem pac_bag (i : Nat) (h : PE X e (tVar i)) (hr : PAc X es ta da) (hs : starEach (e :: es) X.env = (false, eval e X.env) :: starEach es X.env := by rfl) : PAc X (e :: es) (tCons (tVar i) ta) (aBag i da) := ⟨pa_cons h hr.pa hs, fun B F H σ env Q Qv n q k => by
  obtain ⟨h1, q⟩ := q
  obtain ⟨v, h2, b, rfl, h3⟩ := n.slot i _ h1
  exact ⟨_, h2, hr.s B F H σ env _ _ n q fun vs svs F2 H2 q2 e2 n2 r2 => k (.ref b :: vs) (.bag :: svs) F2 H2 q2 e2 n2 (.cons ⟨b, rfl, h3⟩ r2)⟩⟩
def dCall (dsp : DSp) (da : DA) : DE := fun env Q => da env fun svs => dsp svs fun r => Q r.d
def nCall (dsp : DSp) (da : DA) : DN := fun env Q => da env fun svs => dsp svs fun r => ∃ ds, r = .new ds ∧ Q ds
/-- what a call leaves, for its caller -/
theorem ROk.back {B : Bs} {F H F' H' : Hp} {σ : St} {env : Denv} {l : Addr} {vs : List V} {ds : List PyData} (n : Den B F H σ env) (c : Grow ⟨H, F, B.fp⟩ F' H') (h1 : H l = none) (h2 : F' l = none) (h3 : H' l = some (.lst vs)) (h4 : DtA F' vs ds) : Fresh B F' H' σ env l vs ds := ⟨n.g.new0 h1, h2, h3, h4, fun i es hi z => by
  obtain ⟨l', ws, p1, p2, p3, p4, p5⟩ := n.own hi
  rw [z] at p1
  cases p1
  rw [h1] at p4
  cases p4⟩
theorem sd_call {E : XK} (ha : Sc ta da) : Sd (tCall (lift dsp) [] E ta) (dCall dsp da) := fun B F H σ env Q Qv n q k =>
  ha B F H σ env _ _ n q fun vs svs F1 H1 q1 e1 n1 r1 => by
    rw [List.append_nil]
    refine ⟨F1, B.fp, svs, _, n1.g.fh, r1, fun b hb => ⟨n1.g.bagNF hb, n1.g.bag b hb⟩, q1, fun v r F' H' q' g' r' => ?_⟩
    cases r with
    | dat d => exact k v d F' H' q' (e1.trans g'.bf) (n1.call g') r'
    | new ds =>
      obtain ⟨l, ws, rfl, h1, h2, h3, h4⟩ := r'
      have n' := n1.call g'
      obtain ⟨n2, e2, d2⟩ := (ROk.back n1 g' h1 h2 h3 h4).freeze n'
      exact k _ _ _ _ q' ((e1.trans g'.bf).trans e2) n2 d2
theorem sn_call {E : XK} (ha : Sc ta da) : Sn (tCall (lift dsp) [] E ta) (nCall dsp da) := fun B F H σ env Q Qv n q k =>
  ha B F H σ env _ _ n q fun vs svs F1 H1 q1 e1 n1 r1 => by
    rw [List.append_nil]
    refine ⟨F1, B.fp, svs, _, n1.g.fh, r1, fun b hb => ⟨n1.g.bagNF hb, n1.g.bag b hb⟩, q1, fun v r F' H' q' g' r' => ?_⟩
    obtain ⟨ds, rfl, q'⟩ := q'
    obtain ⟨l, ws, rfl, h1, h2, h3, h4⟩ := r'
    exact k l ws ds F' H' q' (e1.trans g'.bf) (n1.call g') (ROk.back n1 g' h1 h2 h3 h4)
variable {k : Nat} {f : Addr} {fd : FuncData} {ps : List Str}
theorem ped_call (F : FnOk X.prog X.w X.K X.mg X.base CX0 k f fd ps (lift dsp)) (hr : Room k X.A) (hg : Gl X x) (hm : X.mg x = some (.ref f)) (hk : PySem.W.keepIn X.K (.ref f) = true) (hb : Binds X.K fd ps []) (ha : PAc X (e :: es) ta da) (hdb : (x == ("__debug__" : Str)) = false := by decide)
    (he : starEach (e :: es) X.env = (false, eval e X.env) :: starEach es X.env := by rfl) (hpl : (backTo pos (starEach es X.env)).any (·.1) = false := by rfl) : PEd X (.Call (.Name x p) (e :: es) [] pos) (tCall (lift dsp) [] E0 ta) (dCall dsp da) := ⟨pe_call F hr hg hm hk hb .nil pass0 ha.pa hdb he hpl, sd_call ha.s⟩
theorem pen_call (F : FnOk X.prog X.w X.K X.mg X.base CX0 k f fd ps (lift dsp)) (hr : Room k X.A) (hg : Gl X x) (hm : X.mg x = some (.ref f)) (hk : PySem.W.keepIn X.K (.ref f) = true) (hb : Binds X.K fd ps []) (ha : PAc X (e :: es) ta da) (hdb : (x == ("__debug__" : Str)) = false := by decide)
    (he : starEach (e :: es) X.env = (false, eval e X.env) :: starEach es X.env := by rfl) (hpl : (backTo pos (starEach es X.env)).any (·.1) = false := by rfl) : PEn X (.Call (.Name x p) (e :: es) [] pos) (tCall (lift dsp) [] E0 ta) (nCall dsp da) := ⟨pe_call F hr hg hm hk hb .nil pass0 ha.pa hdb he hpl, sn_call ha.s⟩
theorem ped_call0 (F : FnOk X.prog X.w X.K X.mg X.base CX0 k f fd ps (lift dsp)) (hr : Room k X.A) (hg : Gl X x) (hm : X.mg x = some (.ref f)) (hk : PySem.W.keepIn X.K (.ref f) = true) (hb : Binds X.K fd ps []) (hdb : (x == ("__debug__" : Str)) = false := by decide) :
    PEd X (.Call (.Name x p) [] [] pos) (tCall (lift dsp) [] E0 tNil) (dCall dsp aNil) := ⟨pe_call0 F hr hg hm hk hb .nil pass0 hdb, sd_call (pac_nil (X := X)).s⟩
end
/-! ### a def by its body -/
def startd (n : Nat) (svs : List SV) : Denv := svs.map some ++ List.replicate (n - svs.length) none
theorem pairedLen {α β : Type} {R : α → β → Prop} : ∀ {l : List α} {m : List β}, Paired R l m → l.length = m.length
  | _, _, .nil => rfl
  | _, _, .cons _ t => by rw [List.length_cons, List.length_cons, pairedLen t]
theorem pairedGet {α β : Type} {R : α → β → Prop} : ∀ {l : List α} {m : List β} {i : Nat} {y : β}, Paired R l m → m[i]? = some y → ∃ x, l[i]? = some x ∧ R x y
  | _, _, _, _, .nil, e => by simp at e
  | _, _, 0, _, .cons r _, e => by
    simp at e
    subst e
    exact ⟨_, rfl, r⟩
  | _, _, i + 1, y, .cons _ t, e => by
    obtain ⟨u, h1, h2⟩ := pairedGet (i := i) (y := y) t (by simpa using e)
    exact ⟨u, by simpa using h1, h2⟩
theorem start_den {F H : Hp} {fp : Addr → Prop} {vs : List V} {svs : List SV} {N : List Str} (e : Ex F H) (hb : ∀ b, fp b → F b = none ∧ BagAt F H b) (r : Paired (ArgOk fp F) vs svs) : Den ⟨H, F, fp⟩ F H (L2.start N vs) (startd N.length svs) := by
  have hl := pairedLen r
  have key : ∀ (i : Nat) sv, (startd N.length svs)[i]? = some (some sv) → ∃ v, (L2.start N vs)[i]? = some (some v) ∧ ArgOk fp F v sv := fun i sv h => by
    unfold startd at h
    unfold L2.start
    by_cases hi : i < svs.length
    · rw [List.getElem?_append_left (by simpa using hi), List.getElem?_map] at h
      rw [List.getElem?_append_left (by simpa [hl] using hi), List.getElem?_map]
      cases e1 : svs[i]? with
      | none =>
        rw [e1] at h
        cases h
      | some s =>
        rw [e1] at h
        cases h
        obtain ⟨v, h1, h2⟩ := pairedGet r e1
        exact ⟨v, by rw [h1]; rfl, h2⟩
    · rw [List.getElem?_append_right (by simpa using hi), List.getElem?_replicate] at h
      split at h <;> cases h
  refine ⟨Grow.start e hb, ?_, fun i sv h => ?_, fun i j ds es l h _ _ _ => ?_⟩
  · unfold startd L2.start
    rw [List.length_append, List.length_map, List.length_replicate, List.length_append, List.length_map, List.length_replicate, hl]
  · obtain ⟨v, h1, h2⟩ := key i sv h
    refine ⟨v, h1, ?_⟩
    cases sv with
    | dat d => exact h2
    | bag => exact h2
    | own ds => exact h2.elim
  · obtain ⟨v, _, h2⟩ := key i _ h
    exact h2.elim
section
variable {P : Program} {w : World} {K : PySem.W.Frag} {mg : Str → Option Value} {base : Heap}
theorem fun_d {x qual : Str} {st : Stmt} {f : Addr} {fd : FuncData} {N ps : List Str} {k : Nat} {dsp : DSp} {t : DS} (F : Fun K x qual st f fd) (S : FnScope N ps (defScope st)) (len : ∀ svs R, dsp svs R → svs.length = ps.length)
    (hb : ∀ (cdv : Value) (A : Around) (outer : List Env) (s : Shared) (H : Hp) (E : XK), Room k (A.deeper (envOfC qual (defScope st) s.heap.objs.size f cdv)) → ∃ ts, PSsd (cxOf CX0 P w K mg base N qual (defScope st) f cdv A outer s H E).nox (defBody st) ts t)
    (rd : ∀ svs R, dsp svs R → t { nx := fun _ => R (.dat .none), rt := R } (startd N.length svs)) : FnOk P w K mg base CX0 (k + 1) f fd ps (lift dsp) := by
  refine F.ok S (fun vs H Q E h => ?_) (fun cdv A outer s H vs Q E hr h => ?_)
  · obtain ⟨F', fp, svs, R, _, r, _, q, _⟩ := h
    rw [pairedLen r]
    exact len svs R q
  · obtain ⟨F', fp, svs, R, e, r, hb', q, kk⟩ := h
    obtain ⟨ts, ht⟩ := hb cdv A outer s H E hr
    exact ⟨ts, ht.ps, ht.s ⟨H, F', fp⟩ F' H _ _ _ { nx := fun _ => R (.dat .none), rt := R } (start_den e hb' r) ⟨fun F2 H2 σ2 env2 e2 n2 q2 => kk _ (.dat .none) F2 H2 q2 n2.g Dt.non, fun F2 H2 v r e2 g2 r2 q2 => kk v r F2 H2 q2 g2 r2, fun _ _ _ _ _ _ z => z.elim, fun _ _ _ _ _ _ z => z.elim⟩ (rd svs R q)⟩
end

/-! ### the bag: a draw -/
def spTake : DSp := fun svs R => ∃ m : Int, svs = [.bag, .dat (.int m)] ∧ 0 < m ∧ ∀ r : Int, 0 ≤ r → r < m → R (.dat (.int r))
def rLenQ (K : PySem.W.Frag) : List V → Hp → VK → Prop := fun xs H Q => ∃ p ys, xs = [.ref p] ∧ (SqL K H p ys ∨ SqT K H p ys) ∧ Q (.int ys.length) H
def tTake (K : PySem.W.Frag) : TS := tSeq (tAsg (tOp (rI0 fun i j => .int (i + j)) (tOp (rIxL K) (tVar 0) (tC (.int 1))) (tC (.int 1))) (gSub (tVar 0) (tC (.int 1)) rSetL))
  (tRet (tOp (rI (fun _ j => 0 < j) fun i j => .int (i % j)) (tOp (rIxL K) (tOp (rIxL K) (tVar 0) (tC (.int 0))) (tOp (rI (fun _ j => 0 < j) fun i j => .int (i % j)) (tOp (rIxL K) (tVar 0) (tC (.int 1))) (tCB (rLenQ K) (tCons (tOp (rIxL K) (tVar 0) (tC (.int 0))) tNil)))) (tVar 1)))
theorem rd_take {K : PySem.W.Frag} {vs : List V} {H : Hp} {Q : VK} {E : XK} (h : lift spTake vs H Q E) : tTake K { nx := fun _ H' => Q .non H', rt := Q } (L2.start ["bag", "many"] vs) H := by
  obtain ⟨F, fp, svs, R, e, r, hb, ⟨m, rfl, hm, hR⟩, k⟩ := h
  obtain ⟨v, u, rfl, ⟨b, rfl, hf⟩, r2⟩ := paired2 r
  cases r2
  obtain ⟨nF, l, n, ns, h1, h2, h3, h4, h5⟩ := hb b hf
  have hbl : b ≠ l := fun z => by
    subst z
    rw [nF] at h3
    cases h3
  have hl : upd H b (.lst [.ref l, .int (n + 1)]) l = some (.lst (ns.map V.int)) := by
    rw [upd_ne hbl.symm]
    exact e _ _ h3
  have hlen : ((ns.map V.int).length : Int) = 400 := by
    rw [List.length_map, h4]
    rfl
  refine ⟨_, rfl, b, _, 1, .int n, rfl, rfl, SqL.of h1, rfl, n, 1, rfl, rfl, _, rfl, b, _, 1, 1, rfl, rfl, h1, rfl, ?_⟩
  have hmod : 0 ≤ (n + 1) % ((ns.map V.int).length : Int) ∧ (n + 1) % ((ns.map V.int).length : Int) < 400 := by
    rw [hlen]
    omega
  obtain ⟨x, hx⟩ : ∃ x, ns[((n + 1) % ((ns.map V.int).length : Int)).toNat]? = some x := ⟨_, List.getElem?_eq_getElem (by omega)⟩
  have hx2 : atI (ns.map V.int) ((n + 1) % ((ns.map V.int).length : Int)) = some (.int x) := by
    refine at_of (j := ((n + 1) % ((ns.map V.int).length : Int)).toNat) (by omega) ?_
    rw [List.getElem?_map, hx]
    rfl
  refine ⟨_, rfl, b, _, 0, .ref l, rfl, rfl, SqL.of upd_same, rfl, _, rfl, b, _, 1, .int (n + 1), rfl, rfl, SqL.of upd_same, rfl, _, rfl, b, _, 0, .ref l, rfl, rfl, SqL.of upd_same, rfl, l, _, rfl, .inl (SqL.of hl), n + 1, _, rfl, rfl, ?_, l, _, _, .int x, rfl, rfl, SqL.of hl, hx2, _, rfl, x, m, rfl, rfl, hm, ?_⟩
  · show (0 : Int) < ((ns.map V.int).length : Int)
    rw [hlen]
    decide
  · refine k _ (.dat (.int (x % m))) F _ (hR _ (Int.emod_nonneg _ (by omega)) (Int.emod_lt_of_pos _ hm)) ⟨Ex.mut e nF, Ex.refl _, fun a o ha h => ?_, fun _ _ _ h => h, fun b' hb' => ?_, fun b' hb' => ⟨(hb b' hb').1, ?_⟩⟩ (.int _)
    · rw [upd_ne (fun z => ha (by rw [z]; exact hf))]
      exact h
    · by_cases hbb : b' = b
      · subst hbb
        exact ⟨l, n + 1, ns, upd_same, by omega, h3, h4, h5⟩
      · refine (hb b' hb').2.mono (Ex.refl _) fun o ho => ?_
        rw [upd_ne hbb]
        exact ho
    · obtain ⟨l', n', ns', p, _⟩ := (hb b' hb').2
      exact ⟨_, p⟩
end Pd

set_option maxRecDepth 100000
set_option maxHeartbeats 4000000
/-! ### enumerate of a tuple -/
namespace PySem
open Sem (wp)
open AutoSeq1 (wpAny_loadPart')
theorem pd_enum_newT (l : Addr) (items : Array Value) (n : Nat) (dct : Option Addr) (sl : Array (Option Value)) :
    Meets (Builtin.«enumerate.__new__» ⟨[.type "enumerate", .ref l], []⟩) (fun _ R s => s.heap.get? l = some { cls := .type "tuple", dict := dct, data := .seq items n, slots := sl } ∧
      R (.ok (.ret (.ref (s.heap.push { cls := .type "tuple_iterator", data := .fields #[.ref l, .int 0 0] }).objs.size)))
        { s with heap := (s.heap.push { cls := .type "tuple_iterator", data := .fields #[.ref l, .int 0 0] }).push { cls := .type "enumerate", data := .fields #[.none, .bool false, .ref s.heap.objs.size, rawInt 0, .none, .none] } }) :=
  .of_wp fun prog w A R s h => by
    obtain ⟨hp, g, d, tk, os⟩ := s; obtain ⟨hl, h⟩ := h
    have hsub := sub_enumerate
    have hL : Heap.IsTuple (Shared.heap ⟨hp, g, d, tk, os⟩) l items := ⟨_, hl, rfl, n, rfl⟩
    wp_walk using wpAny_loadPart' hl
    refine wpAny_stack_any fun st => wpAny_pure ?_
    split
    · rename_i c _ _ _ _ _
      cases (c == Value.type "enumerate")
      · wp_walk using wpAny_loadPart' hl, wpAny_pyIter_tuple hL
        exact ⟨_, rfl, h⟩
      · wp_walk using wpAny_loadPart' hl, wpAny_pyIter_tuple hL
        exact ⟨_, rfl, h⟩
    · wp_walk using wpAny_loadPart' hl, wpAny_pyIter_tuple hL
      exact ⟨_, rfl, h⟩
section
variable {prog : Program} {w : World} {A : Around} {E : Value → Shared → Prop} {s : Shared}
theorem pd_call_enumT {l : Addr} {items : Array Value} {Q : Value → Shared → Prop} (hL : s.heap.IsTuple l items)
    (h : ∀ h', IsEnum h' (s.heap.objs.size + 1) s.heap.objs.size 0 .none → h'.IsTupleIter s.heap.objs.size l 0 → h'.objs.size = s.heap.objs.size + 2 →
      (∀ b o, s.heap.get? b = some o → h'.get? b = some o) → Q (.ref (s.heap.objs.size + 1)) { s with heap := h' }) :
    wpAny (model prog w) A (call (.type "enumerate") [.ref l]) Q E s := by
  obtain ⟨⟨c, dct, dt, sl⟩, hl, hc, n, hd⟩ := hL
  replace hc : c = .type "tuple" := hc
  replace hd : dt = .seq items n := hd
  subst hc hd
  refine callType_new F.called_enumerate (by decide) (F.typeCall_enumerate_1 _) (F.newCall_enumerate_1 _) (fun obj => F.args_object_init_2 obj _) F.entry_enumerate_new
    (pd_enum_newT l items n dct sl) ⟨hl, ?_⟩
  have hz : (s.heap.push { cls := .type "tuple_iterator", data := .fields #[.ref l, .int 0 0] }).objs.size = s.heap.objs.size + 1 := Heap.size_push ..
  show _ ∧ _
  rw [hz]
  have he : IsEnum ((s.heap.push { cls := .type "tuple_iterator", data := .fields #[.ref l, .int 0 0] }).push
      { cls := .type "enumerate", data := .fields #[.none, .bool false, .ref s.heap.objs.size, rawInt 0, .none, .none] }) (s.heap.objs.size + 1) s.heap.objs.size 0 .none := by
    have := Heap.get?_push_size (s.heap.push { cls := .type "tuple_iterator", data := .fields #[.ref l, .int 0 0] })
      (o := { cls := .type "enumerate", data := .fields #[.none, .bool false, .ref s.heap.objs.size, rawInt 0, .none, .none] }) rfl
    rw [hz] at this; exact this
  refine ⟨⟨_, he, rfl⟩, h _ he ⟨_, Heap.get?_push_of_some _ (Heap.get?_push_size _ rfl), rfl, rfl⟩ (by rw [Heap.size_push, hz]) fun b o x => Heap.get?_push_of_some _ (Heap.get?_push_of_some _ x)⟩
end
end PySem
namespace Pd
open PySem PySem.Spec PyProof.Rows L2
open Evl (Ex)
abbrev St := L2.St
def SqK (k : Bool) (K : PySem.W.Frag) (H : Hp) (a : Addr) (xs : List V) : Prop := match k with
  | true => SqT K H a xs
  | false => SqL K H a xs
def ItK (k : Bool) (h : Heap) (it a : Addr) (i : Nat) : Prop := match k with
  | true => h.IsTupleIter it a i
  | false => h.IsListIter it a i
def IsK (k : Bool) (h : Heap) (a : Addr) (its : Array Value) : Prop := match k with
  | true => h.IsTuple a its
  | false => h.IsList a its
def itObj (k : Bool) (a : Addr) : Obj := match k with
  | true => { cls := .type "tuple_iterator", data := .fields #[.ref a, .int 0 0] }
  | false => { cls := .type "list_iterator", data := .fields #[.ref a, .int 0 0] }
theorem drawsK {prog : Program} {w : World} {A : Around} (hh : A.handled = none) (k : Bool) (it t : Addr) (hne : t ≠ it) (items : Array Value) :
    Draws prog w A it [it, t] items.size (fun i v => items[i]? = some v) (fun i h => ItK k h it t i ∧ IsK k h t items) := by
  cases k
  · exact Draws.list hh it t hne items
  · exact Draws.tuple hh it t hne items
theorem beginsK (k : Bool) (l : Addr) (items : Array Value) : Begins (.ref l) (itObj k l) fun h => IsK k h l items := by
  cases k
  · exact begins_list l items
  · exact begins_tuple l items
theorem itK_new {k : Bool} {h : Heap} {it a : Addr} (e : h.get? it = some (itObj k a)) : ItK k h it a 0 := by
  cases k
  · exact ⟨_, e, rfl, rfl⟩
  · exact ⟨_, e, rfl, rfl⟩
theorem itK_at {k : Bool} {h h' : Heap} {it a : Addr} {i : Nat} (x : ItK k h it a i) (e : ∀ o, h.get? it = some o → h'.get? it = some o) : ItK k h' it a i := by
  cases k
  · exact Heap.IsListIter.at x e
  · exact Heap.IsTupleIter.at x e
theorem itK_obj {k : Bool} {h : Heap} {it a : Addr} {i : Nat} (x : ItK k h it a i) : ∃ o, h.get? it = some o ∧ ∀ v, o.data ≠ .cell v := by
  cases k
  · obtain ⟨o, e, _, d⟩ := x
    exact ⟨o, e, fun v q => by rw [d] at q; cases q⟩
  · obtain ⟨o, e, _, d⟩ := x
    exact ⟨o, e, fun v q => by rw [d] at q; cases q⟩
theorem sqK_is {X : Cx} {pins : List (Addr × Obj)} {σ : L2.St} {H : Hp} {s : Shared} (I : Inv X pins σ H s) {k : Bool} {a : Addr} {xs : List V} (h : SqK k X.K H a xs) : ∃ its : List Value, Vals xs its ∧ IsK k s.heap a its.toArray ∧ a < s.heap.objs.size := by
  cases k
  · obtain ⟨its, rv, p, _⟩ := I.list h
    exact ⟨its, rv, p.isList, p.lt⟩
  · obtain ⟨its, rv, p, _⟩ := I.tuple h
    exact ⟨its, rv, p, p.lt⟩
theorem sqK_inj {X : Cx} {pins : List (Addr × Obj)} {σ : L2.St} {H : Hp} {s : Shared} (I : Inv X pins σ H s) {k : Bool} {a : Addr} {xs ys : List V} (h : SqK k X.K H a xs) (h2 : SqK k X.K H a ys) : xs = ys := by
  cases k
  · exact I.list_inj h h2
  · exact I.tuple_inj h h2
def IteK (k : Bool) (K : PySem.W.Frag) (a : Addr) : It :=
  ⟨fun i H => ∃ (xs : List V) (x : V), SqK k K H a xs ∧ xs[i]? = some x, fun i H v H' => ∃ T x, v = .ref T ∧ H T = none ∧ (∃ o : Obj, o.dict = none ∧ H' = upd H T (.frz o (.tup [.int (i : Nat), x]))) ∧ ∀ xs, SqK k K H a xs → xs[i]? = some x, fun i H => ∃ xs : List V, SqK k K H a xs ∧ xs.length = i⟩
theorem turn_enumK {P : Program} {w : World} {K : PySem.W.Frag} {elts : List Expr} {kk : Nat} {tpos : Pos} {k : Bool} (a e it : Addr) (hae : a ≠ e) (hai : a ≠ it) :
    Turn P w K (.Tuple elts kk tpos) (IteK k K a) [e, it] e (fun i h => (∃ old, IsEnum h e it ((i : Nat) : Int) old) ∧ ItK k h it a i ∧ e ≠ it) where
  mem := by simp
  obj := fun i h st b hb => by
    obtain ⟨⟨old, he⟩, hi, _⟩ := st
    have e' : b = e ∨ b = it := by simpa using hb
    rcases e' with z | z
    · rw [z]; exact ⟨_, he, fun v q => nomatch q⟩
    · rw [z]; exact itK_obj hi
  keep := fun i h h' st kp => let ⟨⟨old, he⟩, hi, hne⟩ := st; ⟨⟨old, kp e (by simp) _ he⟩, itK_at hi fun o q => kp it (by simp) o q, hne⟩
  item := by
    intro X hP hw hK hc i pins s σ H E I hf st hg
    subst hP hw hK
    obtain ⟨⟨old, he⟩, hit, hne⟩ := st
    obtain ⟨xs, x, hq, hx⟩ := hg
    obtain ⟨its, rv, p, _⟩ := sqK_is I hq
    obtain ⟨u, hu, ru⟩ := rv.get hx
    have hel : e < s.heap.objs.size := Heap.lt_size he
    have hil : it < s.heap.objs.size := by
      obtain ⟨_, q, _⟩ := itK_obj hit
      exact Heap.lt_size q
    have hlt : i < its.toArray.size := by
      have := (List.getElem?_eq_some_iff.mp hu).1
      simpa using this
    refine wpAny_pyNext_enum_itemD (drawsK (A := X.A.in1) (I.ok.hd hc) k it a hai its.toArray) he ⟨hit, p⟩ hlt hne (by
      intro z
      have : e = it ∨ e = a := by simpa using z
      rcases this with z | z
      · exact hne z
      · exact hae z.symm) fun x' h' tk hP ho hit' hT hsz hk => ?_
    have ex' : u = x' := by
      have h1 : its.toArray[i]? = some u := by simpa using hu
      rw [h1] at hP
      exact Option.some.inj hP
    subst ex'
    refine ⟨_, rfl, wpAny_letOwnedTupleGo_enum (s := { s with heap := h', toks := tk + 1 }) ho fun h'' he' sb => ?_⟩
    have hT2 : h''.get? s.heap.objs.size = some { cls := .type "tuple", data := .seq #[.int i tk, u] } := (sb.2 _ (Nat.ne_of_gt hel)).trans hT
    have I1 : Inv X pins σ (upd H s.heap.objs.size (.frz { cls := .type "tuple", data := .seq #[.int i tk, u] } (.tup [.int (i : Nat), x]))) { s with heap := h'', toks := tk + 1 } :=
      I.turnedNew (ch := [e, it]) (fun b ob hb q => (sb.2 b (fun z => hb (by simp [z]))).trans (hk b ob (fun z => hb (by simp [z])) (fun z => hb (by simp [z])) q)) hf (Nat.le_refl _)
        ⟨hT2, show 2 ≤ sizeLine by decide, [.int i tk, u], .cons ⟨_, rfl⟩ (.cons ru .nil), ⟨_, hT2, rfl, _, rfl⟩⟩
    refine ⟨.ref s.heap.objs.size, _, I1, rfl, ⟨_, x, rfl, I.hok.fresh (Nat.le_refl _), ⟨_, rfl, rfl⟩, fun ys hy => by rw [sqK_inj I hy hq]; exact hx⟩, ⟨⟨u, ?_⟩, itK_at hit'.1 fun o q => (sb.2 it (Ne.symm hne)).trans q, hne⟩, fun b hb => ?_⟩
    · have e1 : ((i + 1 : Nat) : Int) = (i : Int) + 1 := by omega
      rw [e1]; exact he'
    · have hb' : b < s.heap.objs.size := by
        have e' : b = e ∨ b = it := by simpa using hb
        rcases e' with z | z
        · rw [z]; exact hel
        · rw [z]; exact hil
      rw [upd_ne (Nat.ne_of_lt hb')]
      exact (hf b hb).1
  done := by
    intro X hP hw hK hc i pins s σ H E I hf st hg
    subst hP hw hK
    obtain ⟨⟨old, he⟩, hit, hne⟩ := st
    obtain ⟨xs, hq, hx⟩ := hg
    obtain ⟨its, rv, p, _⟩ := sqK_is I hq
    obtain ⟨f0, f1, f2, f3, f4, f5⟩ := hf it (by simp)
    have hl := rv.length
    have hn : its.toArray.size = i := by
      simp
      omega
    exact wpAny_pyNext_enum_endD (drawsK (A := X.A.in1) (I.ok.hd hc) k it a hai its.toArray) he (by rw [hn]; exact ⟨hit, p⟩) fun h' eb => ⟨rfl, I.turned (t' := s.toks) (fun b o hb q => eb b o hb q) f0 f1 f3 f4 f5⟩
  self := fun A i s Q E st h => let ⟨⟨_, he⟩, _⟩ := st; wpAny_pyIter_enum he h
def iEnumT (K : PySem.W.Frag) (ta : TA) : TI := fun σ H R => ta σ H fun vs H1 => ∃ a xs, vs = [.ref a] ∧ ((SqL K H1 a xs ∧ R (IteK false K a) H1) ∨ (SqT K H1 a xs ∧ R (IteK true K a) H1))
theorem pi_enumA {X : Cx} {e : Expr} {ta : TA} {p pos tpos : Pos} {elts : List Expr} {kk : Nat} (hg : Gl X "enumerate") (hm : X.mg "enumerate" = none) (ha : PA X [e] ta) (hs : starEach [e] X.env = [(false, eval e X.env)] := by rfl) :
    PI X (.Tuple elts kk tpos) (.Call (.Name "enumerate" p) [e] [] pos) (iEnumT X.K ta) := by
  refine ⟨fun pins s σ H R I h => ?_⟩
  refine Call_ (ld_blt I hg hm boot_enumerate (PyProof.Rows.callWith_type1 (thn (ha.run pos pins s σ H _ I h) fun us s1 ⟨vs, H1, I1, r1, q1⟩ => ?_) hs rfl))
  obtain ⟨a, xs, ex, q1⟩ := q1
  subst ex
  cases r1 with
  | cons r rr =>
    cases rr
    cases r
    have fin : ∀ b, b = s1.heap.objs.size + 1 ∨ b = s1.heap.objs.size → FpOk X pins H1 b := fun b e' => by
      have hle : s1.heap.objs.size ≤ b := by
        rcases e' with z | z
        · rw [z]; exact Nat.le_add_right _ _
        · rw [z]; exact Nat.le_refl _
      exact I1.fpOk hle (I1.hok.fresh hle)
    rcases q1 with ⟨hq, q⟩ | ⟨hq, q⟩
    · obtain ⟨its, rv, p', hz⟩ := I1.list hq
      have hal : a < s1.heap.objs.size := p'.lt
      refine call_enumerate_list p'.isList fun h' he hit hsz hk => wpAny_pyIter_enum he ?_
      have I2 : Inv X pins σ H1 { s1 with heap := h' } := I1.kept (t' := s1.toks) hk
      exact ⟨s1.heap.objs.size + 1, [s1.heap.objs.size + 1, s1.heap.objs.size], _, _, H1, rfl, I2, turn_enumK (k := false) a (s1.heap.objs.size + 1) s1.heap.objs.size (Nat.ne_of_lt (Nat.lt_succ_of_lt hal)) (Nat.ne_of_lt hal), ⟨⟨.none, he⟩, hit, Nat.succ_ne_self _⟩, fun b hb => fin b (by simpa using hb), q⟩
    · obtain ⟨its, rv, p', hz⟩ := I1.tuple hq
      have hal : a < s1.heap.objs.size := p'.lt
      refine pd_call_enumT p' fun h' he hit hsz hk => wpAny_pyIter_enum he ?_
      have I2 : Inv X pins σ H1 { s1 with heap := h' } := I1.kept (t' := s1.toks) hk
      exact ⟨s1.heap.objs.size + 1, [s1.heap.objs.size + 1, s1.heap.objs.size], _, _, H1, rfl, I2, turn_enumK (k := true) a (s1.heap.objs.size + 1) s1.heap.objs.size (Nat.ne_of_lt (Nat.lt_succ_of_lt hal)) (Nat.ne_of_lt hal), ⟨⟨.none, he⟩, hit, Nat.succ_ne_self _⟩, fun b hb => fin b (by simpa using hb), q⟩
end Pd

set_option maxRecDepth 100000
set_option maxHeartbeats 4000000
namespace Pd
open PySem L2
open Evl (Ex)
open PyProof.Rows (envOfC)
/-! ### list.count of flat things -/
section
variable {X : Cx}
def rCntF (K : PySem.W.Frag) : V → List V → Hp → VK → Prop := fun x xs H Q => ∃ (p : Addr) (ys : List V) (y : V), x = .ref p ∧ xs = [y] ∧ SqL K H p ys ∧ flatV y = true ∧ ys.all flatV = true ∧ Q (.int (ys.countP fun z => eqV z y : Nat)) H
theorem count_eqU {x : V} : ∀ {xs : List V} {us : List Value}, Vals xs us → xs.all flatV = true → us.countP (eqU x) = xs.countP fun y => eqV y x
  | _, _, .nil, _ => rfl
  | y :: xs, u :: us, .cons r t, f => by
    rw [List.all_cons, Bool.and_eq_true] at f
    rw [List.countP_cons, List.countP_cons, eqU_of r f.1, count_eqU t f.2]
theorem mt_countF : MtR X "list.count" (rCntF X.K) := by
  intro pins s σ H x xs v us Q I rx rxs h
  obtain ⟨p, ys, y, rfl, rfl, hs, fy, fs, q⟩ := h
  cases rx
  cases rxs with
  | cons ru rr =>
    cases rr
    obtain ⟨its, rv, ⟨⟨cls, dd, data, sl⟩, n, ho, hc, hdn, hd⟩, hlen⟩ := I.list hs
    simp only at hc hd
    subst hc hd
    refine PySem.call_meets PySem.F.slot_list_count ⟨_, ho, rfl⟩ PySem.F.entry_list_count (PySem.F.args_list_count_2 _ _)
      (SeqAt.list_countAt p its.toArray n dd sl _ (eqU y)) ⟨ho, fun w hw => mem_eqAt ru fy rv fs w (by simpa using hw), ?_⟩
    have ec : its.toArray.toList.countP (eqU y) = ys.countP fun z => eqV z y := by
      simpa using count_eqU rv fs
    refine ⟨.int (ys.countP fun z => eqV z y : Nat), H, I.tok _, ⟨s.toks, ?_⟩, q⟩
    show Value.int ((its.toArray.toList.countP (eqU y) : Nat) : Int) s.toks = Value.int ((ys.countP fun z => eqV z y : Nat) : Int) s.toks
    rw [ec]
end
def optD : Option Int → PyData
  | none => .none
  | some i => .int i
def optV : Option Int → V
  | none => .non
  | some i => .int i
theorem dt_opt {F : Hp} {v : V} {o : Option Int} (h : Dt F v (optD o)) : v = optV o := by
  cases o with
  | none => cases h; rfl
  | some i => cases h; rfl
theorem dta_opts {F : Hp} : ∀ {vs : List V} {os : List (Option Int)}, DtA F vs (os.map optD) → vs = os.map optV
  | _, [], h => by cases h; rfl
  | _, o :: os, h => by
    cases h with
    | cons h1 h2 =>
      rw [dt_opt h1, dta_opts h2]
      rfl
theorem flat_opt (o : Option Int) : flatV (optV o) = true := by cases o <;> rfl
theorem flat_opts : ∀ os : List (Option Int), (os.map optV).all flatV = true
  | [] => rfl
  | o :: os => by
    rw [List.map_cons, List.all_cons, flat_opt, flat_opts os]
    rfl
theorem eqV_opt (a b : Option Int) : eqV (optV a) (optV b) = decide (a = b) := by
  cases a <;> cases b
  · rfl
  · rfl
  · rfl
  · rename_i x y
    show (x == y) = decide (some x = some y)
    rw [Bool.eq_iff_iff]
    simp
theorem count_opts (o : Option Int) : ∀ os : List (Option Int), (os.map optV).countP (fun z => eqV z (optV o)) = os.count o
  | [] => rfl
  | a :: os => by
    rw [List.map_cons, List.countP_cons, count_opts o os, List.count_cons, eqV_opt]
    congr 1
    by_cases h : a = o
    · simp [h]
    · simp [h]
def dCnt (da db : DE) : DE := fun env Q => da env fun d => ∃ os : List (Option Int), d = .list (os.map optD) ∧ db env fun y => ∃ o : Option Int, y = optD o ∧ Q (.int (os.count o : Nat))
section
variable {X : Cx} {a b c e : Expr} {es : List Expr} {ta tb te tc : TE} {tA tB' : TT} {da db dc dd : DE} {dn dm : DN} {dt du : DT} {pos apos cpos : Pos} {tA1 : TA}
theorem ped_count (ha : PEr X a ta da) (hb : PEr X b tb db)
    (hbase : attributeBase a "count" X.env (eval a X.env) = eval a X.env := by rfl)
    (hfew : ((backTo cpos (starEach [b] X.env)).all (fun x => !x.1) && (backToKw cpos (keywordEach [] X.env)).all (fun x => x.1.isSome)
      && decide ([b].length + ([] : List Keyword).length + (if ([] : List Keyword).isEmpty then 0 else 1) < 30)) = true := by rfl)
    (hline : (apos.endLine == cpos.line) = true := by rfl) (hs : starEach [b] X.env = (false, eval b X.env) :: starEach [] X.env := by rfl) (hplain : (backTo cpos (starEach [] X.env)).any (·.1) = false := by rfl) :
    PEd X (.Call (.Attribute a "count" apos) [b] [] cpos) (tBM X.K "list" (rCntF X.K) ta (tCons tb tNil)) (dCnt da db) := ⟨pe_bm PySem.F.plainAttrs_list PySem.F.slot_list_count PySem.F.type_list_count mt_countF ha.pe (pa_cons hb.pe pa_nil hs) hbase hfew hline hs hplain, fun B F H σ env Q Qv n q k =>
  ha.s B F H σ env _ _ n q fun v d F1 H1 ⟨os, ed, q1⟩ e1 n1 r1 => by
    subst ed
    obtain ⟨l, vs, rfl, h1, h2⟩ := (r1.rb n1).list n1.g.fh
    refine ⟨.inl ⟨rfl, vs, SqL.of h1⟩, hb.s B F1 H1 σ env _ _ n1 q1 fun w f F2 H2 ⟨o, ef, q2⟩ e2 n2 r2 => ?_⟩
    subst ef
    obtain ⟨l', vs', el, h1', h2'⟩ := ((r1.up e2).rb n2).list n2.g.fh
    cases el
    have ev := dta_opts h2'
    subst ev
    have ew : w = optV o := by
      rcases r2 with r2 | ⟨_, _, _, _, z⟩
      · exact dt_opt r2
      · cases o <;> cases z
    subst ew
    refine ⟨_, _, _, rfl, rfl, SqL.of h1', flat_opt o, flat_opts os, ?_⟩
    rw [count_opts]
    exact k _ _ _ _ q2 (e1.trans e2) n2 (.int _)⟩
/-! ### tests that chain -/
theorem ptd_chain {op op' : CmpOp} {r r' : R2} {o o' : PyData → PyData → (PyData → Prop) → Prop} (ho : OpR X (compareOp op) r) (hd : OpD r o) (ho' : OpR X (compareOp op') r') (hd' : OpD r' o') (ha : PEr X a ta da) (hb : PEr X b tb db) (hc : PEr X c tc dc)
    (hm : lastMarks [op, op'] [b, c] = false := by with_unfolding_all rfl) : PTd X (.Compare a [op, op'] [b, c] pos) (tTest (tChain r r' ta tb tc)) (dTest (dChain o o' da db dc)) := ⟨pt_chain ho ho' ha.pe hb.pe hc.pe hm, st_test (sd_chain hd hd' ha.s hb.s hc.s)⟩
/-! ### a slice of a list or a tuple, frozen -/
def dSl (da : DE) (lo hi : DO) : DE := fun env Q => da env fun d => lo env fun l => hi env fun u => match d with
  | .list ds => Q (.list (cutD ds l u))
  | _ => False
def rSlB (K : PySem.W.Frag) : V → Option Int → Option Int → Hp → VK → Prop := fun x lo hi H Q => rSlL K x lo hi H Q
variable {lo hi : Option Expr} {tl th : TO} {dl dh : DO} {p2 : Pos}
theorem ped_sl (ha : PEr X a ta da) (hl : POd X lo tl dl) (hh : POd X hi th dh) : PEd X (.Subscript a (.Slice lo hi none p2) pos) (tSl (rSlB X.K) ta tl th) (dSl da dl dh) := ⟨pe_slice sl_list ha.pe hl.po hh.po, fun B F H σ env Q Qv n q k =>
  ha.s B F H σ env _ _ n q fun v d F1 H1 q1 e1 n1 r1 => hl.s B F1 H1 σ env _ _ n1 q1 fun l F2 H2 q2 e2 n2 => hh.s B F2 H2 σ env _ _ n2 q2 fun u F3 H3 q3 e3 n3 => by
    have e13 := e1.trans (e2.trans e3)
    cases d with
    | list ds =>
      obtain ⟨a', vs, rfl, h1, h2⟩ := ((r1.up (e2.trans e3)).rb n3).list n3.g.fh
      refine ⟨a', vs, rfl, SqL.of h1, fun p hp => ?_⟩
      have g : Gro F3 H3 (upd F3 p (.lst (cutV vs l u))) (upd H3 p (.lst (cutV vs l u))) := .new hp
      exact k _ _ _ _ q3 (e13.trans (g.ex n3.g.fh)) (n3.gro g) (.lst upd_same ((h2.cut l u).up (g.ex n3.g.fh)))
    | _ => exact q3.elim⟩
/-! ### enumerate of a list or a tuple -/
def itEn (dn : DN) : DN := fun env Q => dn env fun ds' => ∃ d ds, ds' = [d] ∧ seqD d = some ds ∧ Q (enumD 0 ds)
theorem pid_enum {p tpos : Pos} {elts : List Expr} {kk : Nat} (hg : Gl X "enumerate") (hm : X.mg "enumerate" = none) (h : PAf X [a] tA1 dn) (hs : starEach [a] X.env = [(false, eval a X.env)] := by rfl) : PId X (.Tuple elts kk tpos) (.Call (.Name "enumerate" p) [a] [] pos) (iEnumT X.K tA1) (itEn dn) := ⟨pi_enumA hg hm h.pa hs, fun B F H σ env Q R n q k =>
  h.s B F H σ env _ _ n q fun vs ds F' H' ⟨d', ds', ed, hd', q'⟩ e' n' r' => by
    subst ed
    cases r' with
    | cons r1 r2 =>
      cases r2
      cases r1 with
      | @lst l ws dss h1 h2 =>
        cases hd'
        refine ⟨l, ws, rfl, .inl ⟨SqL.of (n'.g.fh _ _ h1), k _ _ F' H' q' e' n' fun F2 H2 e2 eh => ⟨⟨ws, SqL.of (eh _ _ (e2 _ _ h1)), ?_⟩, fun i d hi => ?_⟩⟩⟩
        · rw [enumD_len, h2.len]
        · rw [enumD_get] at hi
          cases hd : ds'[i]? with
          | none =>
            rw [hd] at hi
            cases hi
          | some z =>
            rw [hd] at hi
            cases hi
            obtain ⟨v, hv, tv⟩ := (h2.up e2).get hd
            refine ⟨⟨ws, v, SqL.of (eh _ _ (e2 _ _ h1)), hv⟩, fun x H'' ⟨T, y, ex, hT, ⟨o, ho, eH⟩, hy⟩ => ?_⟩
            have := hy ws (SqL.of (eh _ _ (e2 _ _ h1)))
            rw [hv] at this
            cases this
            subst ex
            subst eH
            have g : Gro F2 H2 (upd F2 T (.frz o (.tup [.int (i : Nat), v]))) (upd H2 T (.frz o (.tup [.int (i : Nat), v]))) := .new hT
            refine ⟨_, g, .tup (.new ho) (.cons ?_ (.cons (tv.up (g.ex eh)) .nil))⟩
            rw [Nat.zero_add]
            exact .int _
      | @tup l ws dss h1 h2 =>
        cases hd'
        refine ⟨l, ws, rfl, .inr ⟨h1.sq n'.g.fh, k _ _ F' H' q' e' n' fun F2 H2 e2 eh => ⟨⟨ws, (h1.up e2).sq eh, ?_⟩, fun i d hi => ?_⟩⟩⟩
        · rw [enumD_len, h2.len]
        · rw [enumD_get] at hi
          cases hd : ds'[i]? with
          | none =>
            rw [hd] at hi
            cases hi
          | some z =>
            rw [hd] at hi
            cases hi
            obtain ⟨v, hv, tv⟩ := (h2.up e2).get hd
            refine ⟨⟨ws, v, (h1.up e2).sq eh, hv⟩, fun x H'' ⟨T, y, ex, hT, ⟨o, ho, eH⟩, hy⟩ => ?_⟩
            have := hy ws ((h1.up e2).sq eh)
            rw [hv] at this
            cases this
            subst ex
            subst eH
            have g : Gro F2 H2 (upd F2 T (.frz o (.tup [.int (i : Nat), v]))) (upd H2 T (.frz o (.tup [.int (i : Nat), v]))) := .new hT
            refine ⟨_, g, .tup (.new ho) (.cons ?_ (.cons (tv.up (g.ex eh)) .nil))⟩
            rw [Nat.zero_add]
            exact .int _
      | _ => cases hd'⟩

/-! ### the statements' front -/
variable {st : Stmt} {sts sts2 : List Stmt} {ts us : TS} {d u : DS} {g : TG} {gs : TGs} {dg : DG} {dgs : DGs} {vs vs1 vs2 : List Nat} {wi : TI} {it : DN}
theorem qs_expr (h : PEd X e te dd) (hs : swapsWith e none pos.line X.env = pure false := by rfl) : PSd X (.Expr e pos) (tDrop te) (dDrop dd) := psd_expr h (ps_expr h.pe hs)
theorem qs_ret (h : PEd X e te dd) : PSd X (.Return (some e) pos) (tRet te) (dRet dd) := psd_ret h (ps_ret h.pe)
theorem qs_retN (h : PEn X e te dn) : PSd X (.Return (some e) pos) (tRet te) (dRetN dn) := psd_retN h (ps_ret h.pe)
theorem qs_retO (i : Nat) (h : PE X e (tVar i)) : PSd X (.Return (some e) pos) (tRet (tVar i)) (dRetO i) := psd_retO i (ps_ret h)
theorem qs_ret0 : PSd X (.Return none pos) tRetN dRet0 := psd_ret0 ps_retN
theorem qs_if (hc : PTd X c tA dt) (h1 : PSsd X sts ts d) (h2 : PSsd X sts2 us u) : PSd X (.If c sts sts2 pos) (tIfS tA ts us) (dIfS dt d u) := psd_if hc h1 h2 (ps_if hc.pt h1.ps h2.ps)
theorem qs_for {tg iter : Expr} {body : List Stmt} (hp : PassesOwn (model X.prog X.w) X.A X.env X.xe) (hc : X.calm = true) (hi : PId X tg iter wi it) (hg : PGd X tg g dg vs) (hb : PSsd X body ts d) (hs : ∀ x, foldedSetIterable iter X.env x = pure x := by intro _; rfl) : PSd X (.For tg iter body [] pos) (tFor wi g ts) (dFor it dg d) := psd_for hi hg hb (ps_for hp hc hi.pi hg.pg hb.ps hs)
theorem qs_while {body : List Stmt} (hp : PassesOwn (model X.prog X.w) X.A X.env X.xe) (hc : PTd X c tA dt) (hb : PSsd X body ts d) : PSd X (.While c body [] pos) (tWhile tA ts) (dWhile dt d) := psd_while hc hb (ps_while hp hc.pt hb.ps)
theorem qs_set {i : Nat} {x : Str} {pos' : Pos} (hN : X.N.Nodup) (hi : X.N[i]? = some x) (hx : Loc X.env.scope x) (he : PEd X e te dd) (hs : swapsWith e (some (.Name x pos')) pos.line X.env = pure false := by rfl) (hf : X.fn x = true ∨ X.env.scope.names.lookup x = some .local := by first | exact .inl rfl | exact .inr rfl | assumption) :
    PSd X (.Assign [.Name x pos'] e pos) (tAsg te (gName i)) (dAsgG dd (gdName i)) := psd_asg he (sg_name i) (ps_set hN hi hx he.pe hs hf)
theorem qs_setN {i : Nat} {x : Str} {pos' : Pos} (hN : X.N.Nodup) (hi : X.N[i]? = some x) (hx : Loc X.env.scope x) (he : PEn X e te dn) (hs : swapsWith e (some (.Name x pos')) pos.line X.env = pure false := by rfl) (hf : X.fn x = true ∨ X.env.scope.names.lookup x = some .local := by first | exact .inl rfl | exact .inr rfl | assumption) :
    PSd X (.Assign [.Name x pos'] e pos) (tAsg te (gName i)) (dAsgN dn i) := psd_asgN he (ps_set hN hi hx he.pe hs hf)
theorem qs_asg {tg : Expr} (he : PEd X e te dd) (hg : PGd X tg g dg vs) (hs : swapsWithSole [tg] e pos.line X.env = pure false := by rfl) (hw : swappedStores [tg] e X.env = pure none := by rfl)
    (h1 : (assignEach [tg] X.env).map (·.2) = [assign tg X.env] := by rfl) : PSd X (.Assign [tg] e pos) (tAsg te g) (dAsgG dd dg) := psd_asg he hg.s (ps_asg he.pe hg.pg hs hw h1)
theorem qg_name {i : Nat} {x : Str} (hN : X.N.Nodup) (hi : X.N[i]? = some x) (hx : Loc X.env.scope x) (hf : X.fn x = true ∨ X.env.scope.names.lookup x = some .local := by first | exact .inl rfl | exact .inr rfl | assumption) : PGd X (.Name x pos) (gName i) (gdName i) [i] := pgd_name i (pg_name hN hi hx hf)
theorem qg_cons (h1 : PGd X e g dg vs1) (h2 : PGsd X es gs dgs vs2) (hs : (assignEach (e :: es) X.env).map (·.2) = assign e X.env :: (assignEach es X.env).map (·.2) := by rfl) : PGsd X (e :: es) (gCons g gs) (gdCons dg dgs) (vs1 ++ vs2) := ⟨pgs_cons h1.pg h2.pg hs, sgs_cons h1.s h2.s⟩
theorem qg_tup {k n : Nat} (hc : X.calm = true) (h : PGsd X es gs dgs vs) (hn : (assignEach es X.env).length = n := by rfl) (hst : (assignEach es X.env).findIdx? (·.1) = none := by rfl) : PGd X (.Tuple es k pos) (gTup X.K n gs) (gdTup n dgs) vs := ⟨pg_tup hc h.pg hn hst, sg_tup h.s⟩
theorem qs_app {i : Nat} {o : Expr} (ho : PE X o (tVar i)) (h : PEd X e te dd)
    (hbase : attributeBase o "append" X.env (eval o X.env) = eval o X.env := by rfl)
    (hfew : ((backTo cpos (starEach [e] X.env)).all (fun x => !x.1) && (backToKw cpos (keywordEach [] X.env)).all (fun x => x.1.isSome)
      && decide ([e].length + ([] : List Keyword).length + (if ([] : List Keyword).isEmpty then 0 else 1) < 30)) = true := by rfl)
    (hline : (apos.endLine == cpos.line) = true := by rfl) (hs : starEach [e] X.env = (false, eval e X.env) :: starEach [] X.env := by rfl) (hplain : (backTo cpos (starEach [] X.env)).any (·.1) = false := by rfl)
    (hsw : swapsWith (.Call (.Attribute o "append" apos) [e] [] cpos) none pos.line X.env = pure false := by rfl) :
    PSd X (.Expr (.Call (.Attribute o "append" apos) [e] [] cpos) pos) (tDrop (tBM X.K "list" rAppend (tVar i) (tCons te tNil))) (dApp i dd) := psd_app h (ps_expr (pe_bm PySem.F.plainAttrs_list PySem.F.slot_list_append PySem.F.type_list_append mt_append ho (pa_cons h.pe pa_nil hs) hbase hfew hline hs hplain) hsw)
theorem qs_setI {i : Nat} {o x : Expr} {ti : TE} {di : DE} {p : Pos} (ho : PE X o (tVar i)) (hi : PEd X x ti di) (h : PEd X e te dd) (hp : PSet X rSetL → PS X (.Assign [.Subscript o x p] e pos) (tAsg te (gSub (tVar i) ti rSetL))) : PSd X (.Assign [.Subscript o x p] e pos) (tAsg te (gSub (tVar i) ti rSetL)) (dSetI i di dd) := psd_setI h hi (hp set_list)
/-! y = [comprehension] -/
section
variable {elt tg iter : Expr} {ifs : List Expr} {scope : Scope} {own : List (Str × Nat)} {spos : Pos} {vs' : List Nat} {tt : TT}
theorem qs_lc {i : Nat} {y : Str} {py : Pos} (hc : X.calm = true) (hN : X.N.Nodup) (hy : X.N[i]? = some y) (hyl : X.env.scope.names.lookup y = some .local)
    (hsw : swapsWith (.ListComp elt [⟨tg, iter, ifs, 0⟩] scope pos) (some (.Name y py)) spos.line X.env = pure true) (hi : PId X tg iter wi it) (ok : BlkOk X.N X.env.scope scope own)
    (hg : ∀ (s : Shared) (H : Hp) (C : Addr) (cl : List (Str × Addr)) (fp : List Addr), PGd (X.blk s H scope (compEnvC scope cl C X.env) fp) tg g dg vs') (hv : ∀ i ∈ vs', i ∈ own.map (·.2)) (ht : ∀ (s : Shared) (H : Hp) (C : Addr) (cl : List (Str × Addr)) (fp : List Addr), PTsd (X.blk s H scope (compEnvC scope cl C X.env) fp) ifs tt dt)
    (he : ∀ (s : Shared) (H : Hp) (C : Addr) (cl : List (Str × Addr)) (fp : List Addr), PEd (X.blk s H scope (compEnvC scope cl C X.env) fp) elt te dd) (hs : ∀ x, foldedSetIterable iter X.env x = pure x := by intro _; rfl) :
    PSd X (.Assign [.Name y py] (.ListComp elt [⟨tg, iter, ifs, 0⟩] scope pos) spos) (tAsg (tLc wi g tt te (own.map (·.2))) (gName i)) (dAsgG (dFr (nLc it dg dt dd (own.map (·.2)))) (gdName i)) :=
  ⟨ps_setLc hc hN hy hyl hsw hi.pi ok (fun s H C cl fp => (hg s H C cl fp).pg) (fun s H C cl fp => (ht s H C cl fp).pt) (fun s H C cl fp => (he s H C cl fp).pe) hs,
    ss_asgF (sn_lc hi.s (hg ({} : Shared) (fun _ => none) 0 [] []).s hv (ht ({} : Shared) (fun _ => none) 0 [] []).s (he ({} : Shared) (fun _ => none) 0 [] []).s)⟩
theorem qs_lcN {i : Nat} {y : Str} {py : Pos} (hc : X.calm = true) (hN : X.N.Nodup) (hy : X.N[i]? = some y) (hyl : X.env.scope.names.lookup y = some .local)
    (hsw : swapsWith (.ListComp elt [⟨tg, iter, ifs, 0⟩] scope pos) (some (.Name y py)) spos.line X.env = pure true) (hi : PId X tg iter wi it) (ok : BlkOk X.N X.env.scope scope own)
    (hg : ∀ (s : Shared) (H : Hp) (C : Addr) (cl : List (Str × Addr)) (fp : List Addr), PGd (X.blk s H scope (compEnvC scope cl C X.env) fp) tg g dg vs') (hv : ∀ i ∈ vs', i ∈ own.map (·.2)) (ht : ∀ (s : Shared) (H : Hp) (C : Addr) (cl : List (Str × Addr)) (fp : List Addr), PTsd (X.blk s H scope (compEnvC scope cl C X.env) fp) ifs tt dt)
    (he : ∀ (s : Shared) (H : Hp) (C : Addr) (cl : List (Str × Addr)) (fp : List Addr), PEd (X.blk s H scope (compEnvC scope cl C X.env) fp) elt te dd) (hs : ∀ x, foldedSetIterable iter X.env x = pure x := by intro _; rfl) :
    PSd X (.Assign [.Name y py] (.ListComp elt [⟨tg, iter, ifs, 0⟩] scope pos) spos) (tAsg (tLc wi g tt te (own.map (·.2))) (gName i)) (dAsgN (nLc it dg dt dd (own.map (·.2))) i) :=
  ⟨ps_setLc hc hN hy hyl hsw hi.pi ok (fun s H C cl fp => (hg s H C cl fp).pg) (fun s H C cl fp => (ht s H C cl fp).pt) (fun s H C cl fp => (he s H C cl fp).pe) hs,
    ss_asgN (sn_lc hi.s (hg ({} : Shared) (fun _ => none) 0 [] []).s hv (ht ({} : Shared) (fun _ => none) 0 [] []).s (he ({} : Shared) (fun _ => none) 0 [] []).s)⟩
end
/-! a, b = x, [] and the like: lists of one's own on the right -/
def dParDE (i j : Nat) (t : DE) : DS := fun D env => t env fun d => D.nx ((env.set i (some (.dat d))).set j (some (.own [])))
def dParNE (i j : Nat) (t : DN) : DS := fun D env => t env fun ds => D.nx ((env.set i (some (.own ds))).set j (some (.own [])))
theorem psd_parDE {i j : Nat} (h : Sd te dd) (hp : PS X st (tPar i j (tCons te (tCons (tLst tNil) tNil)))) : PSd X st (tPar i j (tCons te (tCons (tLst tNil) tNil))) (dParDE i j dd) := ⟨hp, fun B F H σ env D Dd n k q =>
  h B F H σ env _ _ n q fun v d F' H' q' e' n' t' => ⟨Nat.zero_le _, fun p hp => by
    have n2 := n'.setD (i := i) t'
    obtain ⟨f1, f2⟩ := Fresh.of n2 hp DtA.nil
    exact ⟨_, _, rfl, k.nx F' _ _ _ e' (f2.setN f1) q'⟩⟩⟩
theorem psd_parNE {i j : Nat} (h : Sn te dn) (hp : PS X st (tPar i j (tCons te (tCons (tLst tNil) tNil)))) : PSd X st (tPar i j (tCons te (tCons (tLst tNil) tNil))) (dParNE i j dn) := ⟨hp, fun B F H σ env D Dd n k q =>
  h B F H σ env _ _ n q fun l vs ds F' H' q' e' n' f => ⟨Nat.zero_le _, fun p hp => by
    have n2 := n'.setN (i := i) f
    obtain ⟨f1, f2⟩ := Fresh.of n2 hp DtA.nil
    exact ⟨_, _, rfl, k.nx F' _ _ _ e' (f2.setN f1) q'⟩⟩⟩
end
end Pd

set_option maxRecDepth 100000
set_option maxHeartbeats 4000000
/-! The script's cells, bags of draws, and a law that goes through its bags. -/
namespace Pd
open PySem L2
open Evl (Ex)
open PyProof.Rows (envOfC)

/-! ### a cell of the script -/
def spCell (K : PySem.W.Frag) : Sp := fun vs H Q _ => ∃ (a : Addr) (ns : List Int) (k : Int), vs = [.ref a, .int k] ∧ SqL K H a (ns.map V.int) ∧ 0 ≤ k ∧ ∀ c : Int, Q (.int c) H
def tCell (K : PySem.W.Frag) : TS := tSeq (tIfS (tTest (tOp (rI0 fun i j => .bl (decide (i < j))) (tVar 1) (tCB (rLenQ K) (tCons (tVar 0) tNil)))) (tRet (tOp (rIxL K) (tVar 0) (tVar 1))) tNext) (tRet (tC (.int 0)))
theorem rd_cell {K : PySem.W.Frag} {vs : List V} {H : Hp} {Q : VK} {E : XK} (h : spCell K vs H Q E) : tCell K { nx := fun _ H' => Q .non H', rt := Q } (L2.start ["script", "k"] vs) H := by
  obtain ⟨a, ns, k, rfl, hS, h0, q⟩ := h
  refine ⟨_, rfl, _, rfl, a, _, rfl, .inl hS, k, _, rfl, rfl, _, rfl, ?_⟩
  refine ite2 (fun hk => ?_) (fun _ => q 0)
  have hk' : k < ((ns.map V.int).length : Int) := of_decide_eq_true hk
  rw [List.length_map] at hk'
  have hlt : k.toNat < ns.length := by omega
  refine ⟨_, rfl, _, rfl, a, _, k, .int ns[k.toNat], rfl, rfl, hS, at_of (j := k.toNat) (by omega) ?_, q _⟩
  rw [List.getElem?_map, List.getElem?_eq_getElem hlt]
  rfl

/-! ### draws: plain data -/
def spDraws : DSp := fun svs R => ∃ c : Int, svs = [.dat (.int c), .dat (.int 400), .dat (.int 1000)] ∧ ∀ ns : List Int, ns.length = 400 → (∀ x ∈ ns, 0 ≤ x ∧ x < 1000) → R (.new (ns.map .int))

/-! ### a bag, bags -/
def NewBag (H H' : Hp) (b : Addr) : Prop := H b = none ∧ ∃ (l : Addr) (ns : List Int), H l = none ∧ l ≠ b ∧ H' b = some (.lst [.ref l, .int 0]) ∧ H' l = some (.lst (ns.map V.int)) ∧ ns.length = 400 ∧ ∀ x ∈ ns, 0 ≤ x ∧ x < 1000
def spBag (K : PySem.W.Frag) : Sp := fun vs H Q _ => ∃ (a : Addr) (ns : List Int) (k : Int), vs = [.ref a, .int k] ∧ SqL K H a (ns.map V.int) ∧ 0 ≤ k ∧ ∀ (b : Addr) (H' : Hp), Ex H H' → NewBag H H' b → Q (.ref b) H'
def tBag (K : PySem.W.Frag) : TS := tRet (tLst (tCons (tCall (lift spDraws) [] E0 (tCons (tCall (spCell K) [] E0 (tCons (tVar 0) (tCons (tVar 1) tNil))) (tCons (tC (.int 400)) (tCons (tC (.int 1000)) tNil)))) (tCons (tC (.int 0)) tNil)))
theorem rd_bag {K : PySem.W.Frag} {vs : List V} {H : Hp} {Q : VK} {E : XK} (h : spBag K vs H Q E) : tBag K { nx := fun _ H' => Q .non H', rt := Q } (L2.start ["script", "k"] vs) H := by
  obtain ⟨a, ns, k, rfl, hS, h0, q⟩ := h
  refine ⟨_, rfl, _, rfl, a, ns, k, rfl, hS, h0, fun c => ?_⟩
  refine ⟨fun _ => none, fun _ => False, [.dat (.int c), .dat (.int 400), .dat (.int 1000)], fun r => ∃ ns : List Int, ns.length = 400 ∧ (∀ x ∈ ns, 0 ≤ x ∧ x < 1000) ∧ r = .new (ns.map .int), (fun _ _ z => nomatch z), .cons (Dt.int c) (.cons (Dt.int 400) (.cons (Dt.int 1000) .nil)), fun _ z => False.elim z, ⟨c, rfl, fun ns h1 h2 => ⟨ns, h1, h2, rfl⟩⟩, ?_⟩
  rintro v r F' H' ⟨ms, h1, h2, rfl⟩ g ⟨l, vs, rfl, hl, hF, hl', hd⟩
  have ev := hd.ints
  subst ev
  refine ⟨by show 2 ≤ sizeLine; decide, fun b hb => ?_⟩
  have e1 : Ex H H' := fun x o hx => g.keep x o (fun z => z) hx
  have hlb : l ≠ b := ne_of_none hl' hb
  refine q b _ (e1.trans (Ex.new hb)) ⟨Ex.none e1 hb, l, ms, hl, hlb, upd_same, ?_, h1, h2⟩
  rw [upd_ne hlb]
  exact hl'
def BagsAt (H H' : Hp) (bs : List Addr) : Prop := bs.Nodup ∧ ∀ b ∈ bs, NewBag H H' b
def spBags (K : PySem.W.Frag) : Sp := fun vs H Q _ => ∃ (a : Addr) (ns : List Int) (lim : Int), vs = [.ref a, .int lim] ∧ SqL K H a (ns.map V.int) ∧ 0 ≤ lim ∧ lim ≤ 63 ∧ ∀ (D : Addr) (bs : List Addr) (H' : Hp), Ex H H' → H' D = some (.lst (bs.map V.ref)) → D ∉ bs → BagsAt H H' bs → Q (.ref D) H'
def rMax2Q : List V → Hp → VK → Prop := fun xs H Q => ∃ i j, xs = [.int i, .int j] ∧ Q (.int (if j > i then j else i)) H
def rMin2Q : List V → Hp → VK → Prop := fun xs H Q => ∃ i j, xs = [.int i, .int j] ∧ Q (.int (if j < i then j else i)) H
def tBags (K : PySem.W.Frag) : TS := tRet (tLc (iRng1 (tCons (tCB rMax2Q (tCons (tC (.int 1)) (tCons (tCB rMin2Q (tCons (tVar 1) (tCons (tCB (rLenQ K) (tCons (tVar 0) tNil)) tNil))) tNil))) tNil)) (gName 2) tYes (tCall (spBag K) [] E0 (tCons (tVar 0) (tCons (tVar 2) tNil))) [2])
theorem NewBag.up {H H' H'' : Hp} {b : Addr} (h : NewBag H H' b) (e : Ex H' H'') : NewBag H H'' b := by
  obtain ⟨h1, l, ns, h2, h3, h4, h5, h6, h7⟩ := h
  exact ⟨h1, l, ns, h2, h3, e _ _ h4, e _ _ h5, h6, h7⟩
theorem NewBag.some {H H' : Hp} {b : Addr} (h : NewBag H H' b) : ∃ o, H' b = some o := by
  obtain ⟨h1, l, ns, h2, h3, h4, h5, h6, h7⟩ := h
  exact ⟨_, h4⟩
theorem rd_bags {K : PySem.W.Frag} {vs : List V} {H : Hp} {Q : VK} {E : XK} (h : spBags K vs H Q E) : tBags K { nx := fun _ H' => Q .non H', rt := Q } (L2.start ["script", "limit", "k"] vs) H := by
  obtain ⟨a, ns, lim, rfl, hS, h0, h63, q⟩ := h
  refine ⟨_, rfl, _, rfl, a, _, rfl, .inl hS, lim, _, rfl, 1, _, rfl, _, rfl, ?_, ?_, fun D hD => ?_⟩
  · split <;> split <;> omega
  · split <;> split <;> omega
  · refine lc_range (lo := 0) (fun i H' => ∃ bs : List Addr, Ex H H' ∧ H' D = some (.lst (bs.map V.ref)) ∧ bs.length = i ∧ D ∉ bs ∧ bs.Nodup ∧ ∀ b ∈ bs, NewBag H H' b) ⟨[], Ex.new hD, upd_same, rfl, by simp, List.nodup_nil, by simp⟩ ?_ ?_
    · rintro i H' hi ⟨bs, e, hD', hl, nD, nd, all⟩
      refine ⟨rfl, ?_⟩
      refine ⟨_, rfl, _, rfl, a, ns, _, rfl, Evl.ex_l e hS, by omega, fun b H2 e2 nb => ?_⟩
      have nbD : D ≠ b := ne_of_none hD' nb.1
      have hD2 : H2 D = Option.some (.lst (bs.map V.ref)) := e2 _ _ hD'
      have hi' : i < 63 := by
        have : (i : Nat) < _ := hi
        split at this <;> (try split at this) <;> omega
      refine ⟨_, hD2, ?_, bs ++ [b], (e.trans e2).mut hD, ?_, ?_, ?_, ?_, ?_⟩
      · rw [List.length_map, hl]
        exact Nat.lt_of_lt_of_le hi' (by decide)
      · rw [upd_same, List.map_append]
        rfl
      · rw [List.length_append, hl]
        rfl
      · rw [List.mem_append, not_or]
        exact ⟨nD, by simpa using nbD⟩
      · rw [List.nodup_append]
        refine ⟨nd, by simp, fun x hx y hy => ?_⟩
        have : y = b := by simpa using hy
        subst this
        obtain ⟨o, ho⟩ := (all x hx).some
        exact ne_of_none ho nb.1
      · intro x hx
        have up : ∀ {x : Addr} {H1 : Hp}, NewBag H1 H2 x → H1 D = none ∨ (∃ u, H1 D = Option.some u) → Ex H H1 → x ≠ D → NewBag H (upd H2 D (.lst (bs.map V.ref ++ [.ref b]))) x := by
          rintro x H1 ⟨h1, l, ms, h2, h3, h4, h5, h6, h7⟩ hD1 e1 hxD
          have hlD : l ≠ D := by
            intro z
            subst z
            rw [hD2] at h5
            have := (HO.lst.inj (Option.some.inj h5))
            cases bs with
            | nil =>
              have hz := congrArg List.length this
              rw [List.length_map, List.length_map, h6] at hz
              cases hz
            | cons x xs =>
              cases ms with
              | nil => cases this
              | cons m ms =>
                rw [List.map_cons, List.map_cons] at this
                cases this
          refine ⟨Ex.none e1 h1, l, ms, Ex.none e1 h2, h3, ?_, ?_, h6, h7⟩
          · rw [upd_ne hxD]
            exact h4
          · rw [upd_ne hlD]
            exact h5
        rcases List.mem_append.mp hx with hx | hx
        · exact up ((all x hx).up e2) (.inl hD) (Ex.refl H) (fun z => nD (z ▸ hx))
        · have : x = b := by simpa using hx
          subst this
          exact up nb (.inr ⟨_, hD'⟩) e nbD.symm
    · rintro H' ⟨bs, e, hD', hl, nD, nd, all⟩
      exact q D bs H' e hD' nD ⟨nd, all⟩

/-! ### a law that goes through its bags -/
def spLaw (K : PySem.W.Frag) : Sp := fun vs H Q _ => ∃ (a : Addr) (ns : List Int), vs = [.ref a] ∧ SqL K H a (ns.map V.int) ∧ ns.length ≤ 63 ∧ ∀ H', Q (.bl true) H'
def isTrue' : RVd → Prop := fun r => r = .dat (.bool true)
def blank (n : Nat) : Denv := List.replicate n none
def tLawFor (K : PySem.W.Frag) (lim : Int) (j : Nat) (tb : TS) : TS := tFor (iList K (tCall (spBags K) [] E0 (tCons (tVar 0) (tCons (tC (.int lim)) tNil)))) (gName j) tb
theorem rd_law0 {K : PySem.W.Frag} {N : List Str} {lim : Int} {j : Nat} {tb us : TS} {db dr : DS} (hb : Ss tb db) (hr : Ss us dr) (hj : j < N.length) (h0 : 0 ≤ lim) (h63 : lim ≤ 63)
    (rb : db { nx := fun env' => env'.length = N.length, ct := fun env' => env'.length = N.length, rt := isTrue' } ((blank N.length).set j (some .bag))) (rr : dr { nx := fun _ => False, rt := isTrue' } (blank N.length))
    {vs : List V} {H : Hp} {Q : VK} {E : XK} (h : spLaw K vs H Q E) (hN : 1 ≤ N.length) : tSeq (tLawFor K lim j tb) us { nx := fun _ H' => Q .non H', rt := Q } (L2.start N vs) H := by
  obtain ⟨a, ns, rfl, hS, hl, q⟩ := h
  have hst : (L2.start N [V.ref a])[0]? = some (some (V.ref a)) := by
    unfold L2.start
    rfl
  have hlen : (L2.start N [V.ref a]).length = N.length := by
    unfold L2.start
    rw [List.length_append, List.length_map, List.length_replicate]
    show 1 + (N.length - 1) = N.length
    omega
  refine ⟨_, hst, a, ns, lim, rfl, hS, h0, h63, fun D bs H1 e1 hD nD ⟨nd, all⟩ => ⟨D, rfl, ⟨_, SqL.of hD⟩, ?_⟩⟩
  have dec : ∀ x : Addr, x ∈ bs ∨ x ∉ bs := fun x => Classical.em _
  have retOk : ∀ {B : Bs} {F' H' : Hp} {v : V} {r : RVd}, ROk B F' H' v r → isTrue' r → Q v H' := by
    rintro B F' H' v r h1 rfl
    cases h1
    exact q H'
  refine for_list (K := K) (a := D) (xs := bs.map V.ref) (fun i σ H' => σ.length = N.length ∧ ∃ F, Ex F H' ∧ F D = some (.lst (bs.map V.ref)) ∧ ∀ k b, i ≤ k → bs[k]? = some b → F b = none ∧ BagAt F H' b) ?_ ?_ ?_ ?_
  · refine ⟨hlen, fun x => if x ∈ bs then none else H1 x, fun x o hx => ?_, ?_, fun k b _ hk => ?_⟩
    · have hx : (if x ∈ bs then none else H1 x) = some o := hx
      by_cases hm : x ∈ bs
      · rw [if_pos hm] at hx
        cases hx
      · rw [if_neg hm] at hx
        exact hx
    · show (if D ∈ bs then none else H1 D) = _
      rw [if_neg nD]
      exact hD
    · have hm : b ∈ bs := List.mem_of_getElem? hk
      refine ⟨if_pos hm, ?_⟩
      obtain ⟨h1, l, ms, h2, h3, h4, h5, h6, h7⟩ := all b hm
      refine ⟨l, 0, ms, h4, Int.le_refl 0, ?_, h6, h7⟩
      have hlm : l ∉ bs := fun z => by
        obtain ⟨_, l', ms', _, _, p4, _⟩ := all l z
        rw [h5] at p4
        have := HO.lst.inj (Option.some.inj p4)
        cases ms with
        | nil => cases this
        | cons m ms =>
          rw [List.map_cons] at this
          cases this
      show (if l ∈ bs then none else H1 l) = _
      rw [if_neg hlm]
      exact h5
  · rintro i σ H' _ ⟨_, F, e, hF, _⟩
    exact SqL.of (e _ _ hF)
  · rintro i x σ H' hi ⟨hl', F, e, hF, bags⟩
    obtain ⟨b, hb', rfl⟩ : ∃ b, bs[i]? = some b ∧ x = V.ref b := by
      rw [List.getElem?_map] at hi
      cases hz : bs[i]? with
      | none =>
        rw [hz] at hi
        cases hi
      | some b =>
        rw [hz] at hi
        cases hi
        exact ⟨b, rfl, rfl⟩
    obtain ⟨fb, bb⟩ := bags i b (Nat.le_refl i) hb'
    show tb _ (σ.set j (some (V.ref b))) H'
    have den : Den ⟨H', F, fun x => x = b⟩ F H' (σ.set j (some (V.ref b))) ((blank N.length).set j (some .bag)) := by
      refine ⟨Grow.start e fun x hx => by
        subst hx
        exact ⟨fb, bb⟩, ?_, fun k sv hk => ?_, fun k k' ds es l hk _ _ _ => ?_⟩
      · rw [List.length_set, List.length_set, hl']
        unfold blank
        rw [List.length_replicate]
      · rcases get_set hk with ⟨rfl, _, rfl⟩ | ⟨_, hk⟩
        · exact ⟨.ref b, List.getElem?_set_self (by rw [hl']; exact hj), b, rfl, rfl⟩
        · unfold blank at hk
          rw [List.getElem?_replicate] at hk
          split at hk <;> cases hk
      · rcases get_set hk with ⟨_, _, z⟩ | ⟨_, hk⟩
        · cases z
        · unfold blank at hk
          rw [List.getElem?_replicate] at hk
          split at hk <;> cases hk
    have nxt : ∀ {F' H2 : Hp} {σ' : St} {env' : Denv}, Den ⟨H', F, fun x => x = b⟩ F' H2 σ' env' → env'.length = N.length → σ'.length = N.length ∧ ∃ F, Ex F H2 ∧ F D = some (.lst (bs.map V.ref)) ∧ ∀ k b, i + 1 ≤ k → bs[k]? = some b → F b = none ∧ BagAt F H2 b := by
      intro F' H2 σ' env' n' hle
      refine ⟨n'.len ▸ hle, F', n'.g.fh, n'.g.bf _ _ hF, fun k c hk hc => ?_⟩
      obtain ⟨p1, p2⟩ := bags k c (by omega) hc
      have hcb : c ≠ b := fun z => by
        subst z
        have := nd_ix nd hb' hc
        omega
      obtain ⟨l, n, ms, b1, b2, b3, b4, b5⟩ := p2
      exact ⟨n'.g.nofr c _ b1 p1, l, n, ms, n'.g.keep c _ hcb b1, b2, n'.g.bf _ _ b3, b4, b5⟩
    exact hb _ F H' _ _ _ { nx := fun env' => env'.length = N.length, ct := fun env' => env'.length = N.length, rt := isTrue' } den ⟨fun F' H2 σ' env' _ n' hle => nxt n' hle, fun F' H2 v r _ _ h1 h2 => retOk h1 h2, fun _ _ _ _ _ _ z => False.elim z, fun F' H2 σ' env' _ n' hle => nxt n' hle⟩ rb
  · rintro σ H' ⟨hl', F, e, hF, _⟩
    refine hr ⟨H', F, fun _ => False⟩ F H' σ (blank N.length) _ { nx := fun _ => False, rt := isTrue' } ⟨Grow.start e fun _ z => False.elim z, ?_, fun k sv hk => ?_, fun k k' ds es l hk _ _ _ => ?_⟩ ⟨fun _ _ _ _ _ _ z => False.elim z, fun F' H2 v r _ _ h1 h2 => retOk h1 h2, fun _ _ _ _ _ _ z => False.elim z, fun _ _ _ _ _ _ z => False.elim z⟩ rr
    · unfold blank
      rw [List.length_replicate, hl']
    · unfold blank at hk
      rw [List.getElem?_replicate] at hk
      split at hk <;> cases hk
    · unfold blank at hk
      rw [List.getElem?_replicate] at hk
      split at hk <;> cases hk
theorem rd_law {K : PySem.W.Frag} (N : List Str) (n : Nat) (hn : N.length = n) (lim : Int) (j : Nat) {tb us : TS} {db dr : DS} (hb : Ss tb db) (hr : Ss us dr) (hj : j < n) (h0 : 0 ≤ lim) (h63 : lim ≤ 63) (hN : 1 ≤ n)
    (rb : db { nx := fun env' => env'.length = n, ct := fun env' => env'.length = n, rt := isTrue' } ((blank n).set j (some .bag))) (rr : dr { nx := fun _ => False, rt := isTrue' } (blank n))
    {vs : List V} {H : Hp} {Q : VK} {E : XK} (h : spLaw K vs H Q E) : tSeq (tFor (iList K (tCall (spBags K) [] E0 (tCons (tVar 0) (tCons (tC (.int lim)) tNil)))) (gName j) tb) us { nx := fun _ H' => Q .non H', rt := Q } (L2.start N vs) H := by
  subst hn
  exact rd_law0 hb hr hj h0 h63 rb rr h hN
end Pd

set_option maxRecDepth 100000
set_option maxHeartbeats 4000000
namespace Pd
open PySem L2
open Evl (Ex)
open PyProof.Rows (envOfC)
theorem un65 {k : Nat} {A : Around} (r : Room k A) : A.units + 65 < cLine := by
  have := r.un
  omega
section
variable {X : Cx} {a b c e : Expr} {es : List Expr} {ta tb te tc : TE} {tA tB' : TT} {da db dc dd : DE} {dn dm : DN} {dt du : DT} {pos apos cpos : Pos} {tA1 : TA}
theorem rs_setI {i : Nat} {o x : Expr} {ti : TE} {di : DE} {p : Pos} (ho : PE X o (tVar i)) (hi : PEd X x ti di) (h : PEd X e te dd)
    (ha : ∀ v, assign (.Subscript o x p) X.env v = (do
      let ov ← holding [v] (eval o X.env)
      let iv ← holding [v, ov] (eval x X.env)
      standAt p
      holding [v, ov, iv] (setItem ov iv v)
      release [v, ov, iv] []) := by intro _; rfl)
    (hs : swapsWithSole [.Subscript o x p] e pos.line X.env = pure false := by rfl) (hw : swappedStores [.Subscript o x p] e X.env = pure none := by rfl)
    (h1 : (assignEach [.Subscript o x p] X.env).map (·.2) = [assign (.Subscript o x p) X.env] := by rfl) :
    PSd X (.Assign [.Subscript o x p] e pos) (tAsg te (gSub (tVar i) ti rSetL)) (dSetI i di dd) := psd_setI h hi (ps_asg h.pe (pg_sub ho hi.pe set_list ha) hs hw h1)
section
variable {i j : Nat} {x y : Str} {px py pt : Pos} {kt k2 pt2}
theorem rs_par (hc : X.calm = true) (hN : X.N.Nodup) (hi : X.N[i]? = some x) (hj : X.N[j]? = some y) (hij : i ≠ j)
    (hx : X.env.scope.names.lookup x = some .local) (hy : X.env.scope.names.lookup y = some .local) (h : PAf X [a, b] tA1 dn)
    (hw : swappedStores [.Tuple [.Name x px, .Name y py] kt pt] (.Tuple [a, b] k2 pt2) X.env = pure (some [x, y]))
    (hs : swapsWithSole [.Tuple [.Name x px, .Name y py] kt pt] (.Tuple [a, b] k2 pt2) pos.line X.env = pure false := by rfl) :
    PSd X (.Assign [.Tuple [.Name x px, .Name y py] kt pt] (.Tuple [a, b] k2 pt2) pos) (tPar i j tA1) (dPar i j dn) := psd_par h (ps_par hc hN hi hj hij hx hy h.pa hw hs)
theorem rs_parDE {lp : Pos} (hc : X.calm = true) (hN : X.N.Nodup) (hi : X.N[i]? = some x) (hj : X.N[j]? = some y) (hij : i ≠ j)
    (hx : X.env.scope.names.lookup x = some .local) (hy : X.env.scope.names.lookup y = some .local) (h : PEd X a ta da)
    (hw : swappedStores [.Tuple [.Name x px, .Name y py] kt pt] (.Tuple [a, .List [] lp] k2 pt2) X.env = pure (some [x, y]))
    (hs : swapsWithSole [.Tuple [.Name x px, .Name y py] kt pt] (.Tuple [a, .List [] lp] k2 pt2) pos.line X.env = pure false := by rfl)
    (h1 : starEach [a, .List [] lp] X.env = (false, eval a X.env) :: starEach [.List [] lp] X.env := by rfl) (h2 : starEach [.List [] lp] X.env = (false, eval (.List [] lp) X.env) :: starEach [] X.env := by rfl) :
    PSd X (.Assign [.Tuple [.Name x px, .Name y py] kt pt] (.Tuple [a, .List [] lp] k2 pt2) pos) (tPar i j (tCons ta (tCons (tLst tNil) tNil))) (dParDE i j da) := psd_parDE h.s (ps_par hc hN hi hj hij hx hy (pa_cons h.pe (pa_cons (pe_lst pa_nil) pa_nil h2) h1) hw hs)
theorem rs_parNE {lp : Pos} (hc : X.calm = true) (hN : X.N.Nodup) (hi : X.N[i]? = some x) (hj : X.N[j]? = some y) (hij : i ≠ j)
    (hx : X.env.scope.names.lookup x = some .local) (hy : X.env.scope.names.lookup y = some .local) (h : PEn X a ta dn)
    (hw : swappedStores [.Tuple [.Name x px, .Name y py] kt pt] (.Tuple [a, .List [] lp] k2 pt2) X.env = pure (some [x, y]))
    (hs : swapsWithSole [.Tuple [.Name x px, .Name y py] kt pt] (.Tuple [a, .List [] lp] k2 pt2) pos.line X.env = pure false := by rfl)
    (h1 : starEach [a, .List [] lp] X.env = (false, eval a X.env) :: starEach [.List [] lp] X.env := by rfl) (h2 : starEach [.List [] lp] X.env = (false, eval (.List [] lp) X.env) :: starEach [] X.env := by rfl) :
    PSd X (.Assign [.Tuple [.Name x px, .Name y py] kt pt] (.Tuple [a, .List [] lp] k2 pt2) pos) (tPar i j (tCons ta (tCons (tLst tNil) tNil))) (dParNE i j dn) := psd_parNE h.s (ps_par hc hN hi hj hij hx hy (pa_cons h.pe (pa_cons (pe_lst pa_nil) pa_nil h2) h1) hw hs)
end
end
theorem ren_count {K : PySem.W.Frag} {X : Cx} {a b : Expr} {ta tb : TE} {da db : DE} {apos cpos : Pos} (hK : X.K = K) (ha : PEr X a ta da) (hb : PEr X b tb db)
    (hbase : attributeBase a "count" X.env (eval a X.env) = eval a X.env := by rfl)
    (hfew : ((backTo cpos (starEach [b] X.env)).all (fun x => !x.1) && (backToKw cpos (keywordEach [] X.env)).all (fun x => x.1.isSome)
      && decide ([b].length + ([] : List Keyword).length + (if ([] : List Keyword).isEmpty then 0 else 1) < 30)) = true := by rfl)
    (hline : (apos.endLine == cpos.line) = true := by rfl) (hs : starEach [b] X.env = (false, eval b X.env) :: starEach [] X.env := by rfl) (hplain : (backTo cpos (starEach [] X.env)).any (·.1) = false := by rfl) :
    PEd X (.Call (.Attribute a "count" apos) [b] [] cpos) (tBM K "list" (rCntF K) ta (tCons tb tNil)) (dCnt da db) := by
  subst hK
  exact ped_count ha hb hbase hfew hline hs hplain
/-! ### comprehensions, the slots written out -/
section
variable {X : Cx} {elt tg iter : Expr} {ifs : List Expr} {scope : Scope} {pos spos : Pos} {wi : TI} {it : DN} {g : TG} {dg : DG} {vs' : List Nat} {tt : TT} {dt : DT} {te : TE} {dd : DE}
theorem ren_lc (own : List (Str × Nat)) {vs : List Nat} (hvs : own.map (·.2) = vs) (hc : X.calm = true) (hN : X.N.Nodup) (hi : PId X tg iter wi it) (ok : BlkOk X.N X.env.scope scope own)
    (hg : ∀ (s : Shared) (H : Hp) (C : Addr) (cl : List (Str × Addr)) (fp : List Addr), PGd (X.blk s H scope (compEnvC scope cl C X.env) fp) tg g dg vs') (hv : ∀ i ∈ vs', i ∈ vs) (ht : ∀ (s : Shared) (H : Hp) (C : Addr) (cl : List (Str × Addr)) (fp : List Addr), PTsd (X.blk s H scope (compEnvC scope cl C X.env) fp) ifs tt dt)
    (he : ∀ (s : Shared) (H : Hp) (C : Addr) (cl : List (Str × Addr)) (fp : List Addr), PEd (X.blk s H scope (compEnvC scope cl C X.env) fp) elt te dd) (hs : ∀ x, foldedSetIterable iter X.env x = pure x := by intro _; rfl) :
    PEn X (.ListComp elt [⟨tg, iter, ifs, 0⟩] scope pos) (tLc wi g tt te vs) (nLc it dg dt dd vs) := by
  subst hvs
  exact pen_lc hc hN hi ok hg hv ht he hs
theorem rs_lc {i : Nat} {y : Str} {py : Pos} (own : List (Str × Nat)) {vs : List Nat} (hvs : own.map (·.2) = vs) (hc : X.calm = true) (hN : X.N.Nodup) (hy : X.N[i]? = some y) (hyl : X.env.scope.names.lookup y = some .local)
    (hsw : swapsWith (.ListComp elt [⟨tg, iter, ifs, 0⟩] scope pos) (some (.Name y py)) spos.line X.env = pure true) (hi : PId X tg iter wi it) (ok : BlkOk X.N X.env.scope scope own)
    (hg : ∀ (s : Shared) (H : Hp) (C : Addr) (cl : List (Str × Addr)) (fp : List Addr), PGd (X.blk s H scope (compEnvC scope cl C X.env) fp) tg g dg vs') (hv : ∀ i ∈ vs', i ∈ vs) (ht : ∀ (s : Shared) (H : Hp) (C : Addr) (cl : List (Str × Addr)) (fp : List Addr), PTsd (X.blk s H scope (compEnvC scope cl C X.env) fp) ifs tt dt)
    (he : ∀ (s : Shared) (H : Hp) (C : Addr) (cl : List (Str × Addr)) (fp : List Addr), PEd (X.blk s H scope (compEnvC scope cl C X.env) fp) elt te dd) (hs : ∀ x, foldedSetIterable iter X.env x = pure x := by intro _; rfl) :
    PSd X (.Assign [.Name y py] (.ListComp elt [⟨tg, iter, ifs, 0⟩] scope pos) spos) (tAsg (tLc wi g tt te vs) (gName i)) (dAsgG (dFr (nLc it dg dt dd vs)) (gdName i)) := by
  subst hvs
  exact qs_lc hc hN hy hyl hsw hi ok hg hv ht he hs
theorem rs_lcN {i : Nat} {y : Str} {py : Pos} (own : List (Str × Nat)) {vs : List Nat} (hvs : own.map (·.2) = vs) (hc : X.calm = true) (hN : X.N.Nodup) (hy : X.N[i]? = some y) (hyl : X.env.scope.names.lookup y = some .local)
    (hsw : swapsWith (.ListComp elt [⟨tg, iter, ifs, 0⟩] scope pos) (some (.Name y py)) spos.line X.env = pure true) (hi : PId X tg iter wi it) (ok : BlkOk X.N X.env.scope scope own)
    (hg : ∀ (s : Shared) (H : Hp) (C : Addr) (cl : List (Str × Addr)) (fp : List Addr), PGd (X.blk s H scope (compEnvC scope cl C X.env) fp) tg g dg vs') (hv : ∀ i ∈ vs', i ∈ vs) (ht : ∀ (s : Shared) (H : Hp) (C : Addr) (cl : List (Str × Addr)) (fp : List Addr), PTsd (X.blk s H scope (compEnvC scope cl C X.env) fp) ifs tt dt)
    (he : ∀ (s : Shared) (H : Hp) (C : Addr) (cl : List (Str × Addr)) (fp : List Addr), PEd (X.blk s H scope (compEnvC scope cl C X.env) fp) elt te dd) (hs : ∀ x, foldedSetIterable iter X.env x = pure x := by intro _; rfl) :
    PSd X (.Assign [.Name y py] (.ListComp elt [⟨tg, iter, ifs, 0⟩] scope pos) spos) (tAsg (tLc wi g tt te vs) (gName i)) (dAsgN (nLc it dg dt dd vs) i) := by
  subst hvs
  exact qs_lcN hc hN hy hyl hsw hi ok hg hv ht he hs
end
def forBody (st : Stmt) : List Stmt := match st with
  | .For _ _ body _ _ => body
  | _ => []
def lawLoop (st : Stmt) : List Stmt := forBody ((defBody st).getD 0 (.Pass ⟨0, 0, 0, 0⟩))
def lawRest (st : Stmt) : List Stmt := (defBody st).drop 1
/-! ### simp facts -/
theorem dForL_nil {g : DG} {tb : DS} {D : DEnds} {env : Denv} : dForL g tb [] D env = D.nx env := rfl
theorem dForL_cons {g : DG} {tb : DS} {D : DEnds} {env : Denv} {d : PyData} {ds : List PyData} : dForL g tb (d :: ds) D env = g d env fun env' => tb { D with nx := dForL g tb ds D, ct := dForL g tb ds D, bk := D.nx } env' := rfl
theorem lcL_nil {g : DG} {tt : DT} {te : DE} {env : Denv} {Q : List PyData → Prop} : lcL g tt te env [] Q = Q [] := rfl
theorem lcL_cons {g : DG} {tt : DT} {te : DE} {env : Denv} {d : PyData} {ds : List PyData} {Q : List PyData → Prop} : lcL g tt te env (d :: ds) Q = g d env fun env' => tt env' fun b => if b = true then te env' fun y => lcL g tt te env ds fun ys => Q (y :: ys) else lcL g tt te env ds Q := rfl
theorem shp_int (i : Int) : SeqAt.shaped (.int i) = true := by simp [SeqAt.shaped, PyData.canLay0, PyData.depth]
theorem shp_none : SeqAt.shaped .none = true := by simp [SeqAt.shaped, PyData.canLay0, PyData.depth]
theorem shp_bool (b : Bool) : SeqAt.shaped (.bool b) = true := by simp [SeqAt.shaped, PyData.canLay0, PyData.depth]
/- data of a depth at most n, without texts and dicts -/
mutual
def plainN : Nat → PyData → Bool
  | _, .none => true
  | _, .bool _ => true
  | _, .int _ => true
  | n + 1, .list ds => plainA n ds
  | n + 1, .tuple ds => plainA n ds
  | _, _ => false
def plainA : Nat → List PyData → Bool
  | _, [] => true
  | n, d :: ds => plainN n d && plainA n ds
end
mutual
theorem plain_ok : ∀ (n : Nat) (d : PyData), plainN n d = true → d.canLay0 = true ∧ d.depth ≤ n
  | n, .none, _ => ⟨by simp [PyData.canLay0], by simp [PyData.depth]⟩
  | n, .bool _, _ => ⟨by simp [PyData.canLay0], by simp [PyData.depth]⟩
  | n, .int _, _ => ⟨by simp [PyData.canLay0], by simp [PyData.depth]⟩
  | n, .str _, h => by cases n <;> simp [plainN] at h
  | n, .dict _, h => by cases n <;> simp [plainN] at h
  | 0, .list _, h => by simp [plainN] at h
  | 0, .tuple _, h => by simp [plainN] at h
  | n + 1, .list ds, h => by
    obtain ⟨h1, h2⟩ := plain_okA n ds (by simpa [plainN] using h)
    exact ⟨by simpa [PyData.canLay0] using h1, by simp only [PyData.depth]; omega⟩
  | n + 1, .tuple ds, h => by
    obtain ⟨h1, h2⟩ := plain_okA n ds (by simpa [plainN] using h)
    exact ⟨by simpa [PyData.canLay0] using h1, by simp only [PyData.depth]; omega⟩
theorem plain_okA : ∀ (n : Nat) (ds : List PyData), plainA n ds = true → PyData.canLayAll0 ds = true ∧ PyData.depthAll ds ≤ n
  | n, [], _ => ⟨by simp [PyData.canLayAll0], by simp [PyData.depthAll]⟩
  | n, d :: ds, h => by
    have h' : plainN n d = true ∧ plainA n ds = true := by simpa [plainA] using h
    obtain ⟨h1, h2⟩ := plain_ok n d h'.1
    obtain ⟨h3, h4⟩ := plain_okA n ds h'.2
    exact ⟨by simp only [PyData.canLayAll0, h1, h3, Bool.and_self], by simp only [PyData.depthAll]; omega⟩
end
theorem shp_of {d : PyData} (h : plainN 60 d = true) : SeqAt.shaped d = true := by
  obtain ⟨h1, h2⟩ := plain_ok 60 d h
  unfold SeqAt.shaped
  rw [h1, Bool.true_and]
  exact decide_eq_true (by omega)
theorem plainA_all {n : Nat} : ∀ {ds : List PyData}, (∀ d ∈ ds, plainN n d = true) → plainA n ds = true
  | [], _ => by simp [plainA]
  | d :: ds, h => by
    simp only [plainA, h d List.mem_cons_self, plainA_all fun x hx => h x (List.mem_cons_of_mem _ hx), Bool.and_self]
theorem shp_list {ds : List PyData} (h : ∀ d ∈ ds, plainN 59 d = true) : SeqAt.shaped (.list ds) = true := shp_of (by simp only [plainN]; exact plainA_all h)
theorem shp_tuple {ds : List PyData} (h : ∀ d ∈ ds, plainN 59 d = true) : SeqAt.shaped (.tuple ds) = true := shp_of (by simp only [plainN]; exact plainA_all h)
theorem shp_ints (ns : List Int) : SeqAt.shaped (.list (ns.map .int)) = true := shp_list fun d hd => by
  obtain ⟨n, _, rfl⟩ := List.mem_map.mp hd
  rfl
theorem shp_opt (o : Option Int) : SeqAt.shaped (optD o) = true := by
  cases o
  · exact shp_none
  · exact shp_int _
theorem eqv_int (i j : Int) : PyData.eqv (.int i) (.int j) = decide (i = j) := by
  rw [Bool.eq_iff_iff]
  simp [PyData.eqv]
theorem eqv_opt (a b : Option Int) : PyData.eqv (optD a) (optD b) = decide (a = b) := by
  cases a <;> cases b <;> rw [Bool.eq_iff_iff] <;> simp [PyData.eqv, optD]
theorem eqvAll_ints : ∀ ns ms : List Int, PyData.eqvAll (ns.map .int) (ms.map .int) = decide (ns = ms)
  | [], [] => by simp [PyData.eqvAll]
  | [], m :: ms => by simp [PyData.eqvAll]
  | n :: ns, [] => by simp [PyData.eqvAll]
  | n :: ns, m :: ms => by
    rw [List.map_cons, List.map_cons, PyData.eqvAll, eqvAll_ints ns ms, eqv_int, Bool.eq_iff_iff]
    simp
theorem eqv_ints (ns ms : List Int) : PyData.eqv (.list (ns.map .int)) (.list (ms.map .int)) = decide (ns = ms) := by
  rw [PyData.eqv, eqvAll_ints]
/-- a taker, a row -/
def tkD (t : Int × Int) : PyData := .tuple [.int t.1, .int t.2]
def rowD (rs : List (Int × Int)) : PyData := .tuple (rs.map tkD)
theorem eqv_tk (a b : Int × Int) : PyData.eqv (tkD a) (tkD b) = decide (a = b) := by
  obtain ⟨a1, a2⟩ := a
  obtain ⟨b1, b2⟩ := b
  rw [Bool.eq_iff_iff]
  simp [tkD, PyData.eqv, PyData.eqvAll]
theorem eqvAll_tks : ∀ ns ms : List (Int × Int), PyData.eqvAll (ns.map tkD) (ms.map tkD) = decide (ns = ms)
  | [], [] => by simp [PyData.eqvAll]
  | [], m :: ms => by simp [PyData.eqvAll]
  | n :: ns, [] => by simp [PyData.eqvAll]
  | n :: ns, m :: ms => by
    rw [List.map_cons, List.map_cons, PyData.eqvAll, eqvAll_tks ns ms, eqv_tk, Bool.eq_iff_iff]
    simp
theorem eqv_row (ns ms : List (Int × Int)) : PyData.eqv (rowD ns) (rowD ms) = decide (ns = ms) := by
  rw [rowD, rowD, PyData.eqv, eqvAll_tks]
theorem plain_tk (n : Nat) (t : Int × Int) : plainN (n + 1) (tkD t) = true := by simp [tkD, plainN, plainA]
theorem shp_tks (ns : List (Int × Int)) : SeqAt.shaped (.list (ns.map tkD)) = true := shp_list fun d hd => by
  obtain ⟨n, _, rfl⟩ := List.mem_map.mp hd
  exact plain_tk 58 n
theorem shp_row (ns : List (Int × Int)) : SeqAt.shaped (rowD ns) = true := shp_tuple fun d hd => by
  obtain ⟨n, _, rfl⟩ := List.mem_map.mp hd
  exact plain_tk 58 n
theorem shp_tk (t : Int × Int) : SeqAt.shaped (tkD t) = true := shp_of (plain_tk 59 t)
/-! ### the readings' equations, for simp -/
section
variable {i j : Int} {xs ys ds r : List PyData} {d : PyData} {b : Bool} {Q : PyData → Prop} {Qn : List PyData → Prop} {env : Denv} {Qe : Denv → Prop} {g : DG} {gs : DGs} {n : Nat} {v : SV}
theorem q_gnil : gdNil [] env Qe = Qe env := by simp [gdNil]
theorem q_gcons : gdCons g gs (d :: r) env Qe = g d env fun env' => gs r env' Qe := propext ⟨fun ⟨d', r', e, h⟩ => by
  cases e
  exact h, fun h => ⟨d, r, rfl, h⟩⟩
theorem q_gtup : gdTup n gs (.tuple ds) env Qe = (ds.length = n ∧ gs ds env Qe) := by simp [gdTup]
theorem q_neg : negD (.int i) Q = Q (.int (-i)) := rfl
theorem q_add : addD (.int i) (.int j) Q = Q (.int (i + j)) := rfl
theorem q_addl : addD (.list xs) (.list ys) Q = (xs.length + ys.length ≤ 1000000 ∧ Q (.list (xs ++ ys))) := rfl
theorem q_addt : addD (.tuple xs) (.tuple ys) Q = (xs.length + ys.length ≤ 1000000 ∧ Q (.tuple (xs ++ ys))) := rfl
theorem q_sub : subD (.int i) (.int j) Q = Q (.int (i - j)) := rfl
theorem q_mul : mulD (.int i) (.int j) Q = (mulOk i j ∧ Q (.int (i * j))) := rfl
theorem q_mull : mulD (.list xs) (.int j) Q = (0 ≤ j ∧ j ≤ 1000 ∧ xs.length ≤ 1000 ∧ Q (.list (List.replicate j.toNat xs).flatten)) := rfl
theorem q_mult : mulD (.tuple xs) (.int j) Q = False := rfl
theorem q_fdiv : fdivD (.int i) (.int j) Q = ((0 < j ∧ j.natAbs < 2 ^ 1000) ∧ Q (.int (i / j))) := rfl
theorem q_mod : modD (.int i) (.int j) Q = (0 < j ∧ Q (.int (i % j))) := rfl
theorem q_pow : powD (.int i) (.int j) Q = ((0 ≤ j ∧ j ≤ 1000 ∧ i.natAbs < 2 ^ 64) ∧ Q (.int (i ^ j.toNat))) := rfl
theorem q_lt : ltD (.int i) (.int j) Q = Q (.bool (decide (i < j))) := rfl
theorem q_le : leD (.int i) (.int j) Q = Q (.bool (decide (i ≤ j))) := rfl
theorem q_gt : gtD (.int i) (.int j) Q = Q (.bool (decide (j < i))) := rfl
theorem q_ge : geD (.int i) (.int j) Q = Q (.bool (decide (j ≤ i))) := rfl
theorem q_isnn : isNone .none = true := rfl
theorem q_isni : isNone (.int i) = false := rfl
theorem q_isnb : isNone (.bool b) = false := rfl
theorem q_isnt : isNone (.tuple xs) = false := rfl
theorem q_isnl : isNone (.list xs) = false := rfl
theorem q_lenl : lenD [.list ds] Q = Q (.int ds.length) := rfl
theorem q_lent : lenD [.tuple ds] Q = Q (.int ds.length) := rfl
theorem q_inti : intD [.int i] Q = Q (.int i) := rfl
theorem q_intb : intD [.bool b] Q = Q (.int (if b = true then 1 else 0)) := rfl
theorem q_max2 : max2D [.int i, .int j] Q = Q (.int (max i j)) := rfl
theorem q_min2 : min2D [.int i, .int j] Q = Q (.int (min i j)) := rfl
theorem q_listl : listN [.list ds] Qn = Qn ds := rfl
theorem q_listt : listN [.tuple ds] Qn = Qn ds := rfl
theorem q_tuplel : tupleD [.list ds] Q = Q (.tuple ds) := rfl
theorem q_tuplet : tupleD [.tuple ds] Q = Q (.tuple ds) := rfl
theorem q_seql : seqD (.list ds) = some ds := rfl
theorem q_seqt : seqD (.tuple ds) = some ds := rfl
theorem q_rvd : (RVd.dat d).d = d := rfl
theorem q_rvn : (RVd.new ds).d = .list ds := rfl
theorem q_catn : catN (.list xs) (.list ys) Qn = (xs.length + ys.length ≤ 1000000 ∧ Qn (xs ++ ys)) := rfl
theorem q_ixl : ixD (.list ds) (.int i) Q = ∃ z, atI ds i = some z ∧ Q z := rfl
theorem q_ixt : ixD (.tuple ds) (.int i) Q = ∃ z, atI ds i = some z ∧ Q z := rfl
theorem q_drop : dropO (some v :: env) = (match v with | .own _ => none | x => some x) :: dropO env := by
  cases v <;> rfl
theorem q_dropd : dropO (some (.dat d) :: env) = some (.dat d) :: dropO env := rfl
theorem q_dropb : dropO (some .bag :: env) = some .bag :: dropO env := rfl
theorem q_dropo : dropO (some (.own ds) :: env) = none :: dropO env := rfl
theorem q_dropn : dropO (none :: env) = none :: dropO env := rfl
theorem q_drope : dropO [] = [] := rfl
def enQ (ds' : List PyData) (Q : List PyData → Prop) : Prop := ∃ d ds, ds' = [d] ∧ seqD d = some ds ∧ Q (enumD 0 ds)
theorem q_en {dn : DN} : itEn dn env Qn = dn env fun ds' => enQ ds' Qn := rfl
theorem q_en1 : enQ [d] Qn = ∃ ds, seqD d = some ds ∧ Qn (enumD 0 ds) := propext ⟨fun ⟨d', ds, e, h⟩ => by
  cases e
  exact ⟨ds, h⟩, fun ⟨ds, h⟩ => ⟨d, ds, rfl, h⟩⟩
theorem q_seqr {rs : List (Int × Int)} : seqD (rowD rs) = some (rs.map tkD) := rfl
theorem q_lenr {rs : List (Int × Int)} : lenD [rowD rs] Q = Q (.int rs.length) := by
  show Q (.int ((rs.map tkD).length : Nat)) = _
  rw [List.length_map]
theorem q_ixr {rs : List (Int × Int)} : ixD (rowD rs) (.int i) Q = ∃ z, atI (rs.map tkD) i = some z ∧ Q z := rfl
def setQ (ds : List PyData) (x : PyData) (P : Nat → Prop) : Prop := ∃ k j, x = .int k ∧ ixN ds.length k = some j ∧ P j
theorem q_setI {i : Nat} {ti te : DE} {D : DEnds} : dSetI i ti te D env = te env fun d => ∃ ds, env[i]? = some (some (.own ds)) ∧ ti env fun x => setQ ds x fun j => D.nx (env.set i (some (.own (ds.set j d)))) := rfl
theorem q_setQ {P : Nat → Prop} : setQ ds (.int i) P = ∃ j, ixN ds.length i = some j ∧ P j := propext ⟨fun ⟨k, j, e, h⟩ => by
  cases e
  exact ⟨j, h⟩, fun ⟨j, h⟩ => ⟨i, j, rfl, h⟩⟩
theorem q_take {m : Int} {R : RVd → Prop} : spTake [.bag, .dat (.int m)] R = (0 < m ∧ ∀ r : Int, 0 ≤ r → r < m → R (.dat (.int r))) := propext ⟨fun ⟨m', e, h⟩ => by
  cases e
  exact h, fun h => ⟨m, rfl, h⟩⟩
/-- the item in the middle -/
theorem at_mid {α : Type} (pre : List α) (c : α) (cs : List α) : atI (pre ++ c :: cs) (pre.length : Int) = some c := atI_nat (by simp)
theorem at_midI (pre : List Int) (c : Int) (cs : List Int) {n : Nat} (h : pre.length = n) : atI ((pre ++ c :: cs).map PyData.int) (n : Int) = some (.int c) := by
  rw [List.map_append, List.map_cons, ← h]
  have := at_mid (pre.map PyData.int) (.int c) (cs.map PyData.int)
  rw [List.length_map] at this
  exact this
theorem set_midI (pre : List Int) (c c' : Int) (cs : List Int) {n : Nat} (h : pre.length = n) : ((pre ++ c :: cs).map PyData.int).set n (.int c') = (pre ++ c' :: cs).map PyData.int := by
  rw [← List.map_set]
  congr 1
  rw [← h, List.set_append_right _ _ (Nat.le_refl _)]
  simp
theorem optD_inj : ∀ {os os' : List (Option Int)}, os.map optD = os'.map optD → os = os'
  | [], [], _ => rfl
  | [], _ :: _, h => by cases h
  | _ :: _, [], h => by cases h
  | a :: os, b :: os', h => by
    rw [List.map_cons, List.map_cons] at h
    injection h with h1 h2
    have : a = b := by
      cases a <;> cases b <;> cases h1 <;> rfl
    rw [this, optD_inj h2]
theorem cntL {os : List (Option Int)} {P : List (Option Int) → Prop} : (∃ os' : List (Option Int), os.map optD = os'.map optD ∧ P os') = P os := propext ⟨fun ⟨os', e, h⟩ => by
  rw [optD_inj e]
  exact h, fun h => ⟨os, rfl, h⟩⟩
theorem cntQ_some {P : Option Int → Prop} : (∃ o : Option Int, PyData.int i = optD o ∧ P o) = P (some i) := propext ⟨fun ⟨o, e, h⟩ => by
  cases o with
  | none => cases e
  | some j =>
    cases e
    exact h, fun h => ⟨some i, rfl, h⟩⟩
theorem cntQ_none {P : Option Int → Prop} : (∃ o : Option Int, PyData.none = optD o ∧ P o) = P none := propext ⟨fun ⟨o, e, h⟩ => by
  cases o with
  | none => exact h
  | some j => exact (by cases e), fun h => ⟨none, rfl, h⟩⟩
theorem tkD_inj {a b : Int × Int} (h : tkD a = tkD b) : a = b := by
  obtain ⟨a1, a2⟩ := a
  obtain ⟨b1, b2⟩ := b
  unfold tkD at h
  injection h with h
  injection h with h1 h2
  injection h2 with h2 h3
  injection h1 with h1
  injection h2 with h2
  dsimp only at h1 h2
  rw [h1, h2]
theorem tks_inj : ∀ {as bs : List (Int × Int)}, as.map tkD = bs.map tkD → as = bs
  | [], [], _ => rfl
  | [], _ :: _, h => by cases h
  | _ :: _, [], h => by cases h
  | a :: as, b :: bs, h => by
    rw [List.map_cons, List.map_cons] at h
    injection h with h1 h2
    rw [tkD_inj h1, tks_inj h2]
theorem rowD_inj {as bs : List (Int × Int)} (h : rowD as = rowD bs) : as = bs := tks_inj (PyData.tuple.inj h)
theorem exRow {rs : List (Int × Int)} {P : List (Int × Int) → Prop} : (∃ rs', rowD rs = rowD rs' ∧ P rs') = P rs := propext ⟨fun ⟨rs', e, h⟩ => by
  rw [rowD_inj e]
  exact h, fun h => ⟨rs, rfl, h⟩⟩
theorem exTk {t : Int × Int} {P : Int × Int → Prop} : (∃ t', tkD t = tkD t' ∧ P t') = P t := propext ⟨fun ⟨t', e, h⟩ => by
  rw [tkD_inj e]
  exact h, fun h => ⟨t, rfl, h⟩⟩
theorem rowD_nil : PyData.tuple [] = rowD [] := rfl
end
end Pd

set_option maxRecDepth 100000
set_option maxHeartbeats 4000000
/-! ### t[::-1] of a tuple -/
namespace HT
open PySem PySem.Spec PyProof.Rows
section
variable {prog : Program} {w : World} {A : Around} {E : Value → Shared → Prop} {s : Shared}
theorem pd_adjust_rev (n : Nat) : Builtin.Slice.sliceAdjust none none (-1) (n : Int) = ((n : Int) - 1, -1) := by
  unfold Builtin.Slice.sliceAdjust
  rfl
theorem pd_places_rev (n : Nat) : Builtin.Slice.slicePlaces ((n : Int) - 1) (-1) (-1) = n := by
  unfold Builtin.Slice.slicePlaces
  have h1 : ¬ ((-1 : Int) > 0) := by decide
  simp only [h1, if_false]
  split
  · rw [show (- -1 : Int) = 1 by decide, Int.ediv_one]
    omega
  · omega
theorem pd_sliceApplied_rev {sl : Addr} {vl vu vs : Value} {n : Nat} {Q : Int × Int × Nat → Shared → Prop} (hs : s.heap.IsSliceOf sl vl vu vs) (pl : IsPart vl none) (pu : IsPart vu none) (ps : IsPart vs (some (-1)))
    (h : Q ((n : Int) - 1, -1, n) s) : wpAny (model prog w) A (Builtin.Slice.sliceApplied (.ref sl) (pure (n : Int))) Q E s := by
  obtain ⟨os, hos, hcs, hds⟩ := id hs
  unfold Builtin.Slice.sliceApplied Builtin.Slice.sliceFields
  refine wpAny_bind (wpAny_bind (wpAny_field hos hds (x := vl) rfl (wpAny_bind (wpAny_field hos hds (x := vu) rfl (wpAny_bind (wpAny_field hos hds (x := vs) rfl (wpAny_pure ?_)))))))
  refine wpAny_bind (slicePart_ ps ?_)
  show wpAny _ _ (if ((-1 : Int) == 0) = true then _ else _) _ _ s
  rw [if_neg (by decide)]
  refine wpAny_bind (slicePart_ pl (wpAny_bind (slicePart_ pu (wpAny_bind (wpAny_pure ?_)))))
  show wpAny _ _ (match Builtin.Slice.sliceAdjust none none (-1) (n : Int) with | (lo, hi) => pure (lo, (-1 : Int), Builtin.Slice.slicePlaces lo hi (-1))) _ _ s
  rw [pd_adjust_rev]
  show wpAny _ _ (pure ((n : Int) - 1, (-1 : Int), Builtin.Slice.slicePlaces ((n : Int) - 1) (-1) (-1))) _ _ s
  rw [pd_places_rev]
  exact wpAny_pure h
theorem pd_pick_rev (xs : Array Value) : ((List.range xs.size).filterMap fun (m : Nat) => xs[((xs.size : Int) - 1 + (m : Int) * (-1)).toNat]?).toArray = xs.toList.reverse.toArray := by
  have e : (fun (m : Nat) => xs[((xs.size : Int) - 1 + (m : Int) * (-1)).toNat]?) = fun m => xs[xs.size - 1 - m]? := by
    funext m
    have : ((xs.size : Int) - 1 + (m : Int) * (-1)).toNat = xs.size - 1 - m := by omega
    rw [this]
  rw [e]
  have h1 : (List.range xs.size).filterMap (fun m => xs[xs.size - 1 - m]?) = ((List.range xs.size).map fun k => xs.size - 1 - k).filterMap (xs[·]?) := by
    rw [List.filterMap_map]
    rfl
  rw [h1, PySem.W.krv_range, List.filterMap_reverse, PySem.W.krv_all]
theorem pd_getItem_tuple_rev {t sl : Addr} {items : Array Value} {vl vu vs : Value} {Q : Value → Shared → Prop} (ht : IsTup s.heap t items) (hs : s.heap.IsSliceOf sl vl vu vs) (pl : IsPart vl none) (pu : IsPart vu none) (ps : IsPart vs (some (-1)))
    (h : Q (.ref s.heap.objs.size) { s with heap := s.heap.push { cls := .type "tuple", data := .seq items.toList.reverse.toArray } })
    (hsz : items.size ≤ sizeLine) : wpAny (model prog w) A (getItem (.ref t) (.ref sl)) Q E s := by
  have htake : sizeOk (.seq items.toList.reverse.toArray) := by
    show items.toList.reverse.toArray.size ≤ sizeLine
    rw [List.size_toArray, List.length_reverse, Array.length_toList]
    exact hsz
  obtain ⟨os, hos, hcs, hds⟩ := id hs
  have hTs : s.TypeIs (.ref sl) "slice" := ⟨os, hos, hcs⟩
  unfold getItem
  try with_reducible refine wpAny_holding ?_
  first | refine wpAny_bind (wpAny_pure ?_) | skip
  refine wpAny_bind (wpAny_sequenceKey ht.typeIs (by decide) ?_)
  refine wpAny_bind (wpAny_callSpecial?_slot (name := Str.ofString "__getitem__") ht.typeIs PyProof.Rows.slot_tuple_getitem
    (wpAny_call_entry PyProof.Rows.slot_tuple_getitem ht.typeIs entry_tuple_getitem ?_ (args_tuple_getitem _ _)))
  show wpAny _ _ (Builtin.Tuple.tupleItemsOf (.ref t) >>= _) _ _ s
  refine wpAny_bind (tupleItemsOf_ ht ?_)
  refine wpAny_bind (wpAny_typeOf hTs ?_)
  rw [if_pos (by decide)]
  refine wpAny_bind (pd_sliceApplied_rev hs pl pu ps ?_)
  show wpAny _ _ (if (((items.size : Int) - 1 == 0 && (-1 : Int) == 1 && items.size == items.size) = true) then _ else _) _ _ s
  rw [if_neg (by
    intro q
    rw [Bool.and_eq_true, Bool.and_eq_true] at q
    exact absurd q.1.2 (by decide)), pd_pick_rev]
  first
    | exact wpAny_bind (m := Builtin.Tuple.tupleExact _) (wpAny_newObj_type (wpAny_pure ⟨_, rfl, wpAny_pure h⟩) htake)
    | exact wpAny_bind (m := Builtin.Tuple.tupleExact _) (wpAny_newObj_type (wpAny_bind (wpAny_pure (wpAny_pure ⟨_, rfl, wpAny_pure h⟩))) htake)
    | exact wpAny_bind (wpAny_bind (m := Builtin.Tuple.tupleExact _) (wpAny_newObj_type (wpAny_pure (wpAny_pure ⟨_, rfl, wpAny_pure h⟩)) htake))
    | exact wpAny_bind (wpAny_bind (m := Builtin.Tuple.tupleExact _) (wpAny_newObj_type (wpAny_pure ⟨_, rfl, wpAny_pure h⟩) htake))
end
end HT
namespace Pd
open PySem PySem.Spec PyProof.Rows L2
open Evl (Ex)
def tRevA (K : PySem.W.Frag) (te : TE) : TE := fun σ H Q => te σ H fun x H1 => (∃ a xs, x = .ref a ∧ SqL K H1 a xs ∧ ∀ p, H1 p = none → Q (.ref p) (upd H1 p (.lst xs.reverse))) ∨ (∃ a xs, x = .ref a ∧ SqT K H1 a xs ∧ ∀ (p : Addr) (o : Obj), H1 p = none → o.dict = none → Q (.ref p) (upd H1 p (.frz o (.tup xs.reverse))))
theorem pe_revA {X : Cx} {e : Expr} {te : TE} {k : Nat} {p1 p2 p3 pos : Pos} (he : PE X e te) : PE X (.Subscript e (.Slice none none (some (.UnaryOp .USub (.Constant (.int 1) k p1) p2)) p3) pos) (tRevA X.K te) := by
  refine ⟨fun pins s σ H Q I h => ?_⟩
  refine Subscript_ (thn (he.run pins s σ H _ I h) fun v s1 ⟨x, H1, I1, r1, q1⟩ => ?_)
  have hst : PO X (some (.UnaryOp .USub (.Constant (.int 1) k p1) p2)) (tPart (tUn (rU fun i => .int (-i)) (tC (.int 1)))) := po_some (pe_un un_neg pe_int)
  refine wpAny_Slice (thn (po_none.run pins s1 σ H1 (fun o H2 => o = none ∧ H2 = H1) I1 ⟨rfl, rfl⟩) fun vl s2 ⟨l, H2, I2, pl, el, e2⟩ => ?_)
  subst el e2
  refine thn (po_none.run pins s2 σ H2 (fun o H3 => o = none ∧ H3 = H2) I2 ⟨rfl, rfl⟩) fun vu s3 ⟨u, H3, I3, pu, eu, e3⟩ => ?_
  subst eu e3
  refine thn (hst.run pins s3 σ H3 (fun o H4 => o = some (-1) ∧ H4 = H3) I3 ⟨1, rfl, -1, rfl, rfl, rfl⟩) fun vs s4 ⟨o, H4, I4, ps, eo, e4⟩ => ?_
  subst eo e4
  have I5 : Inv X pins σ H4 { s4 with heap := s4.heap.push { cls := .type "slice", data := .fields #[vl, vu, vs] } } := I4.kept (t' := s4.toks) fun b ob q => Heap.get?_push_of_some _ q
  rcases q1 with ⟨a, xs, ex, hx, q⟩ | ⟨a, xs, ex, hx, q⟩
  · subst ex
    cases r1
    obtain ⟨its, r, ht, hz⟩ := I5.list hx
    have hlen := r.length
    show wpAny (model X.prog X.w) X.A (subscriptTail e (.Slice none none (some (.UnaryOp .USub (.Constant (.int 1) k p1) p2)) p3) (.ref a) (.ref s4.heap.objs.size)) (EP X pins σ Q) X.xe { s4 with heap := s4.heap.push { cls := .type "slice", data := .fields #[vl, vu, vs] } }
    refine tail_any (ops := [.ref a, .ref s4.heap.objs.size]) ht.isList.typeIs (PySem.slot_list_getitem.lookup) ?_ (by with_unfolding_all rfl)
    refine wpAny_getItem_list_slice ht.isList (Heap.IsSliceOf.new _ vl vu vs) pl pu ps (by decide) ?_ (by rw [List.size_toArray]; omega)
    rw [PySem.W.krv_pick]
    refine ⟨.ref _, _, I5.laid (t' := s4.toks) (o := .lst xs.reverse) (fun b ob q => Heap.get?_push_of_some _ q) (Nat.le_refl _) ?_, rfl, q _ (I5.hok.fresh (Nat.le_refl _))⟩
    exact ⟨by rw [List.length_reverse]; exact hz, _, 0, r.reverse, Heap.get?_push_size _ rfl⟩
  · subst ex
    cases r1
    obtain ⟨its, r, ht, hz⟩ := I5.tuple hx
    have hlen := r.length
    show wpAny (model X.prog X.w) X.A (subscriptTail e (.Slice none none (some (.UnaryOp .USub (.Constant (.int 1) k p1) p2)) p3) (.ref a) (.ref s4.heap.objs.size)) (EP X pins σ Q) X.xe { s4 with heap := s4.heap.push { cls := .type "slice", data := .fields #[vl, vu, vs] } }
    refine tail_any (ops := [.ref a, .ref s4.heap.objs.size]) ht.typeIs (PyProof.Rows.slot_tuple_getitem.lookup) ?_ (by with_unfolding_all rfl)
    refine HT.pd_getItem_tuple_rev ht (Heap.IsSliceOf.new _ vl vu vs) pl pu ps ?_ (by rw [List.size_toArray]; omega)
    refine ⟨.ref _, _, I5.laid (t' := s4.toks) (o := .frz _ (.tup xs.reverse)) (fun b ob q => Heap.get?_push_of_some _ q) (Nat.le_refl _) ⟨Heap.get?_push_size _ rfl, by rw [List.length_reverse]; exact hz, _, r.reverse, ⟨_, Heap.get?_push_size _ rfl, rfl, _, rfl⟩⟩, rfl, q _ _ (I5.hok.fresh (Nat.le_refl _)) ?_⟩
    rfl
def revD : PyData → (PyData → Prop) → Prop
  | .list ds, Q => Q (.list ds.reverse)
  | .tuple ds, Q => Q (.tuple ds.reverse)
  | _, _ => False
theorem ped_rev {X : Cx} {a : Expr} {ta : TE} {da : DE} {k : Nat} {p1 p2 p3 pos : Pos} (ha : PEr X a ta da) : PEd X (.Subscript a (.Slice none none (some (.UnaryOp .USub (.Constant (.int 1) k p1) p2)) p3) pos) (tRevA X.K ta) (d1 revD da) := ⟨pe_revA ha.pe, fun B F H σ env Q Qv n q k =>
  ha.s B F H σ env _ _ n q fun v d F1 H1 q1 e1 n1 r1 => by
    cases d with
    | list ds =>
      obtain ⟨a', vs, rfl, h1, h2⟩ := (r1.rb n1).list n1.g.fh
      refine .inl ⟨a', vs, rfl, SqL.of h1, fun p hp => ?_⟩
      have g : Gro F1 H1 (upd F1 p (.lst vs.reverse)) (upd H1 p (.lst vs.reverse)) := .new hp
      exact k _ _ _ _ q1 (e1.trans (g.ex n1.g.fh)) (n1.gro g) (.lst upd_same (h2.rev.up (g.ex n1.g.fh)))
    | tuple ds =>
      obtain ⟨a', vs, rfl, h1, h2⟩ := (r1.rb n1).tuple
      refine .inr ⟨a', vs, rfl, h1.sq n1.g.fh, fun p o hp ho => ?_⟩
      have g : Gro F1 H1 (upd F1 p (.frz o (.tup vs.reverse))) (upd H1 p (.frz o (.tup vs.reverse))) := .new hp
      exact k _ _ _ _ q1 (e1.trans (g.ex n1.g.fh)) (n1.gro g) (.tup (.new ho) (h2.rev.up (g.ex n1.g.fh)))
    | _ => exact q1.elim⟩
theorem q_revl {ds : List PyData} {Q : PyData → Prop} : revD (.list ds) Q = Q (.list ds.reverse) := rfl
theorem q_revt {ds : List PyData} {Q : PyData → Prop} : revD (.tuple ds) Q = Q (.tuple ds.reverse) := rfl
theorem q_revr {rs : List (Int × Int)} {Q : PyData → Prop} : revD (rowD rs) Q = Q (rowD rs.reverse) := by
  show Q (.tuple (rs.map tkD).reverse) = Q (.tuple (rs.reverse.map tkD))
  rw [List.map_reverse]
end Pd

set_option maxRecDepth 100000
set_option maxHeartbeats 4000000
namespace Pd
open PySem L2
open Evl (Ex)
open PyProof.Rows (envOfC)
/-! ### a, b, c = x, y, z -/
section
variable {X : Cx} {a b c e : Expr} {es : List Expr} {ta tb te tc : TE} {da db dc dd : DE} {dn dm : DN} {dt du : DT} {pos apos cpos : Pos} {tA1 : TA}
variable {i j l : Nat} {x y z : Str} {px py pz pt : Pos} {kt k2 pt2}
theorem rs_par3 (hc : X.calm = true) (hN : X.N.Nodup) (hi : X.N[i]? = some x) (hj : X.N[j]? = some y) (hl : X.N[l]? = some z) (hij : i ≠ j) (hil : i ≠ l) (hjl : j ≠ l)
    (hx : X.env.scope.names.lookup x = some .local) (hy : X.env.scope.names.lookup y = some .local) (hz : X.env.scope.names.lookup z = some .local) (h : PAf X [a, b, c] tA1 dn)
    (hw : swappedStores [.Tuple [.Name x px, .Name y py, .Name z pz] kt pt] (.Tuple [a, b, c] k2 pt2) X.env = pure (some [x, y, z]))
    (hs : swapsWithSole [.Tuple [.Name x px, .Name y py, .Name z pz] kt pt] (.Tuple [a, b, c] k2 pt2) pos.line X.env = pure false := by rfl) :
    PSd X (.Assign [.Tuple [.Name x px, .Name y py, .Name z pz] kt pt] (.Tuple [a, b, c] k2 pt2) pos) (tPar3 i j l tA1) (dPar3 i j l dn) := psd_par3 h (ps_par3 hc hN hi hj hl hij hil hjl hx hy hz h.pa hw hs)
/-! ### list(range(n)), tuple(range(n)) -/
theorem dta_rg {F : Hp} (n : Int) : DtA F (rgV 0 n) (rngD 0 n.toNat) := by
  have e1 : rgV 0 n = ((List.range n.toNat).map fun i => ((0 : Int) + (i : Nat))).map V.int := by
    unfold rgV
    rw [List.map_map, Int.sub_zero]
    rfl
  have e2 : rngD 0 n.toNat = ((List.range n.toNat).map fun i => ((0 : Int) + (i : Nat))).map PyData.int := by
    unfold rngD
    rw [List.map_map]
    rfl
  rw [e1, e2]
  exact DtA.of_ints _
def nListRg (da : DE) : DN := fun env Q => da env fun d => ∃ n : Int, d = .int n ∧ (0 ≤ n ∧ n ≤ 100000) ∧ Q (rngD 0 n.toNat)
def dTupRg (da : DE) : DE := fun env Q => da env fun d => ∃ n : Int, d = .int n ∧ (0 ≤ n ∧ n ≤ 100000) ∧ Q (.tuple (rngD 0 n.toNat))
theorem pen_list_rg {p p2 pos2 : Pos} (hc : X.calm = true) (hg : Gl X "list") (hm : X.mg "list" = none) (hg2 : Gl X "range") (hm2 : X.mg "range" = none) (ha : PEd X a ta da) (na : starEach [a] X.env = (false, eval a X.env) :: starEach [] X.env := by rfl)
    (na2 : starEach [.Call (.Name "range" p2) [a] [] pos2] X.env = (false, eval (.Call (.Name "range" p2) [a] [] pos2) X.env) :: starEach [] X.env := by rfl) :
    PEn X (.Call (.Name "list" p) [.Call (.Name "range" p2) [a] [] pos2] [] pos) (tLstRg (tRg1 ta)) (nListRg da) := ⟨pe_listRg hc hg hm (prg_1 hg2 hm2 ha.pe na) na2, fun B F H σ env Q Qv n q k =>
  ha.s B F H σ env _ _ n q fun v d F1 H1 ⟨m, ed, ⟨m0, m1⟩, q1⟩ e1 n1 r1 => by
    subst ed
    cases r1
    refine ⟨m, rfl, RgOk.of_le (Int.le_refl 0) (by omega) (by omega) m0, fun p hp => ?_⟩
    obtain ⟨f1, f2⟩ := Fresh.of n1 hp (dta_rg (F := F1) m)
    exact k p _ _ F1 _ q1 e1 f2 f1⟩
def tTupRgZ (te : St → Hp → (Int → Int → Hp → Prop) → Prop) : TE := fun σ H Q => te σ H fun a b H1 => RgOk a b ∧ ∀ (q : Addr) (o : Obj), H1 q = none → o.dict = none → Q (.ref q) (upd H1 q (.frz o (.tup (rgV a b))))
open PySem.Spec PyProof.Rows in
theorem pe_tupRgZ {X : Cx} {e : Expr} {te : St → Hp → (Int → Int → Hp → Prop) → Prop} {p pos : Pos} (hc : X.calm = true) (hg : Gl X "tuple") (hm : X.mg "tuple" = none) (he : PRg X e te) (na : starEach [e] X.env = (false, eval e X.env) :: starEach [] X.env := by rfl) : PE X (.Call (.Name "tuple" p) [e] [] pos) (tTupRgZ te) := ⟨fun pins s σ H Q I h => by
  refine Call_ (ld_blt I hg hm boot_tuple (PyProof.Rows.callWith_type1 (args_cons (thn (he pins s σ H _ I h) fun x s1 ⟨r, a, b, t, u, v, H1, ex, hr, I1, ok, q⟩ => args_nil ?_) na) na))
  subst ex
  obtain ⟨b1, b2, b3, b4, b5⟩ := ok
  refine call_tuple_range (n := (b - a).toNat) (I1.ok.hd hc) hr (small_one b1 b2 b3 b4) (rangeSize_nat a b) b5 fun h' tk acc hk hi => ?_
  have I2 : Inv X pins σ H1 { s1 with heap := h', toks := tk } := I1.kept hk
  refine ⟨.ref h'.objs.size, _, I2.laid (t' := tk) (o := .frz _ (.tup (rgV a b))) (fun c o e => Heap.get?_push_of_some _ e) (Nat.le_refl _) ⟨Heap.get?_push_size _ rfl, ?_, acc.toList, vals_rg hi, ?_⟩, rfl, q _ _ (I2.hok.fresh (Nat.le_refl _)) rfl⟩
  · rw [rgV_length, sizeLine_eq]; omega
  · rw [Array.toArray_toList]; exact IsTup.new _ _⟩
theorem ped_tuple_rg {p p2 pos2 : Pos} (hc : X.calm = true) (hg : Gl X "tuple") (hm : X.mg "tuple" = none) (hg2 : Gl X "range") (hm2 : X.mg "range" = none) (ha : PEd X a ta da) (na : starEach [a] X.env = (false, eval a X.env) :: starEach [] X.env := by rfl)
    (na2 : starEach [.Call (.Name "range" p2) [a] [] pos2] X.env = (false, eval (.Call (.Name "range" p2) [a] [] pos2) X.env) :: starEach [] X.env := by rfl) :
    PEd X (.Call (.Name "tuple" p) [.Call (.Name "range" p2) [a] [] pos2] [] pos) (tTupRgZ (tRg1 ta)) (dTupRg da) := ⟨pe_tupRgZ hc hg hm (prg_1 hg2 hm2 ha.pe na) na2, fun B F H σ env Q Qv n q k =>
  ha.s B F H σ env _ _ n q fun v d F1 H1 ⟨m, ed, ⟨m0, m1⟩, q1⟩ e1 n1 r1 => by
    subst ed
    cases r1
    refine ⟨m, rfl, RgOk.of_le (Int.le_refl 0) (by omega) (by omega) m0, fun p o hp ho => ?_⟩
    have g : Gro F1 H1 (upd F1 p (.frz o (.tup (rgV 0 m)))) (upd H1 p (.frz o (.tup (rgV 0 m)))) := .new hp
    exact k _ _ _ _ q1 (e1.trans (g.ex n1.g.fh)) (n1.gro g) (.tup (.new ho) (dta_rg m))⟩
theorem rg_tup {K : PySem.W.Frag} {gs : TGs} {dgs : DGs} {vs : List Nat} {k n : Nat} (hK : X.K = K) (hc : X.calm = true) (h : PGsd X es gs dgs vs) (hn : (assignEach es X.env).length = n := by rfl) (hst : (assignEach es X.env).findIdx? (·.1) = none := by rfl) : PGd X (.Tuple es k pos) (gTup K n gs) (gdTup n dgs) vs := by
  subst hK
  exact qg_tup hc h hn hst
theorem ren_sl {K : PySem.W.Frag} {lo hi : Option Expr} {tl th : St → Hp → (Option Int → Hp → Prop) → Prop} {dl dh : DO} {p2 : Pos} (hK : X.K = K) (ha : PEr X a ta da) (hl : POd X lo tl dl) (hh : POd X hi th dh) : PEd X (.Subscript a (.Slice lo hi none p2) pos) (tSl (rSlB K) ta tl th) (dSl da dl dh) := by
  subst hK
  exact ped_sl ha hl hh
/-! ### own.insert(i, x) -/
def rInsert : V → List V → Hp → VK → Prop := fun x vs H Q => ∃ (l : Addr) (xs : List V) (i : Int) (y : V), x = .ref l ∧ vs = [.int i, y] ∧ H l = some (.lst xs) ∧ xs.length < sizeLine ∧ 0 ≤ i ∧ i < 2 ^ 63 ∧
    Q .non (upd H l (.lst (xs.take i.toNat ++ [y] ++ xs.drop i.toNat)))
def dInsert (i : Nat) (ti te : DE) : DS := fun D env => ∃ ds, env[i]? = some (some (.own ds)) ∧ ti env fun x => te env fun d => ∃ k : Int, x = .int k ∧ (0 ≤ k ∧ k ≤ 100000) ∧ ds.length < 1000000 ∧ D.nx (env.set i (some (.own (ds.take k.toNat ++ [d] ++ ds.drop k.toNat))))
theorem qs_insert {i : Nat} {o : Expr} (ho : PE X o (tVar i)) (ha : PEd X a ta da) (h : PEd X e te dd)
    (hbase : attributeBase o "insert" X.env (eval o X.env) = eval o X.env := by rfl)
    (hfew : ((backTo cpos (starEach [a, e] X.env)).all (fun x => !x.1) && (backToKw cpos (keywordEach [] X.env)).all (fun x => x.1.isSome)
      && decide ([a, e].length + ([] : List Keyword).length + (if ([] : List Keyword).isEmpty then 0 else 1) < 30)) = true := by rfl)
    (hline : (apos.endLine == cpos.line) = true := by rfl) (hs : starEach [a, e] X.env = (false, eval a X.env) :: starEach [e] X.env := by rfl) (hs2 : starEach [e] X.env = (false, eval e X.env) :: starEach [] X.env := by rfl) (hplain : (backTo cpos (starEach [e] X.env)).any (·.1) = false := by rfl)
    (hsw : swapsWith (.Call (.Attribute o "insert" apos) [a, e] [] cpos) none pos.line X.env = pure false := by rfl) :
    PSd X (.Expr (.Call (.Attribute o "insert" apos) [a, e] [] cpos) pos) (tDrop (tBM X.K "list" rInsert (tVar i) (tCons ta (tCons te tNil)))) (dInsert i da dd) :=
  ⟨ps_expr (pe_bm PySem.F.plainAttrs_list PySem.F.slot_list_insert PySem.F.type_list_insert mt_insert ho (pa_cons ha.pe (pa_cons h.pe pa_nil hs2) hs) hbase hfew hline hs hplain) hsw, fun B F H σ env D Dd n k q => by
  obtain ⟨ds, h1, q⟩ := q
  obtain ⟨l, vs, h2, h3, h4, h5, h6⟩ := n.own h1
  refine ⟨_, h2, .inl ⟨rfl, vs, SqL.of h5⟩, ha.s B F H σ env _ _ n q fun w f F1 H1 q1 e1 n1 t1 => h.s B F1 H1 σ env _ _ n1 q1 fun v d F' H' ⟨kk, ek, ⟨k0, k1⟩, hl, q'⟩ e' n' t' => ?_⟩
  subst ek
  cases t1
  obtain ⟨l', ws, p2, p3, p4, p5, p6⟩ := n'.own h1
  rw [h2] at p2
  cases p2
  refine ⟨l, ws, kk, v, rfl, rfl, p5, ?_, k0, by omega, k.nx F' _ σ _ (e1.trans e') (n'.mut h1 h2 (((p6.take _).app (.cons t' .nil)).app (p6.drop _))) q'⟩
  rw [p6.len]
  exact Nat.lt_of_lt_of_le hl (by decide)⟩
end
/-! ### simp facts -/
theorem ints_inj : ∀ {as bs : List Int}, as.map PyData.int = bs.map PyData.int → as = bs
  | [], [], _ => rfl
  | [], _ :: _, h => by cases h
  | _ :: _, [], h => by cases h
  | a :: as, b :: bs, h => by
    rw [List.map_cons, List.map_cons] at h
    injection h with h1 h2
    injection h1 with h1
    rw [h1, ints_inj h2]
theorem exInts {xs : List Int} {P : List Int → Prop} : (∃ ns : List Int, xs.map PyData.int = ns.map PyData.int ∧ P ns) = P xs := propext ⟨fun ⟨ns, e, h⟩ => by
  rw [ints_inj e]
  exact h, fun h => ⟨xs, rfl, h⟩⟩
theorem q_sum {xs : List Int} {Q : PyData → Prop} : sumD [.list (xs.map .int)] Q = Q (.int xs.sum) := propext ⟨fun ⟨ns, e, h⟩ => by
  injection e with e
  injection e with e
  rw [ints_inj e]
  exact h, fun h => ⟨xs, rfl, h⟩⟩
theorem q_min {xs : List Int} {Q : PyData → Prop} : minD [.list (xs.map .int)] Q = (xs ≠ [] ∧ ∀ m, m ∈ xs → (∀ y ∈ xs, m ≤ y) → Q (.int m)) := propext ⟨fun ⟨ns, e, h⟩ => by
  injection e with e
  injection e with e
  rw [ints_inj e]
  exact h, fun h => ⟨xs, rfl, h⟩⟩
theorem q_max {xs : List Int} {Q : PyData → Prop} : maxD [.list (xs.map .int)] Q = (xs ≠ [] ∧ ∀ m, m ∈ xs → (∀ y ∈ xs, y ≤ m) → Q (.int m)) := propext ⟨fun ⟨ns, e, h⟩ => by
  injection e with e
  injection e with e
  rw [ints_inj e]
  exact h, fun h => ⟨xs, rfl, h⟩⟩
/-! slices, items of mapped lists -/
def cutG {α : Type} (xs : List α) (lo hi : Option Int) : List α := (xs.drop (HT.sIx xs.length 0 lo)).take (HT.sIx xs.length xs.length hi - HT.sIx xs.length 0 lo)
theorem cutG_map {α β : Type} (f : α → β) (xs : List α) (lo hi : Option Int) : cutG (xs.map f) lo hi = (cutG xs lo hi).map f := by
  unfold cutG
  rw [List.length_map, ← List.map_drop, ← List.map_take]
theorem cutD_eq (ds : List PyData) (lo hi : Option Int) : cutD ds lo hi = cutG ds lo hi := rfl
theorem cutG_to {α : Type} (ds : List α) (m : Nat) : cutG ds none (some (m : Int)) = ds.take m := by
  unfold cutG
  rw [HT.sIx_none, HT.sIx_nat, List.drop_zero, Nat.sub_zero]
  rcases Nat.le_total m ds.length with h | h
  · rw [Nat.min_eq_left h]
  · rw [Nat.min_eq_right h, List.take_of_length_le (Nat.le_refl _), List.take_of_length_le h]
theorem cutG_from {α : Type} (ds : List α) (m : Nat) : cutG ds (some (m : Int)) none = ds.drop m := by
  unfold cutG
  rw [HT.sIx_none, HT.sIx_nat]
  rcases Nat.le_total m ds.length with h | h
  · rw [Nat.min_eq_left h, List.take_of_length_le (by rw [List.length_drop]; exact Nat.le_refl _)]
  · rw [Nat.min_eq_right h, List.drop_of_length_le (Nat.le_refl _), List.drop_of_length_le h]
    simp
theorem cutG_last {α : Type} (ds : List α) (x : α) : cutG (ds ++ [x]) none (some (-1)) = ds := by
  unfold cutG
  rw [HT.sIx_none, List.drop_zero, Nat.sub_zero]
  have : HT.sIx (ds ++ [x]).length (ds ++ [x]).length (some (-1)) = ds.length := by
    show (if (-1 : Int) < 0 then ((-1 : Int) + ((ds ++ [x]).length : Int)).toNat else min (-1 : Int).toNat (ds ++ [x]).length) = _
    rw [if_pos (by decide), List.length_append, List.length_singleton]
    omega
  rw [this, List.take_left]
def slQ (d : PyData) (l u : Option Int) (Q : PyData → Prop) : Prop := match d with
  | .list ds => Q (.list (cutD ds l u))
  | _ => False
theorem q_sl {da : DE} {lo hi : DO} {env : Denv} {Q : PyData → Prop} : dSl da lo hi env Q = da env fun d => lo env fun l => hi env fun u => slQ d l u Q := by
  unfold dSl slQ
  rfl
theorem q_sll {ds : List PyData} {l u : Option Int} {Q : PyData → Prop} : slQ (.list ds) l u Q = Q (.list (cutD ds l u)) := rfl
theorem q_slt {ds : List PyData} {l u : Option Int} {Q : PyData → Prop} : slQ (.tuple ds) l u Q = False := rfl
theorem q_slr {rs : List (Int × Int)} {l u : Option Int} {Q : PyData → Prop} : slQ (rowD rs) l u Q = False := rfl
theorem atI_map {α β : Type} (f : α → β) (xs : List α) (i : Int) : atI (xs.map f) i = (atI xs i).map f := by
  unfold atI
  rw [List.length_map]
  cases ixN xs.length i with
  | none => rfl
  | some j => exact List.getElem?_map
theorem exAt {α β : Type} {f : α → β} {xs : List α} {i : Int} {Q : β → Prop} : (∃ z, atI (xs.map f) i = some z ∧ Q z) = ∃ t, atI xs i = some t ∧ Q (f t) := propext (by
  rw [atI_map]
  cases atI xs i with
  | none => simp
  | some t => simp)
theorem optD_inj1 {a b : Option Int} (h : optD a = optD b) : a = b := by
  cases a <;> cases b <;> cases h <;> rfl
theorem exOpt {o : Option Int} {P : Option Int → Prop} : (∃ o' : Option Int, optD o = optD o' ∧ P o') = P o := propext ⟨fun ⟨o', e, h⟩ => by
  rw [optD_inj1 e]
  exact h, fun h => ⟨o, rfl, h⟩⟩
theorem q_isno {o : Option Int} : isNone (optD o) = o.isNone := by cases o <;> rfl
def dropX (o : Option SV) : Option SV := match o with
  | some (.own _) => none
  | x => x
theorem q_dropc {x : Option SV} {env : Denv} : dropO (x :: env) = dropX x :: dropO env := rfl
theorem q_dropxd {d : PyData} : dropX (some (.dat d)) = some (.dat d) := rfl
theorem q_dropxb : dropX (some .bag) = some .bag := rfl
theorem q_dropxo {ds : List PyData} : dropX (some (.own ds)) = none := rfl
theorem q_dropxn : dropX none = none := rfl
def parQ (ds : List PyData) (P : PyData → PyData → Prop) : Prop := ∃ x y, ds = [x, y] ∧ P x y
def parQ3 (ds : List PyData) (P : PyData → PyData → PyData → Prop) : Prop := ∃ x y z, ds = [x, y, z] ∧ P x y z
theorem q_par {i j : Nat} {dn : DN} {D : DEnds} {env : Denv} : dPar i j dn D env = dn env fun ds => parQ ds fun x y => D.nx ((env.set i (some (.dat x))).set j (some (.dat y))) := rfl
theorem q_par3 {i j l : Nat} {dn : DN} {D : DEnds} {env : Denv} : dPar3 i j l dn D env = dn env fun ds => parQ3 ds fun x y z => D.nx (((env.set i (some (.dat x))).set j (some (.dat y))).set l (some (.dat z))) := rfl
theorem q_parQ {x y : PyData} {P : PyData → PyData → Prop} : parQ [x, y] P = P x y := propext ⟨fun ⟨_, _, e, h⟩ => by
  cases e
  exact h, fun h => ⟨x, y, rfl, h⟩⟩
theorem q_parQ3 {x y z : PyData} {P : PyData → PyData → PyData → Prop} : parQ3 [x, y, z] P = P x y z := propext ⟨fun ⟨_, _, _, e, h⟩ => by
  cases e
  exact h, fun h => ⟨x, y, z, rfl, h⟩⟩
theorem q_addr1 {rs : List (Int × Int)} {t : Int × Int} {Q : PyData → Prop} : addD (rowD rs) (.tuple [tkD t]) Q = (rs.length + 1 ≤ 1000000 ∧ Q (rowD (rs ++ [t]))) := by
  show ((rs.map tkD).length + 1 ≤ 1000000 ∧ Q (.tuple (rs.map tkD ++ [tkD t]))) = _
  rw [List.length_map, rowD, List.map_append]
  rfl
theorem q_addrr {rs rs' : List (Int × Int)} {Q : PyData → Prop} : addD (rowD rs) (rowD rs') Q = (rs.length + rs'.length ≤ 1000000 ∧ Q (rowD (rs ++ rs'))) := by
  show ((rs.map tkD).length + (rs'.map tkD).length ≤ 1000000 ∧ Q (.tuple (rs.map tkD ++ rs'.map tkD))) = _
  rw [List.length_map, List.length_map, rowD, List.map_append]
theorem tkD_mk {e c : Int} : PyData.tuple [.int e, .int c] = tkD (e, c) := rfl
theorem q_ixk0 {t : Int × Int} {Q : PyData → Prop} : ixD (tkD t) (.int 0) Q = Q (.int t.1) := propext ⟨fun ⟨z, e, h⟩ => by
  cases e
  exact h, fun h => ⟨_, rfl, h⟩⟩
theorem q_ixk1 {t : Int × Int} {Q : PyData → Prop} : ixD (tkD t) (.int 1) Q = Q (.int t.2) := propext ⟨fun ⟨z, e, h⟩ => by
  cases e
  exact h, fun h => ⟨_, rfl, h⟩⟩
theorem small_of {i : Int} (h1 : -1000000000000000000000000000000000000000000000000000000000000 ≤ i) (h2 : i ≤ 1000000000000000000000000000000000000000000000000000000000000) : i.natAbs < 2 ^ 1000 := by
  have : (1000000000000000000000000000000000000000000000000000000000000 : Nat) < 2 ^ 1000 := by decide
  omega
def rngQ2 (ds : List PyData) (Q : List PyData → Prop) : Prop := ∃ i j : Int, ds = [.int i, .int j] ∧ (-(2 ^ 62) ≤ i ∧ i < 2 ^ 62 ∧ -(2 ^ 62) ≤ j ∧ j < 2 ^ 62) ∧ Q (rngD i (j - i).toNat)
theorem q_rng2 {i j : Int} {Q : List PyData → Prop} : rngQ2 [.int i, .int j] Q = ((-(2 ^ 62) ≤ i ∧ i < 2 ^ 62 ∧ -(2 ^ 62) ≤ j ∧ j < 2 ^ 62) ∧ Q (rngD i (j - i).toNat)) := propext ⟨fun ⟨_, _, e, h⟩ => by
  cases e
  exact h, fun h => ⟨i, j, rfl, h⟩⟩
theorem q_itR2 {dn : DN} {env : Denv} {Q : List PyData → Prop} : itR2 dn env Q = dn env fun ds => rngQ2 ds Q := rfl
theorem eqv_tks (ns ms : List (Int × Int)) : PyData.eqv (.list (ns.map tkD)) (.list (ms.map tkD)) = decide (ns = ms) := by
  rw [PyData.eqv, eqvAll_tks]
theorem q_addr2 {rs : List (Int × Int)} {t u : Int × Int} {Q : PyData → Prop} : addD (rowD rs) (.tuple [tkD t, tkD u]) Q = (rs.length + 2 ≤ 1000000 ∧ Q (rowD (rs ++ [t, u]))) := by
  show ((rs.map tkD).length + 2 ≤ 1000000 ∧ Q (.tuple (rs.map tkD ++ [tkD t, tkD u]))) = _
  rw [List.length_map, rowD, List.map_append]
  rfl
theorem rowD_fold {rs : List (Int × Int)} : PyData.tuple (rs.map tkD) = rowD rs := rfl
theorem at_last {α : Type} (l : List α) (x : α) : atI (l ++ [x]) (-1) = some x := by
  unfold atI
  have : ixN (l ++ [x]).length (-1) = some l.length := by
    unfold ixN
    rw [List.length_append, List.length_singleton]
    have h1 : ¬ (0 : Int) ≤ -1 := by decide
    simp
    omega
  rw [this]
  show (l ++ [x])[l.length]? = some x
  simp
theorem q_lstrg {da : DE} {env : Denv} {Q : List PyData → Prop} : nListRg da env Q = da env fun d => ∃ n : Int, d = .int n ∧ (0 ≤ n ∧ n ≤ 100000) ∧ Q (rngD 0 n.toNat) := rfl
end Pd

set_option maxRecDepth 100000
set_option maxHeartbeats 4000000
/-! ### zip of lists and tuples in any mix -/
namespace Pd
open PySem PySem.Spec PyProof.Rows L2
open Evl (Ex)
def ItzK (K : PySem.W.Frag) (ka kb : Bool) (a b : Addr) : It :=
  ⟨fun i H => ∃ (xs ys : List V) (x y : V), SqK ka K H a xs ∧ SqK kb K H b ys ∧ xs[i]? = some x ∧ ys[i]? = some y,
    fun i H v H' => ∃ T x y, v = V.ref T ∧ H T = none ∧ (∃ o : Obj, o.dict = none ∧ H' = upd H T (.frz o (.tup [x, y]))) ∧ (∀ xs, SqK ka K H a xs → xs[i]? = some x) ∧ ∀ ys, SqK kb K H b ys → ys[i]? = some y,
    fun i H => ∃ xs ys : List V, SqK ka K H a xs ∧ SqK kb K H b ys ∧ i = min xs.length ys.length⟩
theorem turn_zipK {P : Program} {w : World} {K : PySem.W.Frag} {elts : List Expr} {kk : Nat} {tpos : Pos} {ka kb : Bool} {a b z TI TO i1 i2 : Addr} (S : ZipSep2 z TI TO i1 i2 [i1, a] [i2, b]) (hai : a ≠ i1) (hbi : b ≠ i2) :
    Turn P w K (.Tuple elts kk tpos) (ItzK K ka kb a b) [z, TI, TO, i1, i2] z (fun i h => IsZip h z TI TO .none ∧ IsTupOf2 h TI (.ref i1) (.ref i2) ∧ (∃ x y, IsTupOf2 h TO x y) ∧ ItK ka h i1 a i ∧ ItK kb h i2 b i) where
  mem := by simp
  obj := fun i h st c hc => by
    obtain ⟨hz, hTI, ⟨x, y, hTO⟩, h1, h2⟩ := st
    rcases (show c = z ∨ c = TI ∨ c = TO ∨ c = i1 ∨ c = i2 by simpa using hc) with rfl | rfl | rfl | rfl | rfl
    · exact ⟨_, hz, fun v q => nomatch q⟩
    · exact ⟨_, hTI, fun v q => nomatch q⟩
    · exact ⟨_, hTO, fun v q => nomatch q⟩
    · exact itK_obj h1
    · exact itK_obj h2
  keep := fun i h h' st k => by
    obtain ⟨hz, hTI, ⟨x, y, hTO⟩, h1, h2⟩ := st
    refine ⟨k z (by simp) _ hz, k TI (by simp) _ hTI, ⟨x, y, k TO (by simp) _ hTO⟩, itK_at h1 fun o q => k i1 (by simp) o q, itK_at h2 fun o q => k i2 (by simp) o q⟩
  item := by
    intro X hP hw hK hc i pins s σ H E I hf st hg
    subst hP hw hK
    obtain ⟨hz, hTI, ⟨x0, y0, hTO⟩, h1, h2⟩ := st
    obtain ⟨xs, ys, x, y, hqx, hqy, hx, hy⟩ := hg
    obtain ⟨its, rv, p, _⟩ := sqK_is I hqx
    obtain ⟨its2, rv2, p2, _⟩ := sqK_is I hqy
    obtain ⟨u, hu, ru⟩ := rv.get hx
    obtain ⟨u2, hu2, ru2⟩ := rv2.get hy
    have hzl : z < s.heap.objs.size := Heap.lt_size hz
    have lt1 : i < its.toArray.size := by
      have := (List.getElem?_eq_some_iff.mp hu).1
      simpa using this
    have lt2 : i < its2.toArray.size := by
      have := (List.getElem?_eq_some_iff.mp hu2).1
      simpa using this
    refine wpAny_pyNext_zipD2_item S (drawsK (A := X.A.in1) (I.ok.hd hc) ka i1 a hai its.toArray) (drawsK (A := X.A.in1) (I.ok.hd hc) kb i2 b hbi its2.toArray) hz hTI hTO ⟨h1, p⟩ ⟨h2, p2⟩ lt1 lt2 fun y1 y2 h' tk e1 e2 z' TO' st1 st2 hT hsz hk => ?_
    have ey1 : u = y1 := by
      have q : its.toArray[i]? = some u := by simpa using hu
      rw [q] at e1
      exact Option.some.inj e1
    have ey2 : u2 = y2 := by
      have q : its2.toArray[i]? = some u2 := by simpa using hu2
      rw [q] at e2
      exact Option.some.inj e2
    subst ey1 ey2
    refine ⟨_, rfl, wpAny_letOwnedTupleGo_zip (s := { s with heap := h', toks := tk }) z' fun h'' z'' sb => ?_⟩
    have hT2 : h''.get? s.heap.objs.size = some { cls := .type "tuple", data := .seq #[u, u2] } := (sb.2 _ (Nat.ne_of_gt hzl)).trans hT
    have ok : ObjOk X.prog X.w (upd H s.heap.objs.size (.frz { cls := .type "tuple", data := .seq #[u, u2] } (.tup [x, y]))) h'' s.heap.objs.size (.frz { cls := .type "tuple", data := .seq #[u, u2] } (.tup [x, y])) := ⟨hT2, show 2 ≤ sizeLine by decide, [u, u2], .cons ru (.cons ru2 .nil), ⟨_, hT2, rfl, _, rfl⟩⟩
    have kept : ∀ c o, c ∉ [z, TI, TO, i1, i2] → s.heap.get? c = some o → h''.get? c = some o := fun c o hcn q => by
      have n0 : c ≠ z := fun w => hcn (by simp [w])
      have n1 : c ≠ TO := fun w => hcn (by simp [w])
      have n2 : c ≠ i1 := fun w => hcn (by simp [w])
      have n3 : c ≠ i2 := fun w => hcn (by simp [w])
      exact (sb.2 c n0).trans (hk c o n0 n1 n2 n3 q)
    have I1 : Inv X pins σ (upd H s.heap.objs.size (.frz { cls := .type "tuple", data := .seq #[u, u2] } (.tup [x, y]))) { s with heap := h'', toks := tk } := I.turnedNew (ch := [z, TI, TO, i1, i2]) kept hf (Nat.le_refl _) ok
    refine ⟨.ref s.heap.objs.size, _, I1, rfl, ⟨_, x, y, rfl, I.hok.fresh (Nat.le_refl _), ⟨_, rfl, rfl⟩, fun l hl => by rw [sqK_inj I hl hqx]; exact hx, fun l hl => by rw [sqK_inj I hl hqy]; exact hy⟩, ⟨z'', ?_, ⟨u, u2, ?_⟩, ?_, ?_⟩, fun c hcm => ?_⟩
    · exact (sb.2 _ S.TIz).trans (hk _ _ S.TIz S.TITO S.TIi1 S.TIi2 hTI)
    · exact (sb.2 _ S.TOz).trans TO'
    · exact itK_at st1.1 fun o q => (sb.2 _ S.zi1.symm).trans q
    · exact itK_at st2.1 fun o q => (sb.2 _ S.zi2.symm).trans q
    · have hlt : c < s.heap.objs.size := by
        rcases (show c = z ∨ c = TI ∨ c = TO ∨ c = i1 ∨ c = i2 by simpa using hcm) with rfl | rfl | rfl | rfl | rfl
        · exact hzl
        · exact Heap.lt_size hTI
        · exact Heap.lt_size hTO
        · obtain ⟨o, e, _⟩ := itK_obj h1
          exact Heap.lt_size e
        · obtain ⟨o, e, _⟩ := itK_obj h2
          exact Heap.lt_size e
      rw [upd_ne (Nat.ne_of_lt hlt)]
      exact (hf c hcm).1
  done := by
    intro X hP hw hK hc i pins s σ H E I hf st hg
    subst hP hw hK
    obtain ⟨hz, hTI, ⟨x0, y0, hTO⟩, h1, h2⟩ := st
    obtain ⟨xs, ys, hqx, hqy, hend⟩ := hg
    obtain ⟨its, rv, p, _⟩ := sqK_is I hqx
    obtain ⟨its2, rv2, p2, _⟩ := sqK_is I hqy
    have l1 : its.toArray.size = xs.length := by
      rw [rv.length]
      simp
    have l2 : its2.toArray.size = ys.length := by
      rw [rv2.length]
      simp
    refine wpAny_pyNext_zipD2_end S (drawsK (A := X.A.in1) (I.ok.hd hc) ka i1 a hai its.toArray) (drawsK (A := X.A.in1) (I.ok.hd hc) kb i2 b hbi its2.toArray) hz hTI hTO ⟨h1, p⟩ ⟨h2, p2⟩ (by omega) (by omega) (by omega) fun h' tk hk => ⟨rfl, I.turnedL (t' := tk) (ch := [z, TI, TO, i1, i2]) (fun c o hcn q => ?_) hf⟩
    have n0 : c ≠ z := fun w => hcn (by simp [w])
    have n1 : c ≠ TO := fun w => hcn (by simp [w])
    have n2 : c ≠ i1 := fun w => hcn (by simp [w])
    have n3 : c ≠ i2 := fun w => hcn (by simp [w])
    exact hk c o n0 n1 n2 n3 q
  self := fun A i s Q E st h => wpAny_pyIter_zip st.1 h
def iZipK (K : PySem.W.Frag) (ta : TA) : TI := fun σ H R => ta σ H fun vs H1 => ∃ ka kb a b xs ys, vs = [.ref a, .ref b] ∧ SqK ka K H1 a xs ∧ SqK kb K H1 b ys ∧ R (ItzK K ka kb a b) H1
theorem pi_zipK {X : Cx} {e e2 : Expr} {ta : TA} {p pos tpos : Pos} {elts : List Expr} {kk : Nat} (hg : Gl X "zip") (hm : X.mg "zip" = none) (ha : PA X [e, e2] ta)
    (h1 : starEach [e, e2] X.env = (false, eval e X.env) :: starEach [e2] X.env := by rfl) (h2 : (backTo pos (starEach [e2] X.env)).any (·.1) = false := by rfl) :
    PI X (.Tuple elts kk tpos) (.Call (.Name "zip" p) [e, e2] [] pos) (iZipK X.K ta) := ⟨fun pins s σ H R I h => by
  refine Call_ (ld_blt I hg hm PyProof.Rows.boot_zip (PyProof.Rows.callWith_type1 (thn (ha.run pos pins s σ H _ I h) fun us s1 ⟨vs, H1, I1, r1, ka, kb, a, b, xs, ys, ev, hqx, hqy, q⟩ => ?_) h1 h2))
  subst ev
  obtain ⟨u1, u2, rfl, ra, rb⟩ := r1.two
  cases ra
  cases rb
  obtain ⟨its, rv, p1, la⟩ := sqK_is I1 hqx
  obtain ⟨its2, rv2, p2, lb⟩ := sqK_is I1 hqy
  refine zip_begins2 (beginsK ka a its.toArray) (beginsK kb b its2.toArray) p1 p2 fun h' hz hTI hTO g1 g2 hsz hk => wpAny_pyIter_zip hz ?_
  have I2 : Inv X pins σ H1 { s1 with heap := h' } := I1.kept (t' := s1.toks) hk
  refine ⟨s1.heap.objs.size + 4, [s1.heap.objs.size + 4, s1.heap.objs.size + 2, s1.heap.objs.size + 3, s1.heap.objs.size, s1.heap.objs.size + 1], _, _, H1, rfl, I2,
    turn_zipK (zip_sep2 (N := s1.heap.objs.size) (fp1 := [a]) (fp2 := [b]) (fun c hc => ?_) (fun c hc => ?_)) (Nat.ne_of_lt la) (Nat.ne_of_lt (Nat.lt_succ_of_lt lb)), ⟨hz, hTI, ⟨_, _, hTO⟩, itK_new g1, itK_new g2⟩, fun c hc => ?_, q⟩
  · rw [show c = a by simpa using hc]
    exact la
  · rw [show c = b by simpa using hc]
    exact lb
  · have hle : s1.heap.objs.size ≤ c := by
      rcases (show c = s1.heap.objs.size + 4 ∨ c = s1.heap.objs.size + 2 ∨ c = s1.heap.objs.size + 3 ∨ c = s1.heap.objs.size ∨ c = s1.heap.objs.size + 1 by simpa using hc) with z | z | z | z | z <;> rw [z] <;> first | exact Nat.le_refl _ | exact Nat.le_add_right _ _
    exact I1.fpOk hle (I1.hok.fresh hle)⟩
/-- pairs -/
def zipP : List PyData → List PyData → List PyData
  | x :: xs, y :: ys => .tuple [x, y] :: zipP xs ys
  | _, _ => []
theorem zipP_len : ∀ xs ys : List PyData, (zipP xs ys).length = min xs.length ys.length
  | x :: xs, y :: ys => by
    show (zipP xs ys).length + 1 = min (xs.length + 1) (ys.length + 1)
    rw [zipP_len xs ys]
    omega
  | [], ys => by simp [zipP]
  | x :: xs, [] => by simp [zipP]
theorem zipP_get : ∀ {xs ys : List PyData} {i : Nat} {d : PyData}, (zipP xs ys)[i]? = some d → ∃ x y, xs[i]? = some x ∧ ys[i]? = some y ∧ d = .tuple [x, y]
  | x :: xs, y :: ys, 0, d, h => ⟨x, y, rfl, rfl, by simpa [zipP] using h.symm⟩
  | x :: xs, y :: ys, i + 1, d, h => by
    obtain ⟨u, v, h1, h2, h3⟩ := zipP_get (xs := xs) (ys := ys) (i := i) (by simpa [zipP] using h)
    exact ⟨u, v, by simpa using h1, by simpa using h2, h3⟩
  | [], ys, i, d, h => by simp [zipP] at h
  | x :: xs, [], i, d, h => by simp [zipP] at h
def zipQ (ds : List PyData) (Q : List PyData → Prop) : Prop := ∃ x y xs ys, ds = [x, y] ∧ seqD x = some xs ∧ seqD y = some ys ∧ Q (zipP xs ys)
def itZip (dn : DN) : DN := fun env Q => dn env fun ds => zipQ ds Q
theorem dt_seq {K : PySem.W.Frag} {F : Hp} {v : V} {d : PyData} {ds : List PyData} (t : Dt F v d) (h : seqD d = some ds) : ∃ (k : Bool) (a : Addr) (vs : List V), v = .ref a ∧ DtA F vs ds ∧ ∀ H, Ex F H → SqK k K H a vs := by
  cases t with
  | @lst a xs ds' h1 h2 =>
    cases h
    exact ⟨false, a, xs, rfl, h2, fun H e => SqL.of (e _ _ h1)⟩
  | @tup a xs ds' h1 h2 =>
    cases h
    exact ⟨true, a, xs, rfl, h2, fun H e => h1.sq e⟩
  | _ => cases h
theorem pid_zip {X : Cx} {a b : Expr} {tA : TA} {dn : DN} {p pos tpos : Pos} {elts : List Expr} {kk : Nat} (hg : Gl X "zip") (hm : X.mg "zip" = none) (h : PAf X [a, b] tA dn)
    (h1 : starEach [a, b] X.env = (false, eval a X.env) :: starEach [b] X.env := by rfl) (h2 : (backTo pos (starEach [b] X.env)).any (·.1) = false := by rfl) :
    PId X (.Tuple elts kk tpos) (.Call (.Name "zip" p) [a, b] [] pos) (iZipK X.K tA) (itZip dn) := ⟨pi_zipK hg hm h.pa h1 h2, fun B F H σ env Q R n q k =>
  h.s B F H σ env _ _ n q fun vs ds F' H' ⟨x, y, xs, ys, ed, hx, hy, q'⟩ e' n' r' => by
    subst ed
    cases r' with
    | cons r1 r2 =>
      cases r2 with
      | cons r2 r3 =>
        cases r3
        obtain ⟨ka, la, va, rfl, da, sa⟩ := dt_seq (K := X.K) r1 hx
        obtain ⟨kb, lb, vb, rfl, db, sb⟩ := dt_seq (K := X.K) r2 hy
        refine ⟨ka, kb, la, lb, va, vb, rfl, sa H' n'.g.fh, sb H' n'.g.fh, k _ _ F' H' q' e' n' fun F2 H2 e2 eh => ⟨⟨va, vb, sa H2 (e2.trans eh), sb H2 (e2.trans eh), ?_⟩, fun i d hi => ?_⟩⟩
        · rw [zipP_len, da.len, db.len]
        · obtain ⟨u, v, hu, hv, rfl⟩ := zipP_get hi
          obtain ⟨wu, gu, tu⟩ := (da.up e2).get hu
          obtain ⟨wv, gv, tv⟩ := (db.up e2).get hv
          refine ⟨⟨va, vb, wu, wv, sa H2 (e2.trans eh), sb H2 (e2.trans eh), gu, gv⟩, fun z H'' ⟨T, y1, y2, ez, hT, ⟨o, ho, eH⟩, q1, q2⟩ => ?_⟩
          have z1 := q1 va (sa H2 (e2.trans eh))
          have z2 := q2 vb (sb H2 (e2.trans eh))
          rw [gu] at z1
          rw [gv] at z2
          cases z1
          cases z2
          subst ez eH
          have g : Gro F2 H2 (upd F2 T (.frz o (.tup [wu, wv]))) (upd H2 T (.frz o (.tup [wu, wv]))) := .new hT
          exact ⟨_, g, .tup (.new ho) (.cons (tu.up (g.ex eh)) (.cons (tv.up (g.ex eh)) .nil))⟩⟩
theorem q_zip {dn : DN} {env : Denv} {Q : List PyData → Prop} : itZip dn env Q = dn env fun ds => zipQ ds Q := rfl
theorem q_zipQ {x y : PyData} {Q : List PyData → Prop} : zipQ [x, y] Q = ∃ xs, seqD x = some xs ∧ ∃ ys, seqD y = some ys ∧ Q (zipP xs ys) := propext ⟨fun ⟨_, _, xs, ys, e, h1, h2, h⟩ => by
  cases e
  exact ⟨xs, h1, ys, h2, h⟩, fun ⟨xs, h1, ys, h2, h⟩ => ⟨x, y, xs, ys, rfl, h1, h2, h⟩⟩
end Pd

set_option maxRecDepth 100000
set_option maxHeartbeats 4000000
/-! ### t.index(k), t a tuple of ints that is locked -/
namespace Pd
open PySem PySem.Spec PyProof.Rows L2
open Evl (Ex)
def ixOf (k : Int) : List Int → Nat
  | [] => 0
  | n :: ns => if n = k then 0 else ixOf k ns + 1
theorem ixOf_at {k : Int} : ∀ {ns : List Int}, k ∈ ns → ns[ixOf k ns]? = some k ∧ ∀ m, m < ixOf k ns → ns[m]? ≠ some k
  | [], h => by simp at h
  | n :: ns, h => by
    unfold ixOf
    by_cases hn : n = k
    · rw [if_pos hn]
      exact ⟨by simp [hn], fun m hm => by omega⟩
    · rw [if_neg hn]
      obtain ⟨h1, h2⟩ := ixOf_at (ns := ns) (by
        rcases List.mem_cons.mp h with z | z
        · exact absurd z.symm hn
        · exact z)
      refine ⟨by simpa using h1, fun m hm => ?_⟩
      cases m with
      | zero => simpa using hn
      | succ m => simpa using h2 m (by omega)
theorem flatInts (ns : List Int) : (ns.map V.int).all flatV = true := by
  rw [List.all_map]
  exact List.all_eq_true.mpr fun _ _ => rfl
def tIdx (ta tb : TE) : TE := fun σ H Q => ta σ H fun x H1 => ∃ (p : Addr) (o : Obj) (ns : List Int), x = .ref p ∧ H1 p = some (.frz o (.tup (ns.map V.int))) ∧ o.dict = none ∧
  tb σ H1 fun y H2 => ∃ k : Int, y = .int k ∧ k ∈ ns ∧ H2 p = some (.frz o (.tup (ns.map V.int))) ∧ Q (.int (ixOf k ns : Nat)) H2
theorem pe_idx {X : Cx} {a b : Expr} {ta tb : TE} {apos cpos : Pos} (ha : PE X a ta) (hb : PE X b tb) (hbase : attributeBase a "index" X.env (eval a X.env) = eval a X.env := by rfl)
    (hfew : ((backTo cpos (starEach [b] X.env)).all (fun x => !x.1) && (backToKw cpos (keywordEach [] X.env)).all (fun x => x.1.isSome)
      && decide ([b].length + ([] : List Keyword).length + (if ([] : List Keyword).isEmpty then 0 else 1) < 30)) = true := by rfl)
    (hline : (apos.endLine == cpos.line) = true := by rfl) (hs : starEach [b] X.env = (false, eval b X.env) :: starEach [] X.env := by rfl) (hpl : (backTo cpos (starEach [] X.env)).any (·.1) = false := by rfl) :
    PE X (.Call (.Attribute a "index" apos) [b] [] cpos) (tIdx ta tb) := ⟨fun pins s σ H Q I h => by
  refine wpAny_Call_method_late hbase hfew hline rfl (thn (ha.run pins s σ H _ I h) fun v s1 ⟨x, H1, I1, r1, p, o, ns, ex, hp, hd, q1⟩ => ?_)
  subst ex
  obtain rfl : v = Value.ref p := r1
  obtain ⟨g1, _, its, rv, o', g2, hc, n, hdt⟩ := I1.hok p _ hp
  obtain rfl : o' = o := by
    rw [g1] at g2
    exact (Option.some.inj g2).symm
  refine ⟨"tuple", "tuple.index", PySem.F.plainAttrs_tuple, PySem.F.slot_tuple_index, PySem.F.type_tuple_index, ⟨o', g1, hc⟩, fun z ez => ?_, ?_⟩
  · cases ez
    exact ⟨o', g1, hd⟩
  rw [hs]
  refine Calls.callWith_builtin (by show (false || (backTo cpos (starEach [] X.env)).any (·.1)) = false; rw [hpl] <;> rfl) (Calls.evalArgs_plain ?_)
  refine Calls.spliced_cons (thn (hb.run pins s1 σ H1 _ I1 q1) fun u s2 ⟨y, H2, I2, r2, k, ey, hk, hp2, q2⟩ => Calls.spliced_nil ?_)
  subst ey
  obtain ⟨t, rfl⟩ := r2
  obtain ⟨f1, _, its2, rv2, ⟨cls, dd, dt, sl⟩, f2, fc, n2, fd⟩ := I2.hok p _ hp2
  dsimp only at fc fd
  subst fc fd
  obtain ⟨j1, j2⟩ := ixOf_at hk
  have hl : its2.toArray.size = ns.length := by rw [List.size_toArray, ← rv2.length, List.length_map]
  have hj : ixOf k ns < its2.toArray.size := by
    rw [hl]
    exact (List.getElem?_eq_some_iff.mp j1).1
  have at' : ∀ (m : Nat) (hm : m < its2.toArray.size), ∃ y t', ns[m]? = some y ∧ its2.toArray[m] = Value.int y t' := fun m hm => by
    have hm' : m < ns.length := by rw [← hl]; exact hm
    obtain ⟨w, hw, t', hw'⟩ := rv2.get (i := m) (x := .int ns[m]) (by simp [hm'])
    refine ⟨ns[m], t', List.getElem?_eq_getElem hm', ?_⟩
    have e := (List.getElem?_eq_some_iff.mp hw).2
    rw [← hw', ← e]
    simp
  refine call_meets PySem.F.slot_tuple_index ⟨_, f2, rfl⟩ PySem.F.entry_tuple_index (PySem.F.args_tuple_index_2 _ _) (TI.tuple_indexAt p its2.toArray n2 dd sl (.int k t) (eqU (.int k)) (ixOf k ns) hj ?_ ?_)
    ⟨f2, fun w hw => mem_eqAt (x := .int k) ⟨t, rfl⟩ rfl rv2 (flatInts ns) w (by simpa using hw), ⟨.int (ixOf k ns : Nat), H2, I2.tok _, ⟨_, rfl⟩, q2⟩⟩
  · obtain ⟨y, t', h1, h2⟩ := at' (ixOf k ns) hj
    rw [j1] at h1
    cases h1
    rw [h2]
    simp [eqU, eqV]
  · intro m hm hmj
    obtain ⟨y, t', h1, h2⟩ := at' m hm
    rw [h2]
    have := j2 m hmj
    rw [h1] at this
    have hne : y ≠ k := fun z => this (by rw [z])
    simp [eqU, eqV, hne]⟩
def dIndex (da db : DE) : DE := fun env Q => da env fun d => ∃ ns : List Int, d = .tuple (ns.map .int) ∧ db env fun y => ∃ k : Int, y = .int k ∧ k ∈ ns ∧ Q (.int (ixOf k ns : Nat))
theorem dtaInts {F : Hp} : ∀ {vs : List V} {ns : List Int}, DtA F vs (ns.map .int) → vs = ns.map V.int
  | [], [], _ => rfl
  | _, [], h => by cases h; rfl
  | _, n :: ns, h => by
    cases h with
    | cons a b =>
      cases a
      rw [dtaInts b]
      rfl
theorem ped_index {X : Cx} {a b : Expr} {ta tb : TE} {da db : DE} {apos cpos : Pos} (ha : PEr X a ta da) (hb : PEr X b tb db) (hbase : attributeBase a "index" X.env (eval a X.env) = eval a X.env := by rfl)
    (hfew : ((backTo cpos (starEach [b] X.env)).all (fun x => !x.1) && (backToKw cpos (keywordEach [] X.env)).all (fun x => x.1.isSome)
      && decide ([b].length + ([] : List Keyword).length + (if ([] : List Keyword).isEmpty then 0 else 1) < 30)) = true := by rfl)
    (hline : (apos.endLine == cpos.line) = true := by rfl) (hs : starEach [b] X.env = (false, eval b X.env) :: starEach [] X.env := by rfl) (hpl : (backTo cpos (starEach [] X.env)).any (·.1) = false := by rfl) :
    PEd X (.Call (.Attribute a "index" apos) [b] [] cpos) (tIdx ta tb) (dIndex da db) := ⟨pe_idx ha.pe hb.pe hbase hfew hline hs hpl, fun B F H σ env Q Qv n q k =>
  ha.s B F H σ env _ _ n q fun v d F1 H1 ⟨ns, ed, q1⟩ e1 n1 r1 => by
    subst ed
    obtain ⟨l, vs, rfl, ⟨o, h1, ho⟩, h2⟩ := (r1.rb n1).tuple
    rw [dtaInts h2] at h1
    refine ⟨l, o, ns, rfl, n1.g.fh _ _ h1, ho, hb.s B F1 H1 σ env _ _ n1 q1 fun w e F2 H2 ⟨kk, ek, hk, q2⟩ e2 n2 r2 => ?_⟩
    subst ek
    exact ⟨kk, (r2.rb n2).int, hk, n2.g.fh _ _ (e2 _ _ h1), k _ _ F2 H2 q2 (e1.trans e2) n2 (.int _)⟩⟩
/-! a, b, c = x, y, [] -/
def dParDDE (i j l : Nat) (t u : DE) : DS := fun D env => t env fun d => u env fun e => D.nx (((env.set i (some (.dat d))).set j (some (.dat e))).set l (some (.own [])))
theorem rs_parDDE {X : Cx} {a b : Expr} {ta tb : TE} {da db : DE} {pos lp : Pos} {i j l : Nat} {x y z : Str} {px py pz pt : Pos} {kt k2 pt2} (hc : X.calm = true) (hN : X.N.Nodup) (hi : X.N[i]? = some x) (hj : X.N[j]? = some y) (hl : X.N[l]? = some z) (hij : i ≠ j) (hil : i ≠ l) (hjl : j ≠ l)
    (hx : X.env.scope.names.lookup x = some .local) (hy : X.env.scope.names.lookup y = some .local) (hz : X.env.scope.names.lookup z = some .local) (ha : PEd X a ta da) (hb : PEd X b tb db)
    (hw : swappedStores [.Tuple [.Name x px, .Name y py, .Name z pz] kt pt] (.Tuple [a, b, .List [] lp] k2 pt2) X.env = pure (some [x, y, z]))
    (hs : swapsWithSole [.Tuple [.Name x px, .Name y py, .Name z pz] kt pt] (.Tuple [a, b, .List [] lp] k2 pt2) pos.line X.env = pure false := by rfl)
    (h1 : starEach [a, b, .List [] lp] X.env = (false, eval a X.env) :: starEach [b, .List [] lp] X.env := by rfl) (h2 : starEach [b, .List [] lp] X.env = (false, eval b X.env) :: starEach [.List [] lp] X.env := by rfl) (h3 : starEach [.List [] lp] X.env = (false, eval (.List [] lp) X.env) :: starEach [] X.env := by rfl) :
    PSd X (.Assign [.Tuple [.Name x px, .Name y py, .Name z pz] kt pt] (.Tuple [a, b, .List [] lp] k2 pt2) pos) (tPar3 i j l (tCons ta (tCons tb (tCons (tLst tNil) tNil)))) (dParDDE i j l da db) :=
  ⟨ps_par3 hc hN hi hj hl hij hil hjl hx hy hz (pa_cons ha.pe (pa_cons hb.pe (pa_cons (pe_lst pa_nil) pa_nil h3) h2) h1) hw hs, fun B F H σ env D Dd n k q =>
    ha.s B F H σ env _ _ n q fun v d F1 H1 q1 e1 n1 t1 => hb.s B F1 H1 σ env _ _ n1 q1 fun w e F2 H2 q2 e2 n2 t2 => ⟨Nat.zero_le _, fun p hp => by
      have m2 := (n2.setD (i := i) (t1.up e2)).setD (i := j) t2
      obtain ⟨f1, f2⟩ := Fresh.of m2 hp DtA.nil
      exact ⟨_, _, _, rfl, k.nx F2 _ _ _ (e1.trans e2) (f2.setN f1) q2⟩⟩⟩
end Pd

set_option maxRecDepth 100000
set_option maxHeartbeats 4000000
/-! Sets of distinct tuples of ints, up to 300 of them; sorted. -/
namespace SQ
open PySem PySem.Spec PyProof.Rows L2
/-! ### each slot is met -/
def Good (m : Nat) : Prop := ∀ i j, i ≤ m → j ≤ m → ∃ k, k ≤ m ∧ lcgI m i k = j
/-- the slots that the first n steps meet, as bits -/
def met (m : Nat) : Nat → Nat
  | 0 => 0
  | n + 1 => met m n ||| 2 ^ lcgN m n
theorem met_bit (m j : Nat) : ∀ n, (met m n).testBit j = true → ∃ b, b < n ∧ lcgN m b = j
  | 0, h => by
    unfold met at h
    rw [Nat.zero_testBit] at h
    cases h
  | n + 1, h => by
    unfold met at h
    rw [Nat.testBit_or, Bool.or_eq_true] at h
    rcases h with h | h
    · obtain ⟨b, h1, h2⟩ := met_bit m j n h
      exact ⟨b, Nat.lt_succ_of_lt h1, h2⟩
    · rw [Nat.testBit_two_pow] at h
      exact ⟨n, Nat.lt_succ_self n, of_decide_eq_true h⟩
theorem good_by {m : Nat} (h1 : met m (m + 1) = 2 ^ (m + 1) - 1) (h2 : lcgN m (m + 1) = 0) : Good m := by
  have all : ∀ j, j ≤ m → ∃ b, b ≤ m ∧ lcgN m b = j := fun j hj => by
    obtain ⟨b, hb, e⟩ := met_bit m j (m + 1) (by rw [h1, Nat.testBit_two_pow_sub_one]; exact decide_eq_true (by omega))
    exact ⟨b, by omega, e⟩
  have per : ∀ k, lcgN m (m + 1 + k) = lcgN m k := fun k => by
    induction k with
    | zero => exact h2
    | succ k ih =>
      show (lcgN m (m + 1 + k) * 5 + 1) % (m + 1) = (lcgN m k * 5 + 1) % (m + 1)
      rw [ih]
  intro i j hi hj
  obtain ⟨a, a1, rfl⟩ := all i hi
  obtain ⟨b, b1, rfl⟩ := all j hj
  by_cases c : a ≤ b
  · exact ⟨b - a, by omega, by rw [lcgN_add, show a + (b - a) = b by omega]⟩
  · exact ⟨b + (m + 1) - a, by omega, by rw [lcgN_add, show a + (b + (m + 1) - a) = m + 1 + b by omega, per]⟩
def Sz (m : Nat) : Prop := m = 7 ∨ m = 31 ∨ m = 127 ∨ m = 511
theorem good_sz {m : Nat} (h : Sz m) : Good m := by
  rcases h with rfl | rfl | rfl | rfl
  · exact good_by (by decide +kernel) (by decide +kernel)
  · exact good_by (by decide +kernel) (by decide +kernel)
  · exact good_by (by decide +kernel) (by decide +kernel)
  · exact good_by (by decide +kernel) (by decide +kernel)
theorem meets {m : Nat} (g : Good m) (h : Int) {j : Nat} (hj : j ≤ m) : ∃ n, n ≤ m + 12 ∧ runI m (SetTable.bits h) n = j := by
  obtain ⟨k, k1, k2⟩ := g _ j (runI_le m (SetTable.bits h) 12) hj
  exact ⟨12 + k, by omega, (runI_tail (bits_lt h) k).trans k2⟩
theorem in_mask (m : Nat) (h : Int) (k : Nat) : way m h k ≤ m := by
  have a : SetTable.bits h % (m + 1) ≤ m := Nat.le_of_lt_succ (Nat.mod_lt _ (Nat.succ_pos _))
  have b := runEnd_bd a
  have c := nth_in (m := m) k (runAt m (SetTable.bits h % (m + 1)) (SetTable.bits h)) (by
    unfold runAt
    dsimp only
    omega)
  exact Nat.le_trans (Nat.le_add_right _ _) c
/-- the first slot of the way that is not in l -/
theorem first {m : Nat} (g : Good m) {l : List Nat} (hl : l.length ≤ m) (h : Int) : ∃ K, K < 10 * SetTable.turns m ∧ way m h K ∉ l ∧ ∀ k, k < K → way m h k ∈ l := by
  obtain ⟨j, j1, j2⟩ := st_missing l (m + 1) (by omega)
  obtain ⟨n, n1, n2⟩ := meets g h (Nat.le_of_lt_succ j1)
  obtain ⟨k, k1, k2⟩ := run_nth m (SetTable.bits h) n
  have e : way m h k = j := by
    show (nth m _ k).j = j
    rw [k2]
    exact n2
  obtain ⟨K, a, b, c⟩ := st_least (p := fun k => way m h k ∉ l) k (by rw [e]; exact j2)
  exact ⟨K, by unfold SetTable.turns; omega, b, fun k' z => Classical.not_not.mp (c k' z)⟩
/-! ### a table laid anew -/
structure Seat (m n : Nat) (ow : Array (Option Nat)) : Prop where
  sz : ow.size = m + 1
  all : ∀ k, k < n → ∃ j, j ≤ m ∧ oAt ow j = some k
  used : ∃ ps : List Nat, ps.length = n ∧ ∀ j, j ≤ m → oAt ow j ≠ none → j ∈ ps
theorem Seat.next {m n : Nat} (g : Good m) {ow : Array (Option Nat)} (S : Seat m n ow) (hn : n ≤ m) (h : Int) : ∃ j, SetTable.layClean.free m ow (SetTable.turns m) (SetTable.bits h % (m + 1)) (SetTable.bits h) = some j ∧ Seat m (n + 1) (ow.setIfInBounds j (some n)) := by
  obtain ⟨ps, p1, p2⟩ := S.used
  obtain ⟨j0, j1, j2⟩ := st_missing ps (m + 1) (by omega)
  have f0 : oAt ow j0 = none := Classical.not_not.mp fun z => j2 (p2 j0 (Nat.le_of_lt_succ j1) z)
  obtain ⟨r, r1, r2⟩ := meets g h (Nat.le_of_lt_succ j1)
  obtain ⟨i0, hi0⟩ : ∃ i0, i0 = SetTable.bits h % (m + 1) := ⟨_, rfl⟩
  have w0 : way m h (off m i0 (SetTable.bits h) r) = j0 := by
    subst hi0
    show (nth m _ _).j = j0
    rw [nth_off, itL_run]
    exact r2
  obtain ⟨K, k1, k2, k3⟩ := st_least (p := fun k => oAt ow (way m h k) = none) _ (by rw [w0]; exact f0)
  have hj := in_mask m h K
  have hb : way m h K < ow.size := by rw [S.sz]; omega
  refine ⟨way m h K, ?_, ?_⟩
  · rw [← hi0]
    refine (free_spec m ow (SetTable.turns m) r i0 (SetTable.bits h) K (by unfold SetTable.turns; omega) k1 (fun k z => ?_) ?_).trans (by rw [hi0])
    · have z1 := k3 k z
      rw [hi0]
      revert z1
      cases oAt ow (way m h k) with
      | none => exact fun y => absurd rfl y
      | some _ => exact fun _ => rfl
    · rw [hi0]
      exact congrArg Option.isNone k2
  · have me := oAt_set_self (some n) hb
    refine ⟨by rw [Array.size_setIfInBounds]; exact S.sz, fun k z => ?_, way m h K :: ps, by rw [List.length_cons, p1], fun j z1 z2 => ?_⟩
    · by_cases c : k = n
      · exact ⟨_, hj, by rw [me, c]⟩
      · obtain ⟨j, a, b⟩ := S.all k (by omega)
        have ne : j ≠ way m h K := fun y => by
          rw [y, k2] at b
          cases b
        exact ⟨j, a, by rw [oAt_set_ne _ ne]; exact b⟩
    · by_cases c : j = way m h K
      · rw [c]
        exact List.mem_cons_self
      · rw [oAt_set_ne _ c] at z2
        exact List.mem_cons_of_mem _ (p2 j z1 z2)
theorem seat_all {m : Nat} (g : Good m) : ∀ (hs : List Int) (n : Nat) (ow : Array (Option Nat)), Seat m n ow → n + hs.length ≤ m → ∃ ow', hs.foldl (stepF m) (some (ow, n)) = some (ow', n + hs.length) ∧ Seat m (n + hs.length) ow'
  | [], n, ow, S, _ => ⟨ow, rfl, S⟩
  | h :: hs, n, ow, S, hl => by
    rw [List.length_cons] at hl
    obtain ⟨j, j1, j2⟩ := S.next g (by omega) h
    obtain ⟨ow', a, b⟩ := seat_all g hs (n + 1) _ j2 (by omega)
    have e : n + 1 + hs.length = n + (h :: hs).length := by rw [List.length_cons]; omega
    refine ⟨ow', ?_, e ▸ b⟩
    rw [List.foldl_cons, stepF_some j1, a, e]
/-- the table behind relaid -/
theorem relaid_seat (t : SetTable) {hs : Array Int} {wt M : Nat} (hw : SetTable.sizeAbove wt - 1 = M) (g : Good M) (hn : hs.size ≤ M) :
    ∃ t' od, t.relaid hs wt = some (t', od) ∧ od.toList.Perm (List.range hs.size) ∧ Ris t'.place.toList ∧ t'.place.size = hs.size ∧ t'.mask = M ∧ t'.led = t.led ∧ t'.plain = t.plain ∧ t'.dummies = #[] := by
  have S0 : Seat M 0 (Array.replicate (M + 1) none) := ⟨by simp, fun k z => absurd z (Nat.not_lt_zero k), [], rfl, fun j z1 z2 => absurd (oAt_init z1) z2⟩
  obtain ⟨ow, a, S⟩ := seat_all g hs.toList 0 _ S0 (by rw [Array.length_toList]; omega)
  rw [Nat.zero_add, Array.length_toList] at a S
  obtain ⟨r1, r2⟩ := ris_live (fun j => ow.getD j none) (List.range (M + 1)) (by unfold Ris; first | exact List.pairwise_lt_range | exact List.pairwise_lt_range _)
  have r1 : Ris ((liveOf M ow).map (·.1)) := r1
  have len : (liveOf M ow).length = hs.size := by
    obtain ⟨ps, p1, p2⟩ := S.used
    have nd : ((liveOf M ow).map Prod.fst).Nodup := List.Pairwise.imp (fun z => Nat.ne_of_lt z) r1
    have le1 := nat_nodup_len ((liveOf M ow).map Prod.fst) ps nd fun x hx => by
      obtain ⟨⟨y, k⟩, hq, rfl⟩ := List.mem_map.mp hx
      obtain ⟨b1, b2⟩ := (mem_live S.sz).mp hq
      exact p2 y b1 (by rw [b2]; exact fun z => by cases z)
    have le2 := nat_nodup_len (List.range hs.size) ((liveOf M ow).map (·.2)) List.nodup_range fun k hk => by
      obtain ⟨j, b1, b2⟩ := S.all k (List.mem_range.mp hk)
      exact List.mem_map.mpr ⟨_, (mem_live S.sz).mpr ⟨b1, b2⟩, rfl⟩
    rw [List.length_map, p1] at le1
    rw [List.length_map, List.length_range] at le2
    omega
  refine ⟨tabOf t M ow, ((liveOf M ow).map (·.2)).toArray, ?_, ?_, r1, ?_, rfl, rfl, rfl, rfl⟩
  · rw [relaid_eq, hw, layClean_eq, a]
    rfl
  · refine perm_range hs.size _ ((List.length_map _).trans len) fun k hk => ?_
    obtain ⟨j, b1, b2⟩ := S.all k hk
    exact List.mem_map.mpr ⟨_, (mem_live S.sz).mpr ⟨b1, b2⟩, rfl⟩
  · show ((liveOf M ow).map (·.1)).toArray.size = hs.size
    rw [List.size_toArray, List.length_map, len]

/-! ### the set object -/
structure SetQ (P : Program) (w : World) (h : Heap) (a : Addr) (L : List (Addr × List Int)) (es : Array (Int × Value)) (ep : Nat) (t : SetTable) : Prop where
  ob : ∃ o, h.get? a = some o ∧ o.ExactSet ∧ o.data = .set es ep t
  rows : es.toList = rowsOf P w L
  ris : Ris t.place.toList
  dm : t.dummies = #[]
  sz : t.place.size = L.length
  mask : Sz t.mask
  nd : (L.map (·.2)).Nodup
  tup : ∀ p ∈ L, IsT P w h p.2 p.1
  plain : t.plain = true
  led : w.params.followText "set-order" = true ∨ t.led = true
  room : L.length * 5 < t.mask * 3
section
variable {P : Program} {w : World} {A : Around} {E : Value → Shared → Prop} {s : Shared} {a : Addr} {L : List (Addr × List Int)} {es : Array (Int × Value)} {ep : Nat} {t : SetTable}
theorem rows_len {L : List (Addr × List Int)} {es : Array (Int × Value)} (h : es.toList = rowsOf P w L) : es.size = L.length := by
  rw [← Array.length_toList, h, rowsOf, List.length_map]
theorem fits_of {n : Nat} (d : t.dummies = #[]) (z : t.place.size = n) (m : n ≤ t.mask) : t.fits n = true := by
  unfold SetTable.fits SetTable.fill
  rw [d, Bool.and_eq_true, beq_iff_eq, decide_eq_true_eq]
  refine ⟨z, ?_⟩
  show t.place.size + 0 ≤ t.mask
  omega
theorem SetQ.fits (R : SetQ P w s.heap a L es ep t) : t.fits es.size = true := by
  rw [rows_len R.rows]
  have := R.room
  exact fits_of R.dm R.sz (by omega)
theorem SetQ.at_ (R : SetQ P w s.heap a L es ep t) {i : Nat} {p : Addr × List Int} (e : L[i]? = some p) : es[i]? = some (thash P w p.2, Value.ref p.1) := by
  rw [← Array.getElem?_toList, R.rows, rowsOf, List.getElem?_map, e]
  rfl
theorem sz_odd {m : Nat} (h : Sz m) : m % 2 = 1 ∧ m ≤ 511 ∧ 7 ≤ m := by
  rcases h with rfl | rfl | rfl | rfl <;> decide
theorem SetQ.kept (R : SetQ P w s.heap a L es ep t) : ¬ t.gaveWay = true := by
  unfold SetTable.gaveWay
  rw [(sz_odd R.mask).1]
  decide
theorem nth_dummy (m : Nat) : ∀ (n : Nat) (p : SetTable.Probe), p.dummy = none → (nth m p n).dummy = none
  | 0, _, h => h
  | n + 1, p, h => nth_dummy m n (adv m p) (by
    unfold adv
    split <;> exact h)
abbrev start0 (m : Nat) (h : Int) : SetTable.Probe := runAt m (SetTable.bits h % (m + 1)) (SetTable.bits h)
/-- a new tuple's search ends at the first empty slot -/
theorem srch (R : SetQ P w s.heap a L es ep t) {x : Addr} {k : List Int} (hx : IsT P w s.heap k x) (un : A.units < cLine) (new : k ∉ L.map (·.2)) {K : Nat} (Kb : K < 10 * SetTable.turns t.mask) (Kn : way t.mask (thash P w k) K ∉ t.place.toList)
    (Kl : ∀ c, c < K → way t.mask (thash P w k) c ∈ t.place.toList) {Q : SetFound → Shared → Prop} (fin : Q (.free (way t.mask (thash P w k) K) false) s) :
    ∀ (f c : Nat) (st : Option SetTable.Probe), st.getD (t.probeStart (thash P w k)) = nth t.mask (start0 t.mask (thash P w k)) c → c ≤ K → K - c < f → wpAny (model P w) A (setSearchFrom a (.ref x) (thash P w k) true f st) Q E s
  | 0, c, st, _, _, z => absurd z (Nat.not_lt_zero _)
  | f + 1, c, st, e0, cK, z => by
    obtain ⟨ob, g1, g2, g3⟩ := R.ob
    rw [setSearchFrom_succ]
    refine wpAny_bind (wpAny_setState_of g1 g3 R.fits ?_)
    dsimp only
    refine wp_if_neg R.kept ?_
    try refine wpAny_bind (wpAny_pure ?_)
    have go : ∀ q, nth t.mask (nth t.mask (start0 t.mask (thash P w k)) c) q = nth t.mask (start0 t.mask (thash P w k)) (c + q) := fun q => (nth_add t.mask c _ q).symm
    have goj : ∀ q, (nth t.mask (nth t.mask (start0 t.mask (thash P w k)) c) q).j = way t.mask (thash P w k) (c + q) := fun q => congrArg SetTable.Probe.j (go q)
    have cK' : c + (K - c) = K := by omega
    rcases go_spec t R.ris R.dm (fun i => (es[i]?.map (·.1)).getD 0) (thash P w k) (10 * SetTable.turns t.mask) (K - c) _ (nth_dummy t.mask c (start0 t.mask (thash P w k)) rfl) (by omega) (fun q hq => by rw [goj]; exact Kl _ (by omega)) (by rw [goj, cK']; exact Kn) with ⟨q, i, q1, q2, q3, _, q5⟩ | ⟨_, q5⟩
    · have pr : t.probe (fun i => (es[i]?.map (·.1)).getD 0) (thash P w k) (st.getD (t.probeStart (thash P w k))) = some (.candidate (way t.mask (thash P w k) (c + q)) i (nth t.mask (start0 t.mask (thash P w k)) (c + (q + 1)))) := by
        rw [e0, ← goj, ← go]
        exact q5
      rw [pr]
      dsimp only
      rw [goj] at q2
      have il : i < L.length := by
        rw [← R.sz, ← Array.length_toList]
        exact (List.getElem?_eq_some_iff.mp q2).1
      obtain ⟨p, hp⟩ : ∃ p, L[i]? = some p := ⟨_, List.getElem?_eq_getElem il⟩
      have pm := List.mem_of_getElem? hp
      have ne : p.2 ≠ k := fun y => new (List.mem_map.mpr ⟨p, pm, y⟩)
      have more : wpAny (model P w) A (searchRest a (.ref x) (thash P w k) true f es t (way t.mask (thash P w k) (c + q)) i (nth t.mask (start0 t.mask (thash P w k)) (c + (q + 1)))) Q E s := by
        unfold searchRest
        rw [R.at_ hp]
        dsimp only
        refine wpAny_bind (wpAny_holding (wpAny_eqBool_tuple un (R.tup p pm) hx ?_))
        refine wpAny_bind (wpAny_setState_of g1 g3 R.fits ?_)
        dsimp only
        refine wp_if_neg (by simp [ne]) ?_
        try refine wpAny_bind (wpAny_pure ?_)
        rw [sameMem]
        dsimp only
        simp only [if_true, slot_live R.ris q2, R.at_ hp]
        refine wpAny_bind (wpAny_isSame_ref_self (wpAny_bind (wpAny_pure ?_)))
        simp only [if_true]
        refine wp_if_neg (by simp [ne]) ?_
        exact srch R hx un new Kb Kn Kl fin f (c + (q + 1)) _ rfl (by omega) (by omega)
      by_cases ld : t.led = true
      · refine wp_if_neg (by simp [ld]) ?_
        try refine wpAny_bind (wpAny_pure ?_)
        exact more
      · refine wp_if_pos (by simp [ld]) ?_
        refine wpAny_bind (seen_tup hx (fun y hy => ?_) ?_)
        · obtain ⟨v, hv, rfl⟩ := List.mem_map.mp hy
          have hv : v ∈ es.toList := by
            have : v ∈ es ∧ v.1 = thash P w k := by simpa using hv
            simpa using this.1
          rw [R.rows] at hv
          obtain ⟨p2, hp2, rfl⟩ := List.mem_map.mp hv
          exact ⟨p2.2, p2.1, rfl, R.tup p2 hp2⟩
        · refine wp_if_neg (by decide) ?_
          try refine wpAny_bind (wpAny_pure ?_)
          exact more
    · have pr : t.probe (fun i => (es[i]?.map (·.1)).getD 0) (thash P w k) (st.getD (t.probeStart (thash P w k))) = some (.empty (way t.mask (thash P w k) K) none) := by
        rw [goj, cK'] at q5
        rw [e0]
        exact q5
      rw [pr]
      exact wpAny_pure fin
/-- a larger table -/
theorem relayQ {ob : Obj} (g1 : s.heap.get? a = some ob) (g2 : ob.ExactSet) (g3 : ob.data = .set es ep t) (rw_ : es.toList = rowsOf P w L) (pz : t.place.size = L.length) (dm : t.dummies = #[]) (fl : L.length ≤ t.mask) (nd : (L.map (·.2)).Nodup) (tp : ∀ p ∈ L, IsT P w s.heap p.2 p.1) (pn : t.plain = true)
    (ld : w.params.followText "set-order" = true ∨ t.led = true) {wt M : Nat} (hw : SetTable.sizeAbove wt - 1 = M) (hM : Sz M) (h2 : SetTable.sizeAbove wt ≤ 512) (rm : L.length * 5 < M * 3) {Q : Unit → Shared → Prop}
    (hQ : ∀ h' L' es' ep' t', Heap.SameBut a s.heap h' → SetQ P w h' a L' es' ep' t' → L'.Perm L → Q () { s with heap := h' }) : wpAny (model P w) A (setRelay a wt) Q E s := by
  have zl := rows_len rw_
  obtain ⟨t', od, r1, r2, r3, r4, r5, r6, r7, r8⟩ := relaid_seat t (hs := es.map (·.1)) hw (good_sz hM) (by rw [Array.size_map, zl]; omega)
  rw [Array.size_map, zl] at r2 r4
  obtain ⟨L', o1, o2, _⟩ := order_rows L es od rw_ r2
  have zn : (od.filterMap (es[·]?)).size = es.size := by rw [rows_len o1, o2.length_eq, zl]
  rw [setRelay_eq]
  refine wpAny_bind (wpAny_setState_of g1 g3 (by rw [zl]; exact fits_of dm pz fl) ?_)
  dsimp only
  refine wp_if_neg (by rw [sizeLine_eq]; omega) ?_
  try refine wpAny_bind (wpAny_pure ?_)
  rw [r1]
  dsimp only
  refine wpAny_bind ?_
  refine wp_if_neg (by rw [zn]; simp) ?_
  try refine wpAny_bind (wpAny_pure ?_)
  refine wpAny_pure ?_
  dsimp only
  have lM : L.length ≤ 512 := by
    have := (sz_odd hM).2.1
    omega
  refine wpAny_storeSet_of g1 g3 ?_ (by rw [zn, zl, sizeLine_eq]; omega)
  have sb : Heap.SameBut a s.heap (s.heap.update a (Obj.putSet (od.filterMap (es[·]?)) t')) := Heap.SameBut.update ..
  refine hQ _ L' _ (ep + 1) t' sb ⟨⟨_, store_at g1 g3, ⟨g2.1, g2.2.1, g2.2.2⟩, rfl⟩, o1, r3, r8, by rw [r4, o2.length_eq], by rw [r5]; exact hM, (o2.map (·.2)).nodup_iff.mpr nd, fun p hp => isT_same (tp p (o2.mem_iff.mp hp)) g1 g3 sb, r7.trans pn, by rw [r6]; exact ld, by rw [o2.length_eq, r5]; exact rm⟩ o2
theorem grow1 : SetTable.sizeAbove (SetTable.grown 5) = 32 := by decide +kernel
theorem grow2 : SetTable.sizeAbove (SetTable.grown 19) = 128 := by decide +kernel
theorem grow3 : SetTable.sizeAbove (SetTable.grown 77) = 512 := by decide +kernel
/-- a new tuple is put in -/
theorem addQ (R : SetQ P w s.heap a L es ep t) {x : Addr} {k : List Int} (hx : IsT P w s.heap k x) (un : A.units < cLine) (new : k ∉ L.map (·.2)) (few : L.length < 300) {Q : Bool → Shared → Prop}
    (hQ : ∀ h' L' es' ep' t', Heap.SameBut a s.heap h' → SetQ P w h' a L' es' ep' t' → L'.Perm ((x, k) :: L) → Q true { s with heap := h' }) : wpAny (model P w) A (setAddHashed a (.ref x) (thash P w k)) Q E s := by
  obtain ⟨ob, g1, g2, g3⟩ := R.ob
  have zl := rows_len R.rows
  have rm := R.room
  have odd := sz_odd R.mask
  obtain ⟨K, K1, K2, K3⟩ := first (good_sz R.mask) (l := t.place.toList) (by rw [Array.length_toList, R.sz]; omega) (thash P w k)
  have kt : K < 100000 := by
    have : 10 * SetTable.turns t.mask ≤ 5260 := by
      unfold SetTable.turns
      omega
    omega
  unfold setAddHashed
  refine wpAny_holding ?_
  rw [show (100000 : Nat) = 99999 + 1 from rfl, setAddHashedIn_succ]
  refine wpAny_bind (wpAny_setState_of g1 g3 R.fits ?_)
  dsimp only
  refine wp_if_neg (by simp [byScan, Value.scannable]) ?_
  try refine wpAny_bind (wpAny_pure ?_)
  unfold setSearch
  refine wpAny_bind (srch R hx un new K1 K2 K3 ?_ 100000 0 none rfl (Nat.zero_le _) (by omega))
  dsimp only
  refine wpAny_bind (wpAny_setState_of g1 g3 R.fits ?_)
  dsimp only
  obtain ⟨j, hj⟩ : ∃ j, j = way t.mask (thash P w k) K := ⟨_, rfl⟩
  rw [← hj] at K2 ⊢
  obtain ⟨c1, _, _⟩ := below_cut R.ris j
  have jn : t.place[SetTable.below t.place j]? ≠ some j := fun e => K2 (List.mem_of_getElem? (by rw [Array.getElem?_toList]; exact e))
  have s1 : Ris (t.put j).1.place.toList := ris_insert R.ris jn
  have s2 : (t.put j).1.place.size = L.length + 1 := by
    rw [← Array.length_toList, put_place, len_ins _ (by rw [Array.length_toList]; exact c1), Array.length_toList, R.sz]
  have s3 : (t.put j).1.dummies = #[] := put_dm R.dm j
  have s4 : (t.put j).1.mask = t.mask ∧ (t.put j).1.led = t.led ∧ (t.put j).1.plain = t.plain ∧ (t.put j).2 = SetTable.below t.place j := ⟨rfl, rfl, rfl, rfl⟩
  generalize t.put j = pt at s1 s2 s3 s4 ⊢
  obtain ⟨t1, p⟩ := pt
  dsimp only at s1 s2 s3 s4 ⊢
  obtain ⟨m1, m2, m3, rfl⟩ := s4
  have pl1 : t1.plain = true := m3.trans R.plain
  first
    | (refine wpAny_bind ?_; refine wp_if_pos pl1 ?_; refine hashBy_tup hx ?_)
    | refine wp_if_pos pl1 (wpAny_bind (hashBy_tup hx ?_))
  simp only [if_true]
  have in1 : (SetTable.insertAt es (SetTable.below t.place j) (thash P w k, Value.ref x)).toList = rowsOf P w (L.take (SetTable.below t.place j) ++ (x, k) :: L.drop (SetTable.below t.place j)) := by
    rw [SetTable.toList_insertAt, rows_put, R.rows]
  have pm := put_perm L (SetTable.below t.place j) (x, k)
  generalize SetTable.insertAt es (SetTable.below t.place j) (thash P w k, Value.ref x) = es1 at in1 ⊢
  generalize L.take (SetTable.below t.place j) ++ (x, k) :: L.drop (SetTable.below t.place j) = L1 at in1 pm
  have l1 : L1.length = L.length + 1 := pm.length_eq
  have z1 := rows_len in1
  have nd1 : (L1.map (·.2)).Nodup := (pm.map (·.2)).nodup_iff.mpr (List.nodup_cons.mpr ⟨new, R.nd⟩)
  refine wpAny_bind (wpAny_storeSet_of g1 g3 ?_ (by rw [z1, l1, sizeLine_eq]; omega))
  have sb : Heap.SameBut a s.heap (s.heap.update a (Obj.putSet es1 t1)) := Heap.SameBut.update ..
  have g1' := store_at (es' := es1) (t' := t1) g1 g3
  generalize s.heap.update a (Obj.putSet es1 t1) = h1 at sb g1' ⊢
  have tp1 : ∀ p ∈ L1, IsT P w h1 p.2 p.1 := fun p hp => by
    rcases List.mem_cons.mp (pm.mem_iff.mp hp) with rfl | hp
    · exact isT_same hx g1 g3 sb
    · exact isT_same (R.tup p hp) g1 g3 sb
  have ld1 : w.params.followText "set-order" = true ∨ t1.led = true := by rw [m2]; exact R.led
  have full : t1.tooFull = true ↔ t.mask * 3 ≤ (L.length + 1) * 5 := by
    unfold SetTable.tooFull SetTable.fill
    rw [decide_eq_true_eq, s2, s3, m1]
    show (L.length + 1 + 0) * 5 ≥ t.mask * 3 ↔ _
    omega
  by_cases tf : t1.tooFull = true
  · first
      | (refine wpAny_bind ?_; refine wp_if_pos (by simp [tf]) ?_)
      | (refine wp_if_pos (by simp [tf]) ?_; refine wpAny_bind ?_)
    have f1 := full.mp tf
    rw [zl]
    have step : ∀ M, SetTable.sizeAbove (SetTable.grown (L.length + 1)) - 1 = M → Sz M → SetTable.sizeAbove (SetTable.grown (L.length + 1)) ≤ 512 → (L.length + 1) * 5 < M * 3 →
        wpAny (model P w) A (setRelay a (SetTable.grown (L.length + 1))) (fun _ s' => wpAny (model P w) A (pure true) Q E s') E { s with heap := h1 } := fun M w1 w2 w3 w4 =>
      relayQ (s := { s with heap := h1 }) (L := L1) g1' ⟨g2.1, g2.2.1, g2.2.2⟩ rfl in1 (by rw [s2, l1]) s3 (by rw [l1, m1]; omega) nd1 tp1 pl1 ld1 w1 w2 w3 (by rw [l1]; exact w4) fun h2 L2 es2 ep2 t2 sb2 R2 pm2 => wpAny_pure (hQ h2 L2 es2 ep2 t2 (sb.trans sb2) R2 (pm2.trans pm))
    rcases R.mask with e | e | e | e
    · have l4 : L.length + 1 = 5 := by omega
      exact step 31 (by rw [l4, grow1]) (.inr (.inl rfl)) (by rw [l4, grow1]; decide) (by omega)
    · have l4 : L.length + 1 = 19 := by omega
      exact step 127 (by rw [l4, grow2]) (.inr (.inr (.inl rfl))) (by rw [l4, grow2]; decide) (by omega)
    · have l4 : L.length + 1 = 77 := by omega
      exact step 511 (by rw [l4, grow3]) (.inr (.inr (.inr rfl))) (by rw [l4, grow3]; decide) (by omega)
    · omega
  · first
      | refine wp_if_neg (by simp [tf]) ?_
      | (refine wpAny_bind ?_; refine wp_if_neg (by simp [tf]) ?_; refine wpAny_pure ?_)
    have f1 : (L.length + 1) * 5 < t.mask * 3 := Nat.lt_of_not_le fun z => tf (full.mpr z)
    exact wpAny_pure (hQ h1 L1 es1 (ep + 1) t1 sb ⟨⟨_, g1', ⟨g2.1, g2.2.1, g2.2.2⟩, rfl⟩, in1, s1, s3, by rw [s2, l1], by rw [m1]; exact R.mask, nd1, tp1, pl1, ld1, by rw [l1, m1]; exact f1⟩ pm)
end
section
variable {P : Program} {w : World} {A : Around} {E : Value → Shared → Prop} {s : Shared}
abbrev mt0 (w : World) : Obj := { cls := .type "set", dict := none, data := .set #[] 0 (.fresh 0 0 (!w.params.followText "set-order")) }
theorem newQ {h : Heap} {a : Addr} (e : h.get? a = some (mt0 w)) : SetQ P w h a [] #[] 0 (.fresh 0 0 (!w.params.followText "set-order")) :=
  ⟨⟨_, e, ⟨rfl, rfl, rfl⟩, rfl⟩, rfl, List.Pairwise.nil, rfl, rfl, .inl rfl, List.nodup_nil, fun p hp => (by cases hp), rfl, by
    show _ ∨ (!w.params.followText "set-order") = true
    cases w.params.followText "set-order"
    · exact .inr rfl
    · exact .inl rfl, by show 0 * 5 < 7 * 3; decide⟩
theorem SetQ.move {h h' : Heap} {a : Addr} {L : List (Addr × List Int)} {es : Array (Int × Value)} {ep : Nat} {t : SetTable} (R : SetQ P w h a L es ep t) (ka : ∀ o, h.get? a = some o → h'.get? a = some o) (kt : ∀ p ∈ L, IsT P w h' p.2 p.1) : SetQ P w h' a L es ep t := by
  obtain ⟨o, o1, o2⟩ := R.ob
  exact ⟨⟨o, ka o o1, o2⟩, R.rows, R.ris, R.dm, R.sz, R.mask, R.nd, kt, R.plain, R.led, R.room⟩
theorem fresh_key {ks : List (Addr × List Int)} (nd : (ks.map (·.2)).Nodup) {i : Nat} {p : Addr × List Int} (e : ks[i]? = some p) : p.2 ∉ (ks.take i).map (·.2) := fun z => by
  obtain ⟨r, r1, r2⟩ := List.mem_map.mp z
  obtain ⟨j, j1, j2⟩ := List.getElem_of_mem r1
  rw [List.length_take] at j1
  obtain ⟨i1, i2⟩ := List.getElem?_eq_some_iff.mp e
  have key := List.pairwise_iff_getElem.mp nd j i (by rw [List.length_map]; omega) (by rw [List.length_map]; exact i1) (by omega)
  rw [List.getElem_map, List.getElem_map] at key
  refine key ?_
  rw [List.getElem_take] at j2
  rw [j2, r2, i2]
theorem take_one {α : Type} {l : List α} {i : Nat} {x : α} (e : l[i]? = some x) : l.take (i + 1) = l.take i ++ [x] := by
  rw [List.take_succ, e]
  rfl
theorem updQ {I : Addr} {fp wr : List Addr} {G : Array GenState → Array GenState → Prop} {n : Nat} {Pv : Nat → Value → Prop} {St : Nat → Shared → Prop} {R : Result → Shared → Prop} (W : WalksS P w A.in1 I fp wr G n Pv St) (S : Addr) (nS : S ∉ fp) (ks : List (Addr × List Int)) (kn : ks.length = n) (few : ks.length ≤ 300)
    (nd : (ks.map (·.2)).Nodup) (vk : ∀ i v, Pv i v → ∃ p, ks[i]? = some p ∧ v = .ref p.1) (h0 : Heap) (kt : ∀ p ∈ ks, IsT P w h0 p.2 p.1) (S0 : h0.get? S = none) (w0 : ∀ b ∈ wr, h0.get? b = none) (un : A.in1.units < cLine) :
    ∀ (m i : Nat) (s : Shared), i + m = n → St i s → (∀ b o, h0.get? b = some o → s.heap.get? b = some o) → (∃ L es ep t, SetQ P w s.heap S L es ep t ∧ L.Perm (ks.take i)) →
      (∀ s' L es ep t, Moved (S :: wr) G s s' → SetQ P w s'.heap S L es ep t → L.Perm ks → (∀ b o, h0.get? b = some o → s'.heap.get? b = some o) → R (.ok (.ret .none)) s') → codeAny (model P w) A (.builtin "set.update.loop" ⟨[.ref S, .ref I], []⟩) R s := by
  have Sw : S ∉ wr := fun z => nS (W.sub _ z)
  have wS : ∀ b ∈ wr, b ∈ S :: wr := fun b z => List.mem_cons_of_mem _ z
  have on : ∀ {s s' : Shared}, Moved wr G s s' → (∀ b o, h0.get? b = some o → s.heap.get? b = some o) → ∀ b o, h0.get? b = some o → s'.heap.get? b = some o := fun mv k b o e => mv.heap b o (fun z => by
    rw [w0 b z] at e
    cases e) (k b o e)
  intro m
  induction m with
  | zero =>
    rintro i s en st kp ⟨L, es, ep, t, hS, pm⟩ hR
    obtain rfl : i = n := by omega
    refine codeAny_builtin F.entry_set_update_loop ?_
    rw [Around.under_plainId F.plain_set_update_loop _]
    show wpAny _ A.in1 (pyNext (.ref I) >>= _) _ _ s
    refine wpAny_bind (W.done s _ _ st fun s' mv => ?_)
    have kp2 := on mv kp
    rw [← kn, List.take_length] at pm
    refine wpAny_pure (hR s' L es ep t (mv.mono wS) (hS.move (fun o e => mv.heap S o Sw e) fun p hp => isT_keep (kt p (pm.mem_iff.mp hp)) kp2) pm kp2)
  | succ m ih =>
    rintro i s en st kp ⟨L, es, ep, t, hS, pm⟩ hR
    refine codeAny_builtin F.entry_set_update_loop ?_
    rw [Around.under_plainId F.plain_set_update_loop _]
    show wpAny _ A.in1 (pyNext (.ref I) >>= _) _ _ s
    refine wpAny_bind (W.item i s _ _ (by omega) st fun v s' hP st' mv => ?_)
    obtain ⟨p, ep0, rfl⟩ := vk i v hP
    have kp2 := on mv kp
    have hS2 : SetQ P w s'.heap S L es ep t := hS.move (fun o e => mv.heap S o Sw e) fun q hq => isT_keep (kt q (List.mem_of_mem_take (pm.mem_iff.mp hq))) kp2
    have hx : IsT P w s'.heap p.2 p.1 := isT_keep (kt p (List.mem_of_getElem? ep0)) kp2
    have new : p.2 ∉ L.map (·.2) := fun z => fresh_key nd ep0 ((pm.map (·.2)).mem_iff.mp z)
    have lf : L.length < 300 := by
      rw [pm.length_eq, List.length_take]
      omega
    show wpAny _ A.in1 (holding [Value.ref p.1] (setAdd S (.ref p.1)) >>= _) _ _ s'
    refine wpAny_bind (wpAny_holding ?_)
    unfold setAdd
    refine wpAny_holding ?_
    refine wpAny_bind (wpAny_pyHash_tuple un hx ?_)
    refine addQ (s := { s' with toks := s'.toks + (p.2.length + 1) }) hS2 hx un new lf fun h' L' es' ep' t' sb hS3 pm' => ?_
    have pm2 : L'.Perm (ks.take (i + 1)) := by
      rw [take_one ep0]
      exact pm'.trans ((pm.cons p).trans (List.perm_append_singleton p _).symm)
    have kp3 : ∀ b o, h0.get? b = some o → h'.get? b = some o := fun b o e => (sb.2 b (fun z => by
      rw [z, S0] at e
      cases e)).trans (kp2 b o e)
    refine wpAny_pure ⟨plainId_quiet F.plain_set_update_loop _, ih (i + 1) _ (by omega) (W.frame _ s' _ _ st' (Nat.le_add_right _ _) fun b hb o e => ?_) kp3 ⟨L', es', ep', t', hS3, pm2⟩ fun s2 L2 es2 ep2 t2 mv2 q2 q3 q4 => ?_⟩
    · exact (sb.2 b fun z => nS (z ▸ hb)).trans e
    · exact hR s2 L2 es2 ep2 t2 (Moved.trans W.gtrans ((mv.mono wS).then_heap (Nat.le_add_right _ _) fun b o hb e => (sb.2 b fun z => hb (z ▸ List.mem_cons_self)).trans e) mv2) q2 q3 q4
set_option maxHeartbeats 8000000 in
/-- set(a list of distinct tuples) -/
theorem set_ofTups {l : Addr} {items : Array Value} (ks : List (Addr × List Int)) {Q : Value → Shared → Prop} (hh : A.handled = none) (hl : s.heap.IsList l items) (hit : items.toList = ks.map fun p => Value.ref p.1) (kt : ∀ p ∈ ks, IsT P w s.heap p.2 p.1) (few : ks.length ≤ 300) (nd : (ks.map (·.2)).Nodup) (un : A.units + 3 < cLine)
    (k : ∀ (h' : Heap) (tk : Nat) L es ep t, SetQ P w h' s.heap.objs.size L es ep t → L.Perm ks → (∀ b o, s.heap.get? b = some o → h'.get? b = some o) → Q (.ref s.heap.objs.size) { s with heap := h', toks := tk }) :
    wpAny (model P w) A (call (.type "set") [.ref l]) Q E s := by
  have sz : items.size = ks.length := by rw [← Array.length_toList, hit, List.length_map]
  obtain ⟨c0, tl, hmro⟩ := F.called_set.mro
  have q1 := F.called_set.made
  have q2 := F.called_set.sub
  have q3 := F.called_set.notType
  have q4 := F.called_set.canCreate
  have q5 := F.typeCall_set_1 (.ref l)
  refine wpAny_call (codeAny_of_tree ?_)
  show wpAny _ _ (callAny (.type "set") _) _ _ _
  refine wpAny_pure ⟨Code.quiet_builtin _ (by decide +kernel), codeAny_builtin F.entry_type_call ?_⟩
  rw [Around.under_plain (weight_type_call_type "set" [.ref l] []) rfl]
  repeat (any_goals (first | assumption | wp_step))
  refine codeAny_mono (code_set_led1 (.ref l) (E := E) (Q₁ := fun v s₁ => v = .ref s.heap.objs.size ∧ s₁ = { s with heap := s.heap.push (mt0 w) }) ⟨rfl, rfl⟩) fun r s₁ hr => ?_
  cases r with
  | error e => exact hr
  | ok fl =>
    cases fl with
    | ret v =>
      obtain ⟨rfl, rfl⟩ := hr
      have hS : (s.heap.push (mt0 w)).get? s.heap.objs.size = some (mt0 w) := Heap.get?_push_size _ rfl
      have hT : Shared.TypeIs { s with heap := s.heap.push (mt0 w) } (.ref s.heap.objs.size) "set" := ⟨_, hS, rfl⟩
      have q6 := F.called_set.init.lookup
      have q7 := F.called_set.init.bind (.ref s.heap.objs.size)
      repeat (any_goals (first | assumption | wp_step))
      refine codeAny_mono (codeAny_call_builtin (R := wants (fun r s₂ => r = .none ∧ ∃ h' tk L es ep t, s₂ = { s with heap := h', toks := tk } ∧ SetQ P w h' s.heap.objs.size L es ep t ∧ L.Perm ks ∧ ∀ b o, s.heap.get? b = some o → h'.get? b = some o) E)
        F.called_set.init.plain F.entry_set_init (check_set_init_1 hT ?_)) fun r₂ s₂ hr₂ => ?_
      · obtain ⟨⟨oc, od, oda, os⟩, hol, hcl, nl, hdl⟩ := hl
        dsimp only at hcl hdl
        subst hcl hdl
        have hol' : (s.heap.push (mt0 w)).get? l = some { cls := .type "list", dict := od, data := .seq items nl, slots := os } := Heap.get?_push_of_some _ hol
        have q8 := F.sub_list_set
        have q9 := F.sub_list_frozenset
        have q10 : (Value.type "list" == Value.type "dict") = false := by decide
        have hl1 : (s.heap.push (mt0 w)).IsList l items := ⟨_, hol', rfl, nl, rfl⟩
        have lS : l < s.heap.objs.size := Heap.lt_size hol
        unfold Builtin.«set.__init__» noKeywords Builtin.Frozenset.updateFrom
        generalize hPI : pyIter = PI
        wp_walk
        subst hPI
        refine wpAny_pyIter_list hl1 ?_
        refine wpAny_bind (wpAny_runValue ?_)
        have z1 : (s.heap.push (mt0 w)).objs.size = s.heap.objs.size + 1 := Heap.size_push ..
        have n1 : l ≠ (s.heap.push (mt0 w)).objs.size := by
          rw [z1]
          exact Nat.ne_of_lt (Nat.lt_succ_of_lt lS)
        have n2 : s.heap.objs.size ∉ [(s.heap.push (mt0 w)).objs.size, l] := by
          rw [z1]
          simp only [List.mem_cons, List.not_mem_nil, or_false, not_or]
          exact ⟨Nat.ne_of_lt (Nat.lt_succ_self _), Nat.ne_of_gt lS⟩
        have no : ∀ b, s.heap.objs.size ≤ b → s.heap.get? b = none := fun b hb => by
          cases e : s.heap.get? b with
          | none => rfl
          | some o => exact absurd (Heap.lt_size e) (Nat.not_lt.mpr hb)
        have hval : ∀ (i : Nat) (v : Value), items[i]? = some v → ∃ p, ks[i]? = some p ∧ v = .ref p.1 := fun i v hv => by
          rw [← Array.getElem?_toList, hit, List.getElem?_map] at hv
          cases e : ks[i]? with
          | none =>
            rw [e] at hv
            cases hv
          | some p =>
            rw [e] at hv
            cases hv
            exact ⟨p, rfl, rfl⟩
        refine updQ ((Walks.list (by simp [hh]) _ l n1 items).toS) s.heap.objs.size n2 ks sz.symm few nd hval s.heap kt (no _ (Nat.le_refl _)) (fun b hb => no b (by
          rw [List.mem_singleton.mp hb, z1]
          exact Nat.le_succ _)) un items.size 0 _ (Nat.zero_add _) ⟨⟨_, Heap.get?_push_size _ rfl, rfl, rfl⟩, (hl1.push _)⟩ (fun b o e => Heap.get?_push_of_some _ (Heap.get?_push_of_some _ e)) ⟨[], #[], 0, _, newQ (Heap.get?_push_of_some _ hS), List.Perm.refl _⟩ ?_
        intro s' L es ep t hm hS' pm hkp
        obtain ⟨h', g2, d', tk', os'⟩ := s'
        obtain rfl : g2 = s.gens := hm.gens
        obtain rfl : d' = s.drawn := hm.drawn
        obtain rfl : os' = s.os := hm.os
        refine wpAny_pure ?_
        show wpAny _ _ (ret Value.none) _ _ _
        exact wpAny_pure ⟨rfl, h', tk', L, es, ep, t, rfl, hS', pm, hkp⟩
      · cases r₂ with
        | error e => exact hr₂
        | ok fl₂ =>
          cases fl₂ with
          | ret r =>
            obtain ⟨rfl, h', tk, L, es, ep, t, rfl, hS', pm, hk'⟩ := hr₂
            repeat (any_goals (first | assumption | wp_step))
            exact k _ _ _ _ _ _ hS' pm hk'
          | _ => exact hr₂.elim
    | _ => exact hr.elim
end
end SQ

set_option maxRecDepth 100000
set_option maxHeartbeats 4000000
/-! sorted(set(a list of distinct tuples of ints)), at most 300. -/
namespace SQ
open PySem PySem.Spec PyProof.Rows L2
section
variable {P : Program} {w : World} {A : Around} {E : Value → Shared → Prop} {s : Shared}
abbrev rank (B : Int) (h : Heap) (u v : Value) : Bool := decide (TS.code B (TS.intsOf h u) < TS.code B (TS.intsOf h v))
theorem swo_rank (B : Int) (h : Heap) : SrtO.Swo (rank B h) := ⟨fun x y z => by
  have := of_decide_eq_true z
  exact decide_eq_false (by omega), fun x y z h1 h2 => by
  have a := of_decide_eq_false h1
  have b := of_decide_eq_false h2
  exact decide_eq_false (by omega)⟩
theorem sortableQ {a : Addr} {vs : List Value} {d : Nat} {B : Int} (hd : 1 ≤ d) (h2 : 2 ≤ vs.length) (x : TS.TupsOk s.heap d B vs) (na : ∀ o, s.heap.get? a = some o → o.cls ≠ .type "tuple") : SrtO.SortableO P w A s a vs (rank B s.heap) := by
  intro h' kp
  have kt : ∀ b o, s.heap.get? b = some o → o.cls = .type "tuple" → h'.get? b = some o := fun b o e c => kp b o (fun z => by
    subst z
    exact na o e c) e
  have x' := x.keeps kt
  obtain ⟨fs, f1, f2, f3⟩ := TS.firsts_of hd vs x'
  refine ⟨tuples' true, fun Q E hq => ?_, fun p q hp hq => ?_⟩
  · refine PySem.W.kat_kind (T := .type "int") f1 (by omega) (fun f hf => ?_) (by rfl) ?_
    · obtain ⟨n, t, rfl⟩ := f3 f hf
      exact PySem.W.Looks.now
    · have e : (Value.type "int" != Value.type "tuple") = true := by first | decide +kernel | rfl | decide
      rw [e]
      exact hq
  · obtain ⟨ns, tp, lp, bp⟩ := x p.1 hp
    obtain ⟨ms, tq, lq, bq⟩ := x q.1 hq
    have er : rank B s.heap p.1 q.1 = decide (TS.code B ns < TS.code B ms) := by
      unfold rank
      rw [tp.ints, tq.ints]
    obtain ⟨a1, xs, e1, ⟨o1, g1, g2, n1, g3⟩, i1⟩ := tp.keeps kt
    obtain ⟨a2, ys, e2, ⟨o2, k1, k2, n2, k3⟩, i2⟩ := tq.keeps kt
    show wpAny (model P w) A (keyLt' (tuples' true) p.1 q.1) (fun r s' => s' = _ ∧ r = rank B s.heap p.1 q.1) (fun _ _ => False) _
    rw [er, e1, e2]
    refine PySem.W.kat_lt g1 g3 k1 k3 ?_
    have z : decide (xs.size < ys.size) = false := by
      have l1 := i1.length
      have l2 := i2.length
      rw [Array.length_toList] at l1 l2
      exact decide_eq_false (by omega)
    rw [z]
    exact TS.lex_ints 0 i1 i2 (by omega) bp bq ⟨rfl, rfl⟩
/-- sorted(set) -/
theorem sortedQ {a : Addr} {L : List (Addr × List Int)} {es : Array (Int × Value)} {ep : Nat} {t : SetTable} {Q : Value → Shared → Prop} (R : SetQ P w s.heap a L es ep t) (hh : A.handled = none) (few : L.length ≤ 300) {d : Nat} {B : Int} (hd : 2 ≤ L.length → 1 ≤ d) (hB : ∀ p ∈ L, p.2.length = d ∧ TS.Bd B p.2)
    (hQ : ∀ s' p (c : Nat) (M : List (Addr × List Int)), (∀ b o, s.heap.get? b = some o → s'.heap.get? b = some o) → s'.gens = s.gens → s'.os = s.os → s.heap.objs.size ≤ p → s'.heap.get? p = some (seqObj "list" (M.map fun q => Value.ref q.1).toArray c) → M.Perm L → M.Pairwise (fun q r => TS.code B q.2 ≤ TS.code B r.2) → Q (.ref p) s') :
    wpAny (model P w) A (call (.builtin "sorted") [.ref a]) Q E s := by
  obtain ⟨ob, g1, g2, g3⟩ := R.ob
  have zl := rows_len R.rows
  refine Calls.call_function_entry kind_sorted plain_sorted entry_sorted (args_sorted1 _) ?_
  unfold Builtin.«sorted»
  refine wpAny_bind (m := checkCount "sorted" 1 1 _) (wpAny_pure ?_)
  refine wpAny_bind (collect_set (A := A.in1) hh ⟨ob, g1, g2.1, g3⟩ R.fits (by unfold scanBound; omega) R.ris R.led fun s1 vs k1 hz e1 e2 pm => ?_)
  have ev : es.toList.map (·.2) = L.map fun q => Value.ref q.1 := by
    rw [R.rows, rowsOf, List.map_map]
    rfl
  rw [ev] at pm
  have vl : vs.length = L.length := by rw [pm.length_eq, List.length_map]
  refine wpAny_bind (wpAny_newList ?_ (by rw [vl, sizeLine_eq]; omega))
  obtain ⟨h2, eh2⟩ : ∃ h2, h2 = s1.heap.push (seqObj "list" vs.toArray 0) := ⟨_, rfl⟩
  have gl : h2.get? s1.heap.objs.size = some (seqObj "list" vs.toArray 0) := by
    rw [eh2]
    exact Heap.get?_push_size _ rfl
  have kq : ∀ b o, s.heap.get? b = some o → h2.get? b = some o := fun b o e => by
    rw [eh2]
    exact Heap.get?_push_of_some _ (k1 b o e)
  have tk : ∀ q ∈ L, TS.TupInts h2 (.ref q.1) q.2 := fun q hq => tupInts_of (P := P) (w := w) (isT_keep (R.tup q hq) kq)
  have ok : TS.TupsOk h2 d B vs := fun v hv => by
    obtain ⟨q, hq, rfl⟩ := List.mem_map.mp (pm.mem_iff.mp hv)
    exact ⟨q.2, tk q hq, hB q hq⟩
  show wpAny _ _ _ _ _ { s1 with heap := s1.heap.push (seqObj "list" vs.toArray 0) }
  rw [← eh2]
  have na : ∀ o, h2.get? s1.heap.objs.size = some o → o.cls ≠ .type "tuple" := fun o e => by
    rw [gl] at e
    cases e
    exact fun c => absurd (Value.type.inj c) (by decide)
  refine wpAny_bind (wpAny_holding (wpAny_call_entry slot_list_sort ⟨_, gl, rfl⟩ entry_list_sort (SrtO.list_sort_ord (s := { s1 with heap := h2 }) (swo_rank B h2) gl (by rw [vl, sizeLine_eq]; omega) (fun z => sortableQ (s := { s1 with heap := h2 }) (hd (by omega)) z ok na) fun out so sb => ⟨_, rfl, ?_⟩) (args_list_sort _)))
  have back : ∀ vs : List Value, (∀ v ∈ vs, ∃ q ∈ L, v = Value.ref q.1) → ∃ M : List (Addr × List Int), vs = M.map (fun q => Value.ref q.1) ∧ ∀ q ∈ M, q ∈ L := fun vs => by
    induction vs with
    | nil => exact fun _ => ⟨[], rfl, nofun⟩
    | cons v vs ih =>
      intro hv
      obtain ⟨q, hq, rfl⟩ := hv v List.mem_cons_self
      obtain ⟨M, rfl, hM⟩ := ih fun u hu => hv u (List.mem_cons_of_mem _ hu)
      exact ⟨q :: M, rfl, fun r hr => (List.mem_cons.mp hr).elim (fun z => z ▸ hq) (hM r)⟩
  have inj : ∀ q ∈ L, ∀ r ∈ L, q.1 = r.1 → q = r := fun q hq r hr e => by
    have a1 := R.tup q hq
    rw [e] at a1
    exact Prod.ext e (a1.inj (R.tup r hr))
  obtain ⟨M, rfl, hM⟩ := back out fun v hv => by
    obtain ⟨q, hq, e⟩ := List.mem_map.mp (pm.mem_iff.mp (sb.perm.mem_iff.mp hv))
    exact ⟨q, hq, e.symm⟩
  have ndL : L.Nodup := List.Pairwise.of_map (·.2) (fun _ _ ne e => ne (congrArg Prod.snd e)) R.nd
  have pmM : (M.map fun q => Value.ref q.1).Perm (L.map fun q => Value.ref q.1) := sb.perm.trans pm
  have ndR : (L.map fun q => Value.ref q.1).Nodup := List.pairwise_map.mpr (List.Pairwise.imp_of_mem (fun {q r} hq hr ne e => ne (inj q hq r hr (Value.ref.inj e))) ndL)
  have ndM : M.Nodup := List.Pairwise.of_map (fun q : Addr × List Int => Value.ref q.1) (fun _ _ ne e => ne (by rw [e])) (pmM.nodup_iff.mpr ndR)
  have pmL : M.Perm L := (List.perm_ext_iff_of_nodup ndM ndL).mpr fun q => ⟨hM q, fun hq => by
    obtain ⟨r, hr, e⟩ := List.mem_map.mp (pmM.mem_iff.mpr (List.mem_map.mpr ⟨q, hq, rfl⟩))
    exact inj r (hM r hr) q hq (Value.ref.inj e) ▸ hr⟩
  have pw : M.Pairwise (fun q r => TS.code B q.2 ≤ TS.code B r.2) := List.Pairwise.imp_of_mem (fun {q r} hq hr z => by
    have z : rank B h2 (.ref r.1) (.ref q.1) = false := z
    have z := of_decide_eq_false z
    rw [(tk q (hM q hq)).ints, (tk r (hM r hr)).ints] at z
    omega) (List.pairwise_map.mp so)
  obtain ⟨c, gc⟩ := sortedHeap_at (vs := vs) (out := (M.map fun q => Value.ref q.1).toArray) gl
  refine wpAny_pure ⟨_, rfl, hQ _ s1.heap.objs.size c M (fun b o e => ?_) e1 e2 hz gc pmL pw⟩
  have lt := Heap.lt_size (k1 b o e)
  show (sortedHeap h2 s1.heap.objs.size vs _).get? b = some o
  rw [sortedHeap_old (Nat.ne_of_lt lt) (by rw [eh2, size_push']; exact Nat.lt_succ_of_lt lt)]
  exact kq b o e
end
end SQ

set_option maxRecDepth 100000
set_option maxHeartbeats 4000000
/-! sorted(set(told)) over plain data, told a rising list of tuples of ints. -/
namespace Pd
open PySem PySem.Spec PyProof.Rows L2
open Evl (Ex)
theorem same_sorted {α : Type} {f : α → Int} : ∀ {l m : List α}, m.Perm l → l.Pairwise (fun a b => f a < f b) → m.Pairwise (fun a b => f a ≤ f b) → m = l
  | [], m, p, _, _ => p.eq_nil
  | x :: l, [], p, _, _ => by
    have := p.length_eq
    simp at this
  | x :: l, y :: m, p, s1, s2 => by
    obtain ⟨a1, a2⟩ := List.pairwise_cons.mp s1
    obtain ⟨b1, b2⟩ := List.pairwise_cons.mp s2
    have e : y = x := by
      have h1 : y ∈ x :: l := p.mem_iff.mp List.mem_cons_self
      have h2 : x ∈ y :: m := p.mem_iff.mpr List.mem_cons_self
      rcases List.mem_cons.mp h1 with h1 | h1
      · exact h1
      · rcases List.mem_cons.mp h2 with h2 | h2
        · exact h2.symm
        · have := a1 y h1
          have := b1 x h2
          omega
    subst e
    rw [same_sorted (p.cons_inv) a2 b2]
def oD (o : List Int) : PyData := .tuple (o.map .int)
theorem ks_of {F : Hp} : ∀ {os : List (List Int)} {vs : List V}, DtA F vs (os.map oD) → ∃ ks : List (Addr × List Int), vs = ks.map (fun p => V.ref p.1) ∧ ks.map (·.2) = os ∧ ∀ p ∈ ks, TupAt F p.1 (p.2.map V.int)
  | [], _, h => by
    cases h
    exact ⟨[], rfl, rfl, nofun⟩
  | o :: os, _, h => by
    cases h with
    | cons h1 h2 =>
      obtain ⟨ks, rfl, e2, e3⟩ := ks_of h2
      cases h1 with
      | @tup a xs ds t1 t2 =>
        rw [DtA.ints t2] at t1
        refine ⟨(a, o) :: ks, rfl, by rw [List.map_cons, e2], fun p hp => ?_⟩
        rcases List.mem_cons.mp hp with rfl | hp
        · exact t1
        · exact e3 p hp
def tSrtTup (K : PySem.W.Frag) (te : TE) : TE := fun σ H Q => te σ H fun x H1 => ∃ (a : Addr) (ks : List (Addr × List Int)) (d : Nat) (B : Int), x = .ref a ∧ SqL K H1 a (ks.map fun p => V.ref p.1) ∧ (∀ p ∈ ks, SqT K H1 p.1 (p.2.map V.int)) ∧ ks.length ≤ 300 ∧ (ks.map (·.2)).Nodup ∧ (∀ p ∈ ks, p.2.length = d ∧ TS.Bd B p.2) ∧ (2 ≤ ks.length → 1 ≤ d) ∧
  ∀ (ms : List (Addr × List Int)) (p : Addr), ms.Perm ks → ms.Pairwise (fun q r => TS.code B q.2 ≤ TS.code B r.2) → H1 p = none → Q (.ref p) (upd H1 p (.lst (ms.map fun q => V.ref q.1)))
theorem pe_srtTup {X : Cx} {e : Expr} {te : TE} {p p2 pos pos2 : Pos} (hc : X.calm = true) (hu : X.A.units + 64 < cLine) (hg : Gl X "sorted") (hm : X.mg "sorted" = none) (hg2 : Gl X "set") (hm2 : X.mg "set" = none) (he : PE X e te) (hs : starEach [e] X.env = (false, eval e X.env) :: starEach [] X.env := by rfl)
    (hs2 : starEach [.Call (.Name "set" p2) [e] [] pos2] X.env = (false, eval (.Call (.Name "set" p2) [e] [] pos2) X.env) :: starEach [] X.env := by rfl) (hv1 : bootBuiltins "sorted" = some (.builtin "sorted")) (hv2 : bootBuiltins "set" = some (.type "set")) :
    PE X (.Call (.Name "sorted" p) [.Call (.Name "set" p2) [e] [] pos2] [] pos) (tSrtTup X.K te) := by
  refine ⟨fun pins s σ H Q I hq => ?_⟩
  refine wpAny_Call_Name_kw (ld_blt I hg hm hv1 ?_)
  refine PyProof.Rows.callWith_builtin1 ?_ hs2 rfl
  rw [hs2]
  refine Calls.spliced_cons ?_
  refine wpAny_Call_Name_kw (ld_blt I hg2 hm2 hv2 ?_)
  refine PyProof.Rows.callWith_type1 ?_ hs rfl
  rw [hs]
  refine Calls.spliced_cons (thn (he.run pins s σ H _ I hq) fun u s1 ⟨x, H1, I1, rx, a, ks, d, B, ex, hl, ht, h3, nd, hB, hd, q⟩ => ?_)
  subst ex
  obtain rfl : u = Value.ref a := rx
  refine Calls.spliced_nil ?_
  obtain ⟨its, rv, p', hz⟩ := I1.list hl
  refine SQ.set_ofTups ks (I1.ok.hd hc) p'.isList (by simpa using refs_of_vals rv) (fun p hp => I1.isT (ht p hp)) h3 nd (by omega) fun h' tk L es ep t R pm hk => ?_
  refine Calls.spliced_nil ?_
  refine SQ.sortedQ (s := { s1 with heap := h', toks := tk }) R (I1.ok.hd hc) (by rw [pm.length_eq]; exact h3) (fun z => hd (by rw [← pm.length_eq]; exact z)) (fun p hp => hB p (pm.mem_iff.mp hp)) fun s' pp c M k1 g1 o1 hp hget pmM pwM => ?_
  have k2 : ∀ b o, s1.heap.get? b = some o → s'.heap.get? b = some o := fun b o y => k1 b o (hk b o y)
  have hsz : s1.heap.objs.size ≤ pp := by
    obtain ⟨o, ho, _⟩ := R.ob
    exact Nat.le_trans (Nat.le_of_lt (Heap.lt_size ho)) hp
  have hn : H1 pp = none := I1.hok.fresh hsz
  have ml : M.length ≤ 300 := by rw [pmM.length_eq, pm.length_eq]; exact h3
  have hle : (M.map fun q => V.ref q.1).length ≤ sizeLine := by rw [List.length_map, sizeLine_eq]; omega
  have J : Inv X pins σ (upd H1 pp (.lst (M.map fun q => V.ref q.1))) { s1 with heap := s'.heap, gens := s'.gens, drawn := s'.drawn, toks := s'.toks } :=
    I1.call (ch := []) (Un.laid k2 hsz hn) (I1.hok.laid k2 hsz ⟨hle, M.map (fun q => Value.ref q.1), c, vals_of_refs M, hget⟩) (by rw [g1]; exact I1.bare) (fun _ z => nomatch z)
  have es : s' = { s1 with heap := s'.heap, gens := s'.gens, drawn := s'.drawn, toks := s'.toks } := by
    obtain ⟨h, g, d, t, o⟩ := s'
    dsimp only at o1 ⊢
    rw [o1]
  rw [es]
  exact ⟨.ref pp, _, J, rfl, q M pp (pmM.trans pm) pwM hn⟩
def nSrtTup (da : DE) : DN := fun env Q => da env fun d => ∃ (os : List (List Int)) (n : Nat) (B : Int), d = .list (os.map oD) ∧ os.length ≤ 300 ∧ (∀ o ∈ os, o.length = n ∧ TS.Bd B o) ∧ (2 ≤ os.length → 1 ≤ n) ∧ os.Pairwise (fun a b => TS.code B a < TS.code B b) ∧ Q (os.map oD)
theorem pen_srtTup {X : Cx} {e : Expr} {te : TE} {da : DE} {p p2 pos pos2 : Pos} (hc : X.calm = true) (hu : X.A.units + 64 < cLine) (hg : Gl X "sorted") (hm : X.mg "sorted" = none) (hg2 : Gl X "set") (hm2 : X.mg "set" = none) (he : PEr X e te da) (hv1 : bootBuiltins "sorted" = some (.builtin "sorted")) (hv2 : bootBuiltins "set" = some (.type "set")) (hs : starEach [e] X.env = (false, eval e X.env) :: starEach [] X.env := by rfl)
    (hs2 : starEach [.Call (.Name "set" p2) [e] [] pos2] X.env = (false, eval (.Call (.Name "set" p2) [e] [] pos2) X.env) :: starEach [] X.env := by rfl) :
    PEn X (.Call (.Name "sorted" p) [.Call (.Name "set" p2) [e] [] pos2] [] pos) (tSrtTup X.K te) (nSrtTup da) := ⟨pe_srtTup hc hu hg hm hg2 hm2 he.pe hs hs2 hv1 hv2, fun B0 F H σ env Q Qv n q k =>
  he.s B0 F H σ env _ _ n q fun v d F1 H1 ⟨os, m, B, ed, h3, hB, hd, pw, q1⟩ e1 n1 r1 => by
    subst ed
    obtain ⟨l, vs, rfl, h1, h2⟩ := (r1.rb n1).list n1.g.fh
    obtain ⟨ks, rfl, e2, e3⟩ := ks_of h2
    have pwk : ks.Pairwise (fun a b => TS.code B a.2 < TS.code B b.2) := by
      rw [← e2] at pw
      exact (List.pairwise_map (f := fun q : Addr × List Int => q.2)).mp pw
    have ndk : (ks.map (·.2)).Nodup := by
      rw [e2]
      exact pw.imp fun z y => by
        rw [y] at z
        omega
    have lk : ks.length = os.length := by rw [← e2, List.length_map]
    refine ⟨l, ks, m, B, rfl, SqL.of h1, fun p hp => (e3 p hp).sq n1.g.fh, by rw [lk]; exact h3, ndk, fun p hp => hB p.2 (by rw [← e2]; exact List.mem_map.mpr ⟨p, hp, rfl⟩), fun z => hd (by rw [← lk]; exact z), fun ms pp pm pwm hp => ?_⟩
    rw [same_sorted (f := fun q : Addr × List Int => TS.code B q.2) pm pwk pwm]
    obtain ⟨f1, f2⟩ := Fresh.of n1 hp h2
    exact k pp _ _ F1 _ q1 e1 f2 f1⟩
end Pd

set_option maxRecDepth 100000
set_option maxHeartbeats 4000000
/-! Rows: what is a taker, a row, a number; who takes a piece, how many each takes. -/
namespace Pd
open PySem L2
open Evl (Ex)
def isIntB : PyData → Bool
  | .int _ => true
  | .bool _ => true
  | _ => false
def isBoolB : PyData → Bool
  | .bool _ => true
  | _ => false
def isTupB : PyData → Bool
  | .tuple _ => true
  | _ => false
def isLstB : PyData → Bool
  | .list _ => true
  | _ => false
theorem isi_int (d : PyData) (Q : PyData → Prop) : isiD "int" d Q = Q (.bool (isIntB d)) := by
  have h : kitB (tyD d) "int" = some (isIntB d) := by
    cases d with
    | none => exact (show kitB "NoneType" "int" = some false by decide +kernel)
    | bool _ => exact (show kitB "bool" "int" = some true by decide +kernel)
    | int _ => exact (show kitB "int" "int" = some true by decide +kernel)
    | str _ => exact (show kitB "str" "int" = some false by decide +kernel)
    | list _ => exact (show kitB "list" "int" = some false by decide +kernel)
    | tuple _ => exact (show kitB "tuple" "int" = some false by decide +kernel)
    | dict _ => exact (show kitB "dict" "int" = some false by decide +kernel)
  unfold isiD
  rw [h]
  simp
theorem isi_bool (d : PyData) (Q : PyData → Prop) : isiD "bool" d Q = Q (.bool (isBoolB d)) := by
  have h : kitB (tyD d) "bool" = some (isBoolB d) := by
    cases d with
    | none => exact (show kitB "NoneType" "bool" = some false by decide +kernel)
    | bool _ => exact (show kitB "bool" "bool" = some true by decide +kernel)
    | int _ => exact (show kitB "int" "bool" = some false by decide +kernel)
    | str _ => exact (show kitB "str" "bool" = some false by decide +kernel)
    | list _ => exact (show kitB "list" "bool" = some false by decide +kernel)
    | tuple _ => exact (show kitB "tuple" "bool" = some false by decide +kernel)
    | dict _ => exact (show kitB "dict" "bool" = some false by decide +kernel)
  unfold isiD
  rw [h]
  simp
theorem isi_tup (d : PyData) (Q : PyData → Prop) : isiD "tuple" d Q = Q (.bool (isTupB d)) := by
  have h : kitB (tyD d) "tuple" = some (isTupB d) := by
    cases d with
    | none => exact (show kitB "NoneType" "tuple" = some false by decide +kernel)
    | bool _ => exact (show kitB "bool" "tuple" = some false by decide +kernel)
    | int _ => exact (show kitB "int" "tuple" = some false by decide +kernel)
    | str _ => exact (show kitB "str" "tuple" = some false by decide +kernel)
    | list _ => exact (show kitB "list" "tuple" = some false by decide +kernel)
    | tuple _ => exact (show kitB "tuple" "tuple" = some true by decide +kernel)
    | dict _ => exact (show kitB "dict" "tuple" = some false by decide +kernel)
  unfold isiD
  rw [h]
  simp
theorem isi_lst (d : PyData) (Q : PyData → Prop) : isiD "list" d Q = Q (.bool (isLstB d)) := by
  have h : kitB (tyD d) "list" = some (isLstB d) := by
    cases d with
    | none => exact (show kitB "NoneType" "list" = some false by decide +kernel)
    | bool _ => exact (show kitB "bool" "list" = some false by decide +kernel)
    | int _ => exact (show kitB "int" "list" = some false by decide +kernel)
    | str _ => exact (show kitB "str" "list" = some false by decide +kernel)
    | list _ => exact (show kitB "list" "list" = some true by decide +kernel)
    | tuple _ => exact (show kitB "tuple" "list" = some false by decide +kernel)
    | dict _ => exact (show kitB "dict" "list" = some false by decide +kernel)
  unfold isiD
  rw [h]
  simp
/-! ### is_within -/
def withinB (d : PyData) (lo hi : Int) : Bool := match d with
  | .int i => decide (lo ≤ i) && decide (i ≤ hi)
  | _ => false
def sp_is_within : DSp
  | [.dat d, .dat (.int lo), .dat (.int hi)], R => R (.dat (.bool (withinB d lo hi)))
  | _, _ => False
/-- is_within: 0 thing, 1 low, 2 high -/
abbrev b_is_within : DS := (dRet (dAndV (d1 (isiD "int") (dVar 0)) (dAndV (dNotV (d1 (isiD "bool") (dVar 0))) (dChain leD leD (dVar 1) (dVar 0) (dVar 2)))))
theorem rd_is_within (svs : List SV) (R : RVd → Prop) (h : sp_is_within svs R) : b_is_within { nx := fun _ => R (.dat .none), rt := R } (startd 3 svs) := by
  unfold sp_is_within at h
  split at h
  · rename_i d lo hi
    simp only [b_is_within, isi_int, isi_bool, dSeq, dAsgG, dAsgN, dRet, dRetN, dRetO, dRet0, dDrop, dIfS, dNext, dApp, dInsert, q_setI, q_setQ, q_take, dFor, dFreeze, dNever, q_par, q_parQ, q_par3, q_parQ3, dParNE, dParDE, gdName, q_gnil, q_gcons, q_gtup, dVar, dOwn, dC, d1, d2, n2, nCons, nNil, nLst, dTup, dFr, dTest, dAnd, dOr, dNot, dAndV, dOrV, dNotV, dIf, dChain, dCB, nCB, dCall, nCall, aDat, aBag, aNil, q_neg, q_add, q_addl, q_addt, q_sub, q_mul, q_mull, q_mult, q_fdiv, q_mod, q_pow, q_lt, q_le, q_gt, q_ge, eqD, neD, isD, isntD, q_isnn, q_isni, q_isnb, q_isnt, q_isnl, q_lenl, q_lent, q_inti, q_intb, q_max2, q_min2, q_listl, q_listt, q_tuplel, q_tuplet, q_sum, q_min, q_max, allD, itSeq, itR1, q_itR2, q_rng2, q_en, q_en1, q_zip, q_zipQ, q_seqr, q_lenr, q_ixr, q_seql, q_seqt, q_rvd, q_rvn, q_catn, q_ixl, q_ixt, q_sl, q_sll, q_slt, q_slr, nSlL, oNone, oSome, nLc, wipeD, q_dropc, q_dropxd, q_dropxb, q_dropxo, q_dropxn, q_drope, dYes, dCnt, q_revl, q_revt, q_revr, nListRg, dTupRg, exInts, exOpt, q_addr1, q_addrr, q_ixk0, q_ixk1, exRow, exTk, cntL, cntQ_some, cntQ_none, List.getElem?_cons_zero, List.getElem?_cons_succ, List.getElem?_nil, Option.some.injEq, SV.dat.injEq, SV.own.injEq, PyData.int.injEq, PyData.bool.injEq, PyData.tuple.injEq, PyData.list.injEq, PyData.str.injEq, RVd.new.injEq, RVd.dat.injEq, exists_eq_left, exists_eq_left', exists_eq_right, List.cons.injEq, List.set_cons_zero, List.set_cons_succ, reduceCtorEq, and_true, true_and, false_and, and_false, not_true_eq_false, not_false_eq_true, if_true, if_false, ite_true, ite_false, decide_eq_true_eq, Bool.not_eq_true', decide_eq_false_iff_not, Bool.and_true, Bool.true_and, Bool.and_false, Bool.false_and, Bool.not_true, Bool.not_false, Bool.false_eq_true, List.map_cons, List.map_nil, List.length_cons, List.length_nil, Nat.zero_add, Nat.reduceAdd, Nat.reduceLeDiff, startd, List.replicate_succ, List.replicate_zero, List.nil_append, List.cons_append, Nat.reduceSub, exists_const, and_self, shp_int, shp_none, shp_bool, eqv_int, dForL_nil, lcL_nil]
    cases d with
    | int i =>
      simp only [isIntB, isBoolB, withinB, dSeq, dAsgG, dAsgN, dRet, dRetN, dRetO, dRet0, dDrop, dIfS, dNext, dApp, dInsert, q_setI, q_setQ, q_take, dFor, dFreeze, dNever, q_par, q_parQ, q_par3, q_parQ3, dParNE, dParDE, gdName, q_gnil, q_gcons, q_gtup, dVar, dOwn, dC, d1, d2, n2, nCons, nNil, nLst, dTup, dFr, dTest, dAnd, dOr, dNot, dAndV, dOrV, dNotV, dIf, dChain, dCB, nCB, dCall, nCall, aDat, aBag, aNil, q_neg, q_add, q_addl, q_addt, q_sub, q_mul, q_mull, q_mult, q_fdiv, q_mod, q_pow, q_lt, q_le, q_gt, q_ge, eqD, neD, isD, isntD, q_isnn, q_isni, q_isnb, q_isnt, q_isnl, q_lenl, q_lent, q_inti, q_intb, q_max2, q_min2, q_listl, q_listt, q_tuplel, q_tuplet, q_sum, q_min, q_max, allD, itSeq, itR1, q_itR2, q_rng2, q_en, q_en1, q_zip, q_zipQ, q_seqr, q_lenr, q_ixr, q_seql, q_seqt, q_rvd, q_rvn, q_catn, q_ixl, q_ixt, q_sl, q_sll, q_slt, q_slr, nSlL, oNone, oSome, nLc, wipeD, q_dropc, q_dropxd, q_dropxb, q_dropxo, q_dropxn, q_drope, dYes, dCnt, q_revl, q_revt, q_revr, nListRg, dTupRg, exInts, exOpt, q_addr1, q_addrr, q_ixk0, q_ixk1, exRow, exTk, cntL, cntQ_some, cntQ_none, List.getElem?_cons_zero, List.getElem?_cons_succ, List.getElem?_nil, Option.some.injEq, SV.dat.injEq, SV.own.injEq, PyData.int.injEq, PyData.bool.injEq, PyData.tuple.injEq, PyData.list.injEq, PyData.str.injEq, RVd.new.injEq, RVd.dat.injEq, exists_eq_left, exists_eq_left', exists_eq_right, List.cons.injEq, List.set_cons_zero, List.set_cons_succ, reduceCtorEq, and_true, true_and, false_and, and_false, not_true_eq_false, not_false_eq_true, if_true, if_false, ite_true, ite_false, decide_eq_true_eq, Bool.not_eq_true', decide_eq_false_iff_not, Bool.and_true, Bool.true_and, Bool.and_false, Bool.false_and, Bool.not_true, Bool.not_false, Bool.false_eq_true, List.map_cons, List.map_nil, List.length_cons, List.length_nil, Nat.zero_add, Nat.reduceAdd, Nat.reduceLeDiff, startd, List.replicate_succ, List.replicate_zero, List.nil_append, List.cons_append, Nat.reduceSub, exists_const, and_self, shp_int, shp_none, shp_bool, eqv_int, dForL_nil, lcL_nil] at h ⊢
      by_cases h1 : lo ≤ i
      · simp only [h1, dSeq, dAsgG, dAsgN, dRet, dRetN, dRetO, dRet0, dDrop, dIfS, dNext, dApp, dInsert, q_setI, q_setQ, q_take, dFor, dFreeze, dNever, q_par, q_parQ, q_par3, q_parQ3, dParNE, dParDE, gdName, q_gnil, q_gcons, q_gtup, dVar, dOwn, dC, d1, d2, n2, nCons, nNil, nLst, dTup, dFr, dTest, dAnd, dOr, dNot, dAndV, dOrV, dNotV, dIf, dChain, dCB, nCB, dCall, nCall, aDat, aBag, aNil, q_neg, q_add, q_addl, q_addt, q_sub, q_mul, q_mull, q_mult, q_fdiv, q_mod, q_pow, q_lt, q_le, q_gt, q_ge, eqD, neD, isD, isntD, q_isnn, q_isni, q_isnb, q_isnt, q_isnl, q_lenl, q_lent, q_inti, q_intb, q_max2, q_min2, q_listl, q_listt, q_tuplel, q_tuplet, q_sum, q_min, q_max, allD, itSeq, itR1, q_itR2, q_rng2, q_en, q_en1, q_zip, q_zipQ, q_seqr, q_lenr, q_ixr, q_seql, q_seqt, q_rvd, q_rvn, q_catn, q_ixl, q_ixt, q_sl, q_sll, q_slt, q_slr, nSlL, oNone, oSome, nLc, wipeD, q_dropc, q_dropxd, q_dropxb, q_dropxo, q_dropxn, q_drope, dYes, dCnt, q_revl, q_revt, q_revr, nListRg, dTupRg, exInts, exOpt, q_addr1, q_addrr, q_ixk0, q_ixk1, exRow, exTk, cntL, cntQ_some, cntQ_none, List.getElem?_cons_zero, List.getElem?_cons_succ, List.getElem?_nil, Option.some.injEq, SV.dat.injEq, SV.own.injEq, PyData.int.injEq, PyData.bool.injEq, PyData.tuple.injEq, PyData.list.injEq, PyData.str.injEq, RVd.new.injEq, RVd.dat.injEq, exists_eq_left, exists_eq_left', exists_eq_right, List.cons.injEq, List.set_cons_zero, List.set_cons_succ, reduceCtorEq, and_true, true_and, false_and, and_false, not_true_eq_false, not_false_eq_true, if_true, if_false, ite_true, ite_false, decide_eq_true_eq, Bool.not_eq_true', decide_eq_false_iff_not, Bool.and_true, Bool.true_and, Bool.and_false, Bool.false_and, Bool.not_true, Bool.not_false, Bool.false_eq_true, List.map_cons, List.map_nil, List.length_cons, List.length_nil, Nat.zero_add, Nat.reduceAdd, Nat.reduceLeDiff, startd, List.replicate_succ, List.replicate_zero, List.nil_append, List.cons_append, Nat.reduceSub, exists_const, and_self, shp_int, shp_none, shp_bool, eqv_int, dForL_nil, lcL_nil] at h ⊢
        exact h
      · simp only [h1, dSeq, dAsgG, dAsgN, dRet, dRetN, dRetO, dRet0, dDrop, dIfS, dNext, dApp, dInsert, q_setI, q_setQ, q_take, dFor, dFreeze, dNever, q_par, q_parQ, q_par3, q_parQ3, dParNE, dParDE, gdName, q_gnil, q_gcons, q_gtup, dVar, dOwn, dC, d1, d2, n2, nCons, nNil, nLst, dTup, dFr, dTest, dAnd, dOr, dNot, dAndV, dOrV, dNotV, dIf, dChain, dCB, nCB, dCall, nCall, aDat, aBag, aNil, q_neg, q_add, q_addl, q_addt, q_sub, q_mul, q_mull, q_mult, q_fdiv, q_mod, q_pow, q_lt, q_le, q_gt, q_ge, eqD, neD, isD, isntD, q_isnn, q_isni, q_isnb, q_isnt, q_isnl, q_lenl, q_lent, q_inti, q_intb, q_max2, q_min2, q_listl, q_listt, q_tuplel, q_tuplet, q_sum, q_min, q_max, allD, itSeq, itR1, q_itR2, q_rng2, q_en, q_en1, q_zip, q_zipQ, q_seqr, q_lenr, q_ixr, q_seql, q_seqt, q_rvd, q_rvn, q_catn, q_ixl, q_ixt, q_sl, q_sll, q_slt, q_slr, nSlL, oNone, oSome, nLc, wipeD, q_dropc, q_dropxd, q_dropxb, q_dropxo, q_dropxn, q_drope, dYes, dCnt, q_revl, q_revt, q_revr, nListRg, dTupRg, exInts, exOpt, q_addr1, q_addrr, q_ixk0, q_ixk1, exRow, exTk, cntL, cntQ_some, cntQ_none, List.getElem?_cons_zero, List.getElem?_cons_succ, List.getElem?_nil, Option.some.injEq, SV.dat.injEq, SV.own.injEq, PyData.int.injEq, PyData.bool.injEq, PyData.tuple.injEq, PyData.list.injEq, PyData.str.injEq, RVd.new.injEq, RVd.dat.injEq, exists_eq_left, exists_eq_left', exists_eq_right, List.cons.injEq, List.set_cons_zero, List.set_cons_succ, reduceCtorEq, and_true, true_and, false_and, and_false, not_true_eq_false, not_false_eq_true, if_true, if_false, ite_true, ite_false, decide_eq_true_eq, Bool.not_eq_true', decide_eq_false_iff_not, Bool.and_true, Bool.true_and, Bool.and_false, Bool.false_and, Bool.not_true, Bool.not_false, Bool.false_eq_true, List.map_cons, List.map_nil, List.length_cons, List.length_nil, Nat.zero_add, Nat.reduceAdd, Nat.reduceLeDiff, startd, List.replicate_succ, List.replicate_zero, List.nil_append, List.cons_append, Nat.reduceSub, exists_const, and_self, shp_int, shp_none, shp_bool, eqv_int, dForL_nil, lcL_nil] at h ⊢
        exact h
    | _ =>
      simp only [isIntB, isBoolB, withinB, dSeq, dAsgG, dAsgN, dRet, dRetN, dRetO, dRet0, dDrop, dIfS, dNext, dApp, dInsert, q_setI, q_setQ, q_take, dFor, dFreeze, dNever, q_par, q_parQ, q_par3, q_parQ3, dParNE, dParDE, gdName, q_gnil, q_gcons, q_gtup, dVar, dOwn, dC, d1, d2, n2, nCons, nNil, nLst, dTup, dFr, dTest, dAnd, dOr, dNot, dAndV, dOrV, dNotV, dIf, dChain, dCB, nCB, dCall, nCall, aDat, aBag, aNil, q_neg, q_add, q_addl, q_addt, q_sub, q_mul, q_mull, q_mult, q_fdiv, q_mod, q_pow, q_lt, q_le, q_gt, q_ge, eqD, neD, isD, isntD, q_isnn, q_isni, q_isnb, q_isnt, q_isnl, q_lenl, q_lent, q_inti, q_intb, q_max2, q_min2, q_listl, q_listt, q_tuplel, q_tuplet, q_sum, q_min, q_max, allD, itSeq, itR1, q_itR2, q_rng2, q_en, q_en1, q_zip, q_zipQ, q_seqr, q_lenr, q_ixr, q_seql, q_seqt, q_rvd, q_rvn, q_catn, q_ixl, q_ixt, q_sl, q_sll, q_slt, q_slr, nSlL, oNone, oSome, nLc, wipeD, q_dropc, q_dropxd, q_dropxb, q_dropxo, q_dropxn, q_drope, dYes, dCnt, q_revl, q_revt, q_revr, nListRg, dTupRg, exInts, exOpt, q_addr1, q_addrr, q_ixk0, q_ixk1, exRow, exTk, cntL, cntQ_some, cntQ_none, List.getElem?_cons_zero, List.getElem?_cons_succ, List.getElem?_nil, Option.some.injEq, SV.dat.injEq, SV.own.injEq, PyData.int.injEq, PyData.bool.injEq, PyData.tuple.injEq, PyData.list.injEq, PyData.str.injEq, RVd.new.injEq, RVd.dat.injEq, exists_eq_left, exists_eq_left', exists_eq_right, List.cons.injEq, List.set_cons_zero, List.set_cons_succ, reduceCtorEq, and_true, true_and, false_and, and_false, not_true_eq_false, not_false_eq_true, if_true, if_false, ite_true, ite_false, decide_eq_true_eq, Bool.not_eq_true', decide_eq_false_iff_not, Bool.and_true, Bool.true_and, Bool.and_false, Bool.false_and, Bool.not_true, Bool.not_false, Bool.false_eq_true, List.map_cons, List.map_nil, List.length_cons, List.length_nil, Nat.zero_add, Nat.reduceAdd, Nat.reduceLeDiff, startd, List.replicate_succ, List.replicate_zero, List.nil_append, List.cons_append, Nat.reduceSub, exists_const, and_self, shp_int, shp_none, shp_bool, eqv_int, dForL_nil, lcL_nil] at h ⊢
      exact h
  · exact h.elim
theorem len_is_within (svs : List SV) (R : RVd → Prop) (h : sp_is_within svs R) : svs.length = 3 := by
  unfold sp_is_within at h
  split at h
  · rfl
  · exact h.elim
/-! ### is_taker -/
def takerB : PyData → Bool
  | .tuple [.int e, b] => (decide (2 ≤ e) && decide (e ≤ 1000)) && withinB b 0 (e - 1)
  | _ => false
def sp_is_taker : DSp
  | [.dat d], R => R (.dat (.bool (takerB d)))
  | _, _ => False
/-- is_taker: 0 thing -/
abbrev b_is_taker : DS := (dSeq (dIfS (dOr (dNot (dTest (d1 (isiD "tuple") (dVar 0)))) (dOr (dTest (d2 neD (dCB lenD (nCons (dVar 0) nNil)) (dC (.int 2)))) (dNot (dTest (dCall sp_is_within (aDat (d2 ixD (dVar 0) (dC (.int 0))) (aDat (dC (.int 2)) (aDat (dC (.int 1000)) aNil)))))))) (dRet (dC (.bool false))) dNext)
  (dRet (dCall sp_is_within (aDat (d2 ixD (dVar 0) (dC (.int 1))) (aDat (dC (.int 0)) (aDat (d2 subD (d2 ixD (dVar 0) (dC (.int 0))) (dC (.int 1))) aNil))))))
theorem at0 {α : Type} {x : α} {r : List α} : atI (x :: r) 0 = some x := atI_nat (j := 0) rfl
theorem at1 {α : Type} {x y : α} {r : List α} : atI (x :: y :: r) 1 = some y := atI_nat (j := 1) rfl
theorem rd_is_taker (svs : List SV) (R : RVd → Prop) (h : sp_is_taker svs R) : b_is_taker { nx := fun _ => R (.dat .none), rt := R } (startd 1 svs) := by
  unfold sp_is_taker at h
  split at h
  · rename_i d
    simp only [b_is_taker, isi_tup, sp_is_within, dSeq, dAsgG, dAsgN, dRet, dRetN, dRetO, dRet0, dDrop, dIfS, dNext, dApp, dInsert, q_setI, q_setQ, q_take, dFor, dFreeze, dNever, q_par, q_parQ, q_par3, q_parQ3, dParNE, dParDE, gdName, q_gnil, q_gcons, q_gtup, dVar, dOwn, dC, d1, d2, n2, nCons, nNil, nLst, dTup, dFr, dTest, dAnd, dOr, dNot, dAndV, dOrV, dNotV, dIf, dChain, dCB, nCB, dCall, nCall, aDat, aBag, aNil, q_neg, q_add, q_addl, q_addt, q_sub, q_mul, q_mull, q_mult, q_fdiv, q_mod, q_pow, q_lt, q_le, q_gt, q_ge, eqD, neD, isD, isntD, q_isnn, q_isni, q_isnb, q_isnt, q_isnl, q_lenl, q_lent, q_inti, q_intb, q_max2, q_min2, q_listl, q_listt, q_tuplel, q_tuplet, q_sum, q_min, q_max, allD, itSeq, itR1, q_itR2, q_rng2, q_en, q_en1, q_zip, q_zipQ, q_seqr, q_lenr, q_ixr, q_seql, q_seqt, q_rvd, q_rvn, q_catn, q_ixl, q_ixt, q_sl, q_sll, q_slt, q_slr, nSlL, oNone, oSome, nLc, wipeD, q_dropc, q_dropxd, q_dropxb, q_dropxo, q_dropxn, q_drope, dYes, dCnt, q_revl, q_revt, q_revr, nListRg, dTupRg, exInts, exOpt, q_addr1, q_addrr, q_ixk0, q_ixk1, exRow, exTk, cntL, cntQ_some, cntQ_none, List.getElem?_cons_zero, List.getElem?_cons_succ, List.getElem?_nil, Option.some.injEq, SV.dat.injEq, SV.own.injEq, PyData.int.injEq, PyData.bool.injEq, PyData.tuple.injEq, PyData.list.injEq, PyData.str.injEq, RVd.new.injEq, RVd.dat.injEq, exists_eq_left, exists_eq_left', exists_eq_right, List.cons.injEq, List.set_cons_zero, List.set_cons_succ, reduceCtorEq, and_true, true_and, false_and, and_false, not_true_eq_false, not_false_eq_true, if_true, if_false, ite_true, ite_false, decide_eq_true_eq, Bool.not_eq_true', decide_eq_false_iff_not, Bool.and_true, Bool.true_and, Bool.and_false, Bool.false_and, Bool.not_true, Bool.not_false, Bool.false_eq_true, List.map_cons, List.map_nil, List.length_cons, List.length_nil, Nat.zero_add, Nat.reduceAdd, Nat.reduceLeDiff, startd, List.replicate_succ, List.replicate_zero, List.nil_append, List.cons_append, Nat.reduceSub, exists_const, and_self, shp_int, shp_none, shp_bool, eqv_int, dForL_nil, lcL_nil]
    cases d with
    | tuple ds =>
      simp only [isTupB, dSeq, dAsgG, dAsgN, dRet, dRetN, dRetO, dRet0, dDrop, dIfS, dNext, dApp, dInsert, q_setI, q_setQ, q_take, dFor, dFreeze, dNever, q_par, q_parQ, q_par3, q_parQ3, dParNE, dParDE, gdName, q_gnil, q_gcons, q_gtup, dVar, dOwn, dC, d1, d2, n2, nCons, nNil, nLst, dTup, dFr, dTest, dAnd, dOr, dNot, dAndV, dOrV, dNotV, dIf, dChain, dCB, nCB, dCall, nCall, aDat, aBag, aNil, q_neg, q_add, q_addl, q_addt, q_sub, q_mul, q_mull, q_mult, q_fdiv, q_mod, q_pow, q_lt, q_le, q_gt, q_ge, eqD, neD, isD, isntD, q_isnn, q_isni, q_isnb, q_isnt, q_isnl, q_lenl, q_lent, q_inti, q_intb, q_max2, q_min2, q_listl, q_listt, q_tuplel, q_tuplet, q_sum, q_min, q_max, allD, itSeq, itR1, q_itR2, q_rng2, q_en, q_en1, q_zip, q_zipQ, q_seqr, q_lenr, q_ixr, q_seql, q_seqt, q_rvd, q_rvn, q_catn, q_ixl, q_ixt, q_sl, q_sll, q_slt, q_slr, nSlL, oNone, oSome, nLc, wipeD, q_dropc, q_dropxd, q_dropxb, q_dropxo, q_dropxn, q_drope, dYes, dCnt, q_revl, q_revt, q_revr, nListRg, dTupRg, exInts, exOpt, q_addr1, q_addrr, q_ixk0, q_ixk1, exRow, exTk, cntL, cntQ_some, cntQ_none, List.getElem?_cons_zero, List.getElem?_cons_succ, List.getElem?_nil, Option.some.injEq, SV.dat.injEq, SV.own.injEq, PyData.int.injEq, PyData.bool.injEq, PyData.tuple.injEq, PyData.list.injEq, PyData.str.injEq, RVd.new.injEq, RVd.dat.injEq, exists_eq_left, exists_eq_left', exists_eq_right, List.cons.injEq, List.set_cons_zero, List.set_cons_succ, reduceCtorEq, and_true, true_and, false_and, and_false, not_true_eq_false, not_false_eq_true, if_true, if_false, ite_true, ite_false, decide_eq_true_eq, Bool.not_eq_true', decide_eq_false_iff_not, Bool.and_true, Bool.true_and, Bool.and_false, Bool.false_and, Bool.not_true, Bool.not_false, Bool.false_eq_true, List.map_cons, List.map_nil, List.length_cons, List.length_nil, Nat.zero_add, Nat.reduceAdd, Nat.reduceLeDiff, startd, List.replicate_succ, List.replicate_zero, List.nil_append, List.cons_append, Nat.reduceSub, exists_const, and_self, shp_int, shp_none, shp_bool, eqv_int, dForL_nil, lcL_nil]
      match ds, h with
      | [], h =>
        have e2 : ¬ ((0 : Nat) : Int) = 2 := by decide
        simp only [e2, not_false_eq_true, takerB, dSeq, dAsgG, dAsgN, dRet, dRetN, dRetO, dRet0, dDrop, dIfS, dNext, dApp, dInsert, q_setI, q_setQ, q_take, dFor, dFreeze, dNever, q_par, q_parQ, q_par3, q_parQ3, dParNE, dParDE, gdName, q_gnil, q_gcons, q_gtup, dVar, dOwn, dC, d1, d2, n2, nCons, nNil, nLst, dTup, dFr, dTest, dAnd, dOr, dNot, dAndV, dOrV, dNotV, dIf, dChain, dCB, nCB, dCall, nCall, aDat, aBag, aNil, q_neg, q_add, q_addl, q_addt, q_sub, q_mul, q_mull, q_mult, q_fdiv, q_mod, q_pow, q_lt, q_le, q_gt, q_ge, eqD, neD, isD, isntD, q_isnn, q_isni, q_isnb, q_isnt, q_isnl, q_lenl, q_lent, q_inti, q_intb, q_max2, q_min2, q_listl, q_listt, q_tuplel, q_tuplet, q_sum, q_min, q_max, allD, itSeq, itR1, q_itR2, q_rng2, q_en, q_en1, q_zip, q_zipQ, q_seqr, q_lenr, q_ixr, q_seql, q_seqt, q_rvd, q_rvn, q_catn, q_ixl, q_ixt, q_sl, q_sll, q_slt, q_slr, nSlL, oNone, oSome, nLc, wipeD, q_dropc, q_dropxd, q_dropxb, q_dropxo, q_dropxn, q_drope, dYes, dCnt, q_revl, q_revt, q_revr, nListRg, dTupRg, exInts, exOpt, q_addr1, q_addrr, q_ixk0, q_ixk1, exRow, exTk, cntL, cntQ_some, cntQ_none, List.getElem?_cons_zero, List.getElem?_cons_succ, List.getElem?_nil, Option.some.injEq, SV.dat.injEq, SV.own.injEq, PyData.int.injEq, PyData.bool.injEq, PyData.tuple.injEq, PyData.list.injEq, PyData.str.injEq, RVd.new.injEq, RVd.dat.injEq, exists_eq_left, exists_eq_left', exists_eq_right, List.cons.injEq, List.set_cons_zero, List.set_cons_succ, reduceCtorEq, and_true, true_and, false_and, and_false, not_true_eq_false, not_false_eq_true, if_true, if_false, ite_true, ite_false, decide_eq_true_eq, Bool.not_eq_true', decide_eq_false_iff_not, Bool.and_true, Bool.true_and, Bool.and_false, Bool.false_and, Bool.not_true, Bool.not_false, Bool.false_eq_true, List.map_cons, List.map_nil, List.length_cons, List.length_nil, Nat.zero_add, Nat.reduceAdd, Nat.reduceLeDiff, startd, List.replicate_succ, List.replicate_zero, List.nil_append, List.cons_append, Nat.reduceSub, exists_const, and_self, shp_int, shp_none, shp_bool, eqv_int, dForL_nil, lcL_nil] at h ⊢
        exact h
      | [a], h =>
        have e2 : ¬ ((1 : Nat) : Int) = 2 := by decide
        simp only [e2, not_false_eq_true, takerB, dSeq, dAsgG, dAsgN, dRet, dRetN, dRetO, dRet0, dDrop, dIfS, dNext, dApp, dInsert, q_setI, q_setQ, q_take, dFor, dFreeze, dNever, q_par, q_parQ, q_par3, q_parQ3, dParNE, dParDE, gdName, q_gnil, q_gcons, q_gtup, dVar, dOwn, dC, d1, d2, n2, nCons, nNil, nLst, dTup, dFr, dTest, dAnd, dOr, dNot, dAndV, dOrV, dNotV, dIf, dChain, dCB, nCB, dCall, nCall, aDat, aBag, aNil, q_neg, q_add, q_addl, q_addt, q_sub, q_mul, q_mull, q_mult, q_fdiv, q_mod, q_pow, q_lt, q_le, q_gt, q_ge, eqD, neD, isD, isntD, q_isnn, q_isni, q_isnb, q_isnt, q_isnl, q_lenl, q_lent, q_inti, q_intb, q_max2, q_min2, q_listl, q_listt, q_tuplel, q_tuplet, q_sum, q_min, q_max, allD, itSeq, itR1, q_itR2, q_rng2, q_en, q_en1, q_zip, q_zipQ, q_seqr, q_lenr, q_ixr, q_seql, q_seqt, q_rvd, q_rvn, q_catn, q_ixl, q_ixt, q_sl, q_sll, q_slt, q_slr, nSlL, oNone, oSome, nLc, wipeD, q_dropc, q_dropxd, q_dropxb, q_dropxo, q_dropxn, q_drope, dYes, dCnt, q_revl, q_revt, q_revr, nListRg, dTupRg, exInts, exOpt, q_addr1, q_addrr, q_ixk0, q_ixk1, exRow, exTk, cntL, cntQ_some, cntQ_none, List.getElem?_cons_zero, List.getElem?_cons_succ, List.getElem?_nil, Option.some.injEq, SV.dat.injEq, SV.own.injEq, PyData.int.injEq, PyData.bool.injEq, PyData.tuple.injEq, PyData.list.injEq, PyData.str.injEq, RVd.new.injEq, RVd.dat.injEq, exists_eq_left, exists_eq_left', exists_eq_right, List.cons.injEq, List.set_cons_zero, List.set_cons_succ, reduceCtorEq, and_true, true_and, false_and, and_false, not_true_eq_false, not_false_eq_true, if_true, if_false, ite_true, ite_false, decide_eq_true_eq, Bool.not_eq_true', decide_eq_false_iff_not, Bool.and_true, Bool.true_and, Bool.and_false, Bool.false_and, Bool.not_true, Bool.not_false, Bool.false_eq_true, List.map_cons, List.map_nil, List.length_cons, List.length_nil, Nat.zero_add, Nat.reduceAdd, Nat.reduceLeDiff, startd, List.replicate_succ, List.replicate_zero, List.nil_append, List.cons_append, Nat.reduceSub, exists_const, and_self, shp_int, shp_none, shp_bool, eqv_int, dForL_nil, lcL_nil] at h ⊢
        exact h
      | [a, b], h =>
        have e2 : ((2 : Nat) : Int) = 2 := rfl
        simp only [List.length_cons, List.length_nil, e2, at0, at1, not_true_eq_false, dSeq, dAsgG, dAsgN, dRet, dRetN, dRetO, dRet0, dDrop, dIfS, dNext, dApp, dInsert, q_setI, q_setQ, q_take, dFor, dFreeze, dNever, q_par, q_parQ, q_par3, q_parQ3, dParNE, dParDE, gdName, q_gnil, q_gcons, q_gtup, dVar, dOwn, dC, d1, d2, n2, nCons, nNil, nLst, dTup, dFr, dTest, dAnd, dOr, dNot, dAndV, dOrV, dNotV, dIf, dChain, dCB, nCB, dCall, nCall, aDat, aBag, aNil, q_neg, q_add, q_addl, q_addt, q_sub, q_mul, q_mull, q_mult, q_fdiv, q_mod, q_pow, q_lt, q_le, q_gt, q_ge, eqD, neD, isD, isntD, q_isnn, q_isni, q_isnb, q_isnt, q_isnl, q_lenl, q_lent, q_inti, q_intb, q_max2, q_min2, q_listl, q_listt, q_tuplel, q_tuplet, q_sum, q_min, q_max, allD, itSeq, itR1, q_itR2, q_rng2, q_en, q_en1, q_zip, q_zipQ, q_seqr, q_lenr, q_ixr, q_seql, q_seqt, q_rvd, q_rvn, q_catn, q_ixl, q_ixt, q_sl, q_sll, q_slt, q_slr, nSlL, oNone, oSome, nLc, wipeD, q_dropc, q_dropxd, q_dropxb, q_dropxo, q_dropxn, q_drope, dYes, dCnt, q_revl, q_revt, q_revr, nListRg, dTupRg, exInts, exOpt, q_addr1, q_addrr, q_ixk0, q_ixk1, exRow, exTk, cntL, cntQ_some, cntQ_none, List.getElem?_cons_zero, List.getElem?_cons_succ, List.getElem?_nil, Option.some.injEq, SV.dat.injEq, SV.own.injEq, PyData.int.injEq, PyData.bool.injEq, PyData.tuple.injEq, PyData.list.injEq, PyData.str.injEq, RVd.new.injEq, RVd.dat.injEq, exists_eq_left, exists_eq_left', exists_eq_right, List.cons.injEq, List.set_cons_zero, List.set_cons_succ, reduceCtorEq, and_true, true_and, false_and, and_false, not_true_eq_false, not_false_eq_true, if_true, if_false, ite_true, ite_false, decide_eq_true_eq, Bool.not_eq_true', decide_eq_false_iff_not, Bool.and_true, Bool.true_and, Bool.and_false, Bool.false_and, Bool.not_true, Bool.not_false, Bool.false_eq_true, List.map_cons, List.map_nil, List.length_cons, List.length_nil, Nat.zero_add, Nat.reduceAdd, Nat.reduceLeDiff, startd, List.replicate_succ, List.replicate_zero, List.nil_append, List.cons_append, Nat.reduceSub, exists_const, and_self, shp_int, shp_none, shp_bool, eqv_int, dForL_nil, lcL_nil]
        cases a with
        | int e =>
          simp only [takerB, withinB, at0, dSeq, dAsgG, dAsgN, dRet, dRetN, dRetO, dRet0, dDrop, dIfS, dNext, dApp, dInsert, q_setI, q_setQ, q_take, dFor, dFreeze, dNever, q_par, q_parQ, q_par3, q_parQ3, dParNE, dParDE, gdName, q_gnil, q_gcons, q_gtup, dVar, dOwn, dC, d1, d2, n2, nCons, nNil, nLst, dTup, dFr, dTest, dAnd, dOr, dNot, dAndV, dOrV, dNotV, dIf, dChain, dCB, nCB, dCall, nCall, aDat, aBag, aNil, q_neg, q_add, q_addl, q_addt, q_sub, q_mul, q_mull, q_mult, q_fdiv, q_mod, q_pow, q_lt, q_le, q_gt, q_ge, eqD, neD, isD, isntD, q_isnn, q_isni, q_isnb, q_isnt, q_isnl, q_lenl, q_lent, q_inti, q_intb, q_max2, q_min2, q_listl, q_listt, q_tuplel, q_tuplet, q_sum, q_min, q_max, allD, itSeq, itR1, q_itR2, q_rng2, q_en, q_en1, q_zip, q_zipQ, q_seqr, q_lenr, q_ixr, q_seql, q_seqt, q_rvd, q_rvn, q_catn, q_ixl, q_ixt, q_sl, q_sll, q_slt, q_slr, nSlL, oNone, oSome, nLc, wipeD, q_dropc, q_dropxd, q_dropxb, q_dropxo, q_dropxn, q_drope, dYes, dCnt, q_revl, q_revt, q_revr, nListRg, dTupRg, exInts, exOpt, q_addr1, q_addrr, q_ixk0, q_ixk1, exRow, exTk, cntL, cntQ_some, cntQ_none, List.getElem?_cons_zero, List.getElem?_cons_succ, List.getElem?_nil, Option.some.injEq, SV.dat.injEq, SV.own.injEq, PyData.int.injEq, PyData.bool.injEq, PyData.tuple.injEq, PyData.list.injEq, PyData.str.injEq, RVd.new.injEq, RVd.dat.injEq, exists_eq_left, exists_eq_left', exists_eq_right, List.cons.injEq, List.set_cons_zero, List.set_cons_succ, reduceCtorEq, and_true, true_and, false_and, and_false, not_true_eq_false, not_false_eq_true, if_true, if_false, ite_true, ite_false, decide_eq_true_eq, Bool.not_eq_true', decide_eq_false_iff_not, Bool.and_true, Bool.true_and, Bool.and_false, Bool.false_and, Bool.not_true, Bool.not_false, Bool.false_eq_true, List.map_cons, List.map_nil, List.length_cons, List.length_nil, Nat.zero_add, Nat.reduceAdd, Nat.reduceLeDiff, startd, List.replicate_succ, List.replicate_zero, List.nil_append, List.cons_append, Nat.reduceSub, exists_const, and_self, shp_int, shp_none, shp_bool, eqv_int, dForL_nil, lcL_nil] at h ⊢
          by_cases h1 : 2 ≤ e
          · by_cases h2 : e ≤ 1000
            · simp only [h1, h2, decide_true, dSeq, dAsgG, dAsgN, dRet, dRetN, dRetO, dRet0, dDrop, dIfS, dNext, dApp, dInsert, q_setI, q_setQ, q_take, dFor, dFreeze, dNever, q_par, q_parQ, q_par3, q_parQ3, dParNE, dParDE, gdName, q_gnil, q_gcons, q_gtup, dVar, dOwn, dC, d1, d2, n2, nCons, nNil, nLst, dTup, dFr, dTest, dAnd, dOr, dNot, dAndV, dOrV, dNotV, dIf, dChain, dCB, nCB, dCall, nCall, aDat, aBag, aNil, q_neg, q_add, q_addl, q_addt, q_sub, q_mul, q_mull, q_mult, q_fdiv, q_mod, q_pow, q_lt, q_le, q_gt, q_ge, eqD, neD, isD, isntD, q_isnn, q_isni, q_isnb, q_isnt, q_isnl, q_lenl, q_lent, q_inti, q_intb, q_max2, q_min2, q_listl, q_listt, q_tuplel, q_tuplet, q_sum, q_min, q_max, allD, itSeq, itR1, q_itR2, q_rng2, q_en, q_en1, q_zip, q_zipQ, q_seqr, q_lenr, q_ixr, q_seql, q_seqt, q_rvd, q_rvn, q_catn, q_ixl, q_ixt, q_sl, q_sll, q_slt, q_slr, nSlL, oNone, oSome, nLc, wipeD, q_dropc, q_dropxd, q_dropxb, q_dropxo, q_dropxn, q_drope, dYes, dCnt, q_revl, q_revt, q_revr, nListRg, dTupRg, exInts, exOpt, q_addr1, q_addrr, q_ixk0, q_ixk1, exRow, exTk, cntL, cntQ_some, cntQ_none, List.getElem?_cons_zero, List.getElem?_cons_succ, List.getElem?_nil, Option.some.injEq, SV.dat.injEq, SV.own.injEq, PyData.int.injEq, PyData.bool.injEq, PyData.tuple.injEq, PyData.list.injEq, PyData.str.injEq, RVd.new.injEq, RVd.dat.injEq, exists_eq_left, exists_eq_left', exists_eq_right, List.cons.injEq, List.set_cons_zero, List.set_cons_succ, reduceCtorEq, and_true, true_and, false_and, and_false, not_true_eq_false, not_false_eq_true, if_true, if_false, ite_true, ite_false, decide_eq_true_eq, Bool.not_eq_true', decide_eq_false_iff_not, Bool.and_true, Bool.true_and, Bool.and_false, Bool.false_and, Bool.not_true, Bool.not_false, Bool.false_eq_true, List.map_cons, List.map_nil, List.length_cons, List.length_nil, Nat.zero_add, Nat.reduceAdd, Nat.reduceLeDiff, startd, List.replicate_succ, List.replicate_zero, List.nil_append, List.cons_append, Nat.reduceSub, exists_const, and_self, shp_int, shp_none, shp_bool, eqv_int, dForL_nil, lcL_nil] at h ⊢
              exact h
            · simp only [h1, h2, decide_true, decide_false, dSeq, dAsgG, dAsgN, dRet, dRetN, dRetO, dRet0, dDrop, dIfS, dNext, dApp, dInsert, q_setI, q_setQ, q_take, dFor, dFreeze, dNever, q_par, q_parQ, q_par3, q_parQ3, dParNE, dParDE, gdName, q_gnil, q_gcons, q_gtup, dVar, dOwn, dC, d1, d2, n2, nCons, nNil, nLst, dTup, dFr, dTest, dAnd, dOr, dNot, dAndV, dOrV, dNotV, dIf, dChain, dCB, nCB, dCall, nCall, aDat, aBag, aNil, q_neg, q_add, q_addl, q_addt, q_sub, q_mul, q_mull, q_mult, q_fdiv, q_mod, q_pow, q_lt, q_le, q_gt, q_ge, eqD, neD, isD, isntD, q_isnn, q_isni, q_isnb, q_isnt, q_isnl, q_lenl, q_lent, q_inti, q_intb, q_max2, q_min2, q_listl, q_listt, q_tuplel, q_tuplet, q_sum, q_min, q_max, allD, itSeq, itR1, q_itR2, q_rng2, q_en, q_en1, q_zip, q_zipQ, q_seqr, q_lenr, q_ixr, q_seql, q_seqt, q_rvd, q_rvn, q_catn, q_ixl, q_ixt, q_sl, q_sll, q_slt, q_slr, nSlL, oNone, oSome, nLc, wipeD, q_dropc, q_dropxd, q_dropxb, q_dropxo, q_dropxn, q_drope, dYes, dCnt, q_revl, q_revt, q_revr, nListRg, dTupRg, exInts, exOpt, q_addr1, q_addrr, q_ixk0, q_ixk1, exRow, exTk, cntL, cntQ_some, cntQ_none, List.getElem?_cons_zero, List.getElem?_cons_succ, List.getElem?_nil, Option.some.injEq, SV.dat.injEq, SV.own.injEq, PyData.int.injEq, PyData.bool.injEq, PyData.tuple.injEq, PyData.list.injEq, PyData.str.injEq, RVd.new.injEq, RVd.dat.injEq, exists_eq_left, exists_eq_left', exists_eq_right, List.cons.injEq, List.set_cons_zero, List.set_cons_succ, reduceCtorEq, and_true, true_and, false_and, and_false, not_true_eq_false, not_false_eq_true, if_true, if_false, ite_true, ite_false, decide_eq_true_eq, Bool.not_eq_true', decide_eq_false_iff_not, Bool.and_true, Bool.true_and, Bool.and_false, Bool.false_and, Bool.not_true, Bool.not_false, Bool.false_eq_true, List.map_cons, List.map_nil, List.length_cons, List.length_nil, Nat.zero_add, Nat.reduceAdd, Nat.reduceLeDiff, startd, List.replicate_succ, List.replicate_zero, List.nil_append, List.cons_append, Nat.reduceSub, exists_const, and_self, shp_int, shp_none, shp_bool, eqv_int, dForL_nil, lcL_nil] at h ⊢
              exact h
          · simp only [h1, decide_false, dSeq, dAsgG, dAsgN, dRet, dRetN, dRetO, dRet0, dDrop, dIfS, dNext, dApp, dInsert, q_setI, q_setQ, q_take, dFor, dFreeze, dNever, q_par, q_parQ, q_par3, q_parQ3, dParNE, dParDE, gdName, q_gnil, q_gcons, q_gtup, dVar, dOwn, dC, d1, d2, n2, nCons, nNil, nLst, dTup, dFr, dTest, dAnd, dOr, dNot, dAndV, dOrV, dNotV, dIf, dChain, dCB, nCB, dCall, nCall, aDat, aBag, aNil, q_neg, q_add, q_addl, q_addt, q_sub, q_mul, q_mull, q_mult, q_fdiv, q_mod, q_pow, q_lt, q_le, q_gt, q_ge, eqD, neD, isD, isntD, q_isnn, q_isni, q_isnb, q_isnt, q_isnl, q_lenl, q_lent, q_inti, q_intb, q_max2, q_min2, q_listl, q_listt, q_tuplel, q_tuplet, q_sum, q_min, q_max, allD, itSeq, itR1, q_itR2, q_rng2, q_en, q_en1, q_zip, q_zipQ, q_seqr, q_lenr, q_ixr, q_seql, q_seqt, q_rvd, q_rvn, q_catn, q_ixl, q_ixt, q_sl, q_sll, q_slt, q_slr, nSlL, oNone, oSome, nLc, wipeD, q_dropc, q_dropxd, q_dropxb, q_dropxo, q_dropxn, q_drope, dYes, dCnt, q_revl, q_revt, q_revr, nListRg, dTupRg, exInts, exOpt, q_addr1, q_addrr, q_ixk0, q_ixk1, exRow, exTk, cntL, cntQ_some, cntQ_none, List.getElem?_cons_zero, List.getElem?_cons_succ, List.getElem?_nil, Option.some.injEq, SV.dat.injEq, SV.own.injEq, PyData.int.injEq, PyData.bool.injEq, PyData.tuple.injEq, PyData.list.injEq, PyData.str.injEq, RVd.new.injEq, RVd.dat.injEq, exists_eq_left, exists_eq_left', exists_eq_right, List.cons.injEq, List.set_cons_zero, List.set_cons_succ, reduceCtorEq, and_true, true_and, false_and, and_false, not_true_eq_false, not_false_eq_true, if_true, if_false, ite_true, ite_false, decide_eq_true_eq, Bool.not_eq_true', decide_eq_false_iff_not, Bool.and_true, Bool.true_and, Bool.and_false, Bool.false_and, Bool.not_true, Bool.not_false, Bool.false_eq_true, List.map_cons, List.map_nil, List.length_cons, List.length_nil, Nat.zero_add, Nat.reduceAdd, Nat.reduceLeDiff, startd, List.replicate_succ, List.replicate_zero, List.nil_append, List.cons_append, Nat.reduceSub, exists_const, and_self, shp_int, shp_none, shp_bool, eqv_int, dForL_nil, lcL_nil] at h ⊢
            exact h
        | _ =>
          simp only [takerB, withinB, dSeq, dAsgG, dAsgN, dRet, dRetN, dRetO, dRet0, dDrop, dIfS, dNext, dApp, dInsert, q_setI, q_setQ, q_take, dFor, dFreeze, dNever, q_par, q_parQ, q_par3, q_parQ3, dParNE, dParDE, gdName, q_gnil, q_gcons, q_gtup, dVar, dOwn, dC, d1, d2, n2, nCons, nNil, nLst, dTup, dFr, dTest, dAnd, dOr, dNot, dAndV, dOrV, dNotV, dIf, dChain, dCB, nCB, dCall, nCall, aDat, aBag, aNil, q_neg, q_add, q_addl, q_addt, q_sub, q_mul, q_mull, q_mult, q_fdiv, q_mod, q_pow, q_lt, q_le, q_gt, q_ge, eqD, neD, isD, isntD, q_isnn, q_isni, q_isnb, q_isnt, q_isnl, q_lenl, q_lent, q_inti, q_intb, q_max2, q_min2, q_listl, q_listt, q_tuplel, q_tuplet, q_sum, q_min, q_max, allD, itSeq, itR1, q_itR2, q_rng2, q_en, q_en1, q_zip, q_zipQ, q_seqr, q_lenr, q_ixr, q_seql, q_seqt, q_rvd, q_rvn, q_catn, q_ixl, q_ixt, q_sl, q_sll, q_slt, q_slr, nSlL, oNone, oSome, nLc, wipeD, q_dropc, q_dropxd, q_dropxb, q_dropxo, q_dropxn, q_drope, dYes, dCnt, q_revl, q_revt, q_revr, nListRg, dTupRg, exInts, exOpt, q_addr1, q_addrr, q_ixk0, q_ixk1, exRow, exTk, cntL, cntQ_some, cntQ_none, List.getElem?_cons_zero, List.getElem?_cons_succ, List.getElem?_nil, Option.some.injEq, SV.dat.injEq, SV.own.injEq, PyData.int.injEq, PyData.bool.injEq, PyData.tuple.injEq, PyData.list.injEq, PyData.str.injEq, RVd.new.injEq, RVd.dat.injEq, exists_eq_left, exists_eq_left', exists_eq_right, List.cons.injEq, List.set_cons_zero, List.set_cons_succ, reduceCtorEq, and_true, true_and, false_and, and_false, not_true_eq_false, not_false_eq_true, if_true, if_false, ite_true, ite_false, decide_eq_true_eq, Bool.not_eq_true', decide_eq_false_iff_not, Bool.and_true, Bool.true_and, Bool.and_false, Bool.false_and, Bool.not_true, Bool.not_false, Bool.false_eq_true, List.map_cons, List.map_nil, List.length_cons, List.length_nil, Nat.zero_add, Nat.reduceAdd, Nat.reduceLeDiff, startd, List.replicate_succ, List.replicate_zero, List.nil_append, List.cons_append, Nat.reduceSub, exists_const, and_self, shp_int, shp_none, shp_bool, eqv_int, dForL_nil, lcL_nil] at h ⊢
          exact h
      | a :: b :: c :: r, h =>
        have e2 : ¬ ((r.length + 1 + 1 + 1 : Nat) : Int) = 2 := by omega
        simp only [List.length_cons, e2, not_false_eq_true, takerB, dSeq, dAsgG, dAsgN, dRet, dRetN, dRetO, dRet0, dDrop, dIfS, dNext, dApp, dInsert, q_setI, q_setQ, q_take, dFor, dFreeze, dNever, q_par, q_parQ, q_par3, q_parQ3, dParNE, dParDE, gdName, q_gnil, q_gcons, q_gtup, dVar, dOwn, dC, d1, d2, n2, nCons, nNil, nLst, dTup, dFr, dTest, dAnd, dOr, dNot, dAndV, dOrV, dNotV, dIf, dChain, dCB, nCB, dCall, nCall, aDat, aBag, aNil, q_neg, q_add, q_addl, q_addt, q_sub, q_mul, q_mull, q_mult, q_fdiv, q_mod, q_pow, q_lt, q_le, q_gt, q_ge, eqD, neD, isD, isntD, q_isnn, q_isni, q_isnb, q_isnt, q_isnl, q_lenl, q_lent, q_inti, q_intb, q_max2, q_min2, q_listl, q_listt, q_tuplel, q_tuplet, q_sum, q_min, q_max, allD, itSeq, itR1, q_itR2, q_rng2, q_en, q_en1, q_zip, q_zipQ, q_seqr, q_lenr, q_ixr, q_seql, q_seqt, q_rvd, q_rvn, q_catn, q_ixl, q_ixt, q_sl, q_sll, q_slt, q_slr, nSlL, oNone, oSome, nLc, wipeD, q_dropc, q_dropxd, q_dropxb, q_dropxo, q_dropxn, q_drope, dYes, dCnt, q_revl, q_revt, q_revr, nListRg, dTupRg, exInts, exOpt, q_addr1, q_addrr, q_ixk0, q_ixk1, exRow, exTk, cntL, cntQ_some, cntQ_none, List.getElem?_cons_zero, List.getElem?_cons_succ, List.getElem?_nil, Option.some.injEq, SV.dat.injEq, SV.own.injEq, PyData.int.injEq, PyData.bool.injEq, PyData.tuple.injEq, PyData.list.injEq, PyData.str.injEq, RVd.new.injEq, RVd.dat.injEq, exists_eq_left, exists_eq_left', exists_eq_right, List.cons.injEq, List.set_cons_zero, List.set_cons_succ, reduceCtorEq, and_true, true_and, false_and, and_false, not_true_eq_false, not_false_eq_true, if_true, if_false, ite_true, ite_false, decide_eq_true_eq, Bool.not_eq_true', decide_eq_false_iff_not, Bool.and_true, Bool.true_and, Bool.and_false, Bool.false_and, Bool.not_true, Bool.not_false, Bool.false_eq_true, List.map_cons, List.map_nil, List.length_cons, List.length_nil, Nat.zero_add, Nat.reduceAdd, Nat.reduceLeDiff, startd, List.replicate_succ, List.replicate_zero, List.nil_append, List.cons_append, Nat.reduceSub, exists_const, and_self, shp_int, shp_none, shp_bool, eqv_int, dForL_nil, lcL_nil] at h ⊢
        exact h
    | _ =>
      simp only [isTupB, takerB, dSeq, dAsgG, dAsgN, dRet, dRetN, dRetO, dRet0, dDrop, dIfS, dNext, dApp, dInsert, q_setI, q_setQ, q_take, dFor, dFreeze, dNever, q_par, q_parQ, q_par3, q_parQ3, dParNE, dParDE, gdName, q_gnil, q_gcons, q_gtup, dVar, dOwn, dC, d1, d2, n2, nCons, nNil, nLst, dTup, dFr, dTest, dAnd, dOr, dNot, dAndV, dOrV, dNotV, dIf, dChain, dCB, nCB, dCall, nCall, aDat, aBag, aNil, q_neg, q_add, q_addl, q_addt, q_sub, q_mul, q_mull, q_mult, q_fdiv, q_mod, q_pow, q_lt, q_le, q_gt, q_ge, eqD, neD, isD, isntD, q_isnn, q_isni, q_isnb, q_isnt, q_isnl, q_lenl, q_lent, q_inti, q_intb, q_max2, q_min2, q_listl, q_listt, q_tuplel, q_tuplet, q_sum, q_min, q_max, allD, itSeq, itR1, q_itR2, q_rng2, q_en, q_en1, q_zip, q_zipQ, q_seqr, q_lenr, q_ixr, q_seql, q_seqt, q_rvd, q_rvn, q_catn, q_ixl, q_ixt, q_sl, q_sll, q_slt, q_slr, nSlL, oNone, oSome, nLc, wipeD, q_dropc, q_dropxd, q_dropxb, q_dropxo, q_dropxn, q_drope, dYes, dCnt, q_revl, q_revt, q_revr, nListRg, dTupRg, exInts, exOpt, q_addr1, q_addrr, q_ixk0, q_ixk1, exRow, exTk, cntL, cntQ_some, cntQ_none, List.getElem?_cons_zero, List.getElem?_cons_succ, List.getElem?_nil, Option.some.injEq, SV.dat.injEq, SV.own.injEq, PyData.int.injEq, PyData.bool.injEq, PyData.tuple.injEq, PyData.list.injEq, PyData.str.injEq, RVd.new.injEq, RVd.dat.injEq, exists_eq_left, exists_eq_left', exists_eq_right, List.cons.injEq, List.set_cons_zero, List.set_cons_succ, reduceCtorEq, and_true, true_and, false_and, and_false, not_true_eq_false, not_false_eq_true, if_true, if_false, ite_true, ite_false, decide_eq_true_eq, Bool.not_eq_true', decide_eq_false_iff_not, Bool.and_true, Bool.true_and, Bool.and_false, Bool.false_and, Bool.not_true, Bool.not_false, Bool.false_eq_true, List.map_cons, List.map_nil, List.length_cons, List.length_nil, Nat.zero_add, Nat.reduceAdd, Nat.reduceLeDiff, startd, List.replicate_succ, List.replicate_zero, List.nil_append, List.cons_append, Nat.reduceSub, exists_const, and_self, shp_int, shp_none, shp_bool, eqv_int, dForL_nil, lcL_nil] at h ⊢
      exact h
  · exact h.elim
theorem len_is_taker (svs : List SV) (R : RVd → Prop) (h : sp_is_taker svs R) : svs.length = 1 := by
  unfold sp_is_taker at h
  split at h
  · rfl
  · exact h.elim
/-! ### is_row -/
def rowB : PyData → Bool
  | .tuple ds => decide (ds.length ≤ 8) && ds.all takerB
  | _ => false
def sp_is_row : DSp
  | [.dat d], R => R (.dat (.bool (rowB d)))
  | _, _ => False
/-- is_row: 0 thing, 1 one -/
abbrev b_is_row : DS := (dRet (dAndV (d1 (isiD "tuple") (dVar 0)) (dAndV (d2 leD (dCB lenD (nCons (dVar 0) nNil)) (dC (.int 8))) (dCB allD (nCons (dFr (nLc (itSeq (dVar 0)) (gdName 1) dYes (dCall sp_is_taker (aDat (dVar 1) aNil)) [1])) nNil)))))
/-- a comprehension whose element is a function of the item -/
theorem lcL_map {g : DG} {te : DE} {env : Denv} {f : PyData → PyData} (hg : ∀ d Q, (g d env fun env' => te env' Q) = Q (f d)) : ∀ (ds : List PyData) (Q : List PyData → Prop), lcL g dYes te env ds Q = Q (ds.map f)
  | [], Q => rfl
  | d :: ds, Q => by
    show (g d env fun env' => te env' fun y => lcL g dYes te env ds fun ys => Q (y :: ys)) = _
    rw [hg d]
    exact lcL_map hg ds fun ys => Q (f d :: ys)
theorem rd_is_row (svs : List SV) (R : RVd → Prop) (h : sp_is_row svs R) : b_is_row { nx := fun _ => R (.dat .none), rt := R } (startd 2 svs) := by
  unfold sp_is_row at h
  split at h
  · rename_i d
    simp only [b_is_row, isi_tup, dSeq, dAsgG, dAsgN, dRet, dRetN, dRetO, dRet0, dDrop, dIfS, dNext, dApp, dInsert, q_setI, q_setQ, q_take, dFor, dFreeze, dNever, q_par, q_parQ, q_par3, q_parQ3, dParNE, dParDE, gdName, q_gnil, q_gcons, q_gtup, dVar, dOwn, dC, d1, d2, n2, nCons, nNil, nLst, dTup, dFr, dTest, dAnd, dOr, dNot, dAndV, dOrV, dNotV, dIf, dChain, dCB, nCB, dCall, nCall, aDat, aBag, aNil, q_neg, q_add, q_addl, q_addt, q_sub, q_mul, q_mull, q_mult, q_fdiv, q_mod, q_pow, q_lt, q_le, q_gt, q_ge, eqD, neD, isD, isntD, q_isnn, q_isni, q_isnb, q_isnt, q_isnl, q_lenl, q_lent, q_inti, q_intb, q_max2, q_min2, q_listl, q_listt, q_tuplel, q_tuplet, q_sum, q_min, q_max, allD, itSeq, itR1, q_itR2, q_rng2, q_en, q_en1, q_zip, q_zipQ, q_seqr, q_lenr, q_ixr, q_seql, q_seqt, q_rvd, q_rvn, q_catn, q_ixl, q_ixt, q_sl, q_sll, q_slt, q_slr, nSlL, oNone, oSome, nLc, wipeD, q_dropc, q_dropxd, q_dropxb, q_dropxo, q_dropxn, q_drope, dYes, dCnt, q_revl, q_revt, q_revr, nListRg, dTupRg, exInts, exOpt, q_addr1, q_addrr, q_ixk0, q_ixk1, exRow, exTk, cntL, cntQ_some, cntQ_none, List.getElem?_cons_zero, List.getElem?_cons_succ, List.getElem?_nil, Option.some.injEq, SV.dat.injEq, SV.own.injEq, PyData.int.injEq, PyData.bool.injEq, PyData.tuple.injEq, PyData.list.injEq, PyData.str.injEq, RVd.new.injEq, RVd.dat.injEq, exists_eq_left, exists_eq_left', exists_eq_right, List.cons.injEq, List.set_cons_zero, List.set_cons_succ, reduceCtorEq, and_true, true_and, false_and, and_false, not_true_eq_false, not_false_eq_true, if_true, if_false, ite_true, ite_false, decide_eq_true_eq, Bool.not_eq_true', decide_eq_false_iff_not, Bool.and_true, Bool.true_and, Bool.and_false, Bool.false_and, Bool.not_true, Bool.not_false, Bool.false_eq_true, List.map_cons, List.map_nil, List.length_cons, List.length_nil, Nat.zero_add, Nat.reduceAdd, Nat.reduceLeDiff, startd, List.replicate_succ, List.replicate_zero, List.nil_append, List.cons_append, Nat.reduceSub, exists_const, and_self, shp_int, shp_none, shp_bool, eqv_int, dForL_nil, lcL_nil]
    cases d with
    | tuple ds =>
      simp only [isTupB, rowB, dSeq, dAsgG, dAsgN, dRet, dRetN, dRetO, dRet0, dDrop, dIfS, dNext, dApp, dInsert, q_setI, q_setQ, q_take, dFor, dFreeze, dNever, q_par, q_parQ, q_par3, q_parQ3, dParNE, dParDE, gdName, q_gnil, q_gcons, q_gtup, dVar, dOwn, dC, d1, d2, n2, nCons, nNil, nLst, dTup, dFr, dTest, dAnd, dOr, dNot, dAndV, dOrV, dNotV, dIf, dChain, dCB, nCB, dCall, nCall, aDat, aBag, aNil, q_neg, q_add, q_addl, q_addt, q_sub, q_mul, q_mull, q_mult, q_fdiv, q_mod, q_pow, q_lt, q_le, q_gt, q_ge, eqD, neD, isD, isntD, q_isnn, q_isni, q_isnb, q_isnt, q_isnl, q_lenl, q_lent, q_inti, q_intb, q_max2, q_min2, q_listl, q_listt, q_tuplel, q_tuplet, q_sum, q_min, q_max, allD, itSeq, itR1, q_itR2, q_rng2, q_en, q_en1, q_zip, q_zipQ, q_seqr, q_lenr, q_ixr, q_seql, q_seqt, q_rvd, q_rvn, q_catn, q_ixl, q_ixt, q_sl, q_sll, q_slt, q_slr, nSlL, oNone, oSome, nLc, wipeD, q_dropc, q_dropxd, q_dropxb, q_dropxo, q_dropxn, q_drope, dYes, dCnt, q_revl, q_revt, q_revr, nListRg, dTupRg, exInts, exOpt, q_addr1, q_addrr, q_ixk0, q_ixk1, exRow, exTk, cntL, cntQ_some, cntQ_none, List.getElem?_cons_zero, List.getElem?_cons_succ, List.getElem?_nil, Option.some.injEq, SV.dat.injEq, SV.own.injEq, PyData.int.injEq, PyData.bool.injEq, PyData.tuple.injEq, PyData.list.injEq, PyData.str.injEq, RVd.new.injEq, RVd.dat.injEq, exists_eq_left, exists_eq_left', exists_eq_right, List.cons.injEq, List.set_cons_zero, List.set_cons_succ, reduceCtorEq, and_true, true_and, false_and, and_false, not_true_eq_false, not_false_eq_true, if_true, if_false, ite_true, ite_false, decide_eq_true_eq, Bool.not_eq_true', decide_eq_false_iff_not, Bool.and_true, Bool.true_and, Bool.and_false, Bool.false_and, Bool.not_true, Bool.not_false, Bool.false_eq_true, List.map_cons, List.map_nil, List.length_cons, List.length_nil, Nat.zero_add, Nat.reduceAdd, Nat.reduceLeDiff, startd, List.replicate_succ, List.replicate_zero, List.nil_append, List.cons_append, Nat.reduceSub, exists_const, and_self, shp_int, shp_none, shp_bool, eqv_int, dForL_nil, lcL_nil] at h ⊢
      by_cases h8 : ds.length ≤ 8
      · have h8' : (ds.length : Int) ≤ 8 := by omega
        simp only [h8, h8', decide_true, dSeq, dAsgG, dAsgN, dRet, dRetN, dRetO, dRet0, dDrop, dIfS, dNext, dApp, dInsert, q_setI, q_setQ, q_take, dFor, dFreeze, dNever, q_par, q_parQ, q_par3, q_parQ3, dParNE, dParDE, gdName, q_gnil, q_gcons, q_gtup, dVar, dOwn, dC, d1, d2, n2, nCons, nNil, nLst, dTup, dFr, dTest, dAnd, dOr, dNot, dAndV, dOrV, dNotV, dIf, dChain, dCB, nCB, dCall, nCall, aDat, aBag, aNil, q_neg, q_add, q_addl, q_addt, q_sub, q_mul, q_mull, q_mult, q_fdiv, q_mod, q_pow, q_lt, q_le, q_gt, q_ge, eqD, neD, isD, isntD, q_isnn, q_isni, q_isnb, q_isnt, q_isnl, q_lenl, q_lent, q_inti, q_intb, q_max2, q_min2, q_listl, q_listt, q_tuplel, q_tuplet, q_sum, q_min, q_max, allD, itSeq, itR1, q_itR2, q_rng2, q_en, q_en1, q_zip, q_zipQ, q_seqr, q_lenr, q_ixr, q_seql, q_seqt, q_rvd, q_rvn, q_catn, q_ixl, q_ixt, q_sl, q_sll, q_slt, q_slr, nSlL, oNone, oSome, nLc, wipeD, q_dropc, q_dropxd, q_dropxb, q_dropxo, q_dropxn, q_drope, dYes, dCnt, q_revl, q_revt, q_revr, nListRg, dTupRg, exInts, exOpt, q_addr1, q_addrr, q_ixk0, q_ixk1, exRow, exTk, cntL, cntQ_some, cntQ_none, List.getElem?_cons_zero, List.getElem?_cons_succ, List.getElem?_nil, Option.some.injEq, SV.dat.injEq, SV.own.injEq, PyData.int.injEq, PyData.bool.injEq, PyData.tuple.injEq, PyData.list.injEq, PyData.str.injEq, RVd.new.injEq, RVd.dat.injEq, exists_eq_left, exists_eq_left', exists_eq_right, List.cons.injEq, List.set_cons_zero, List.set_cons_succ, reduceCtorEq, and_true, true_and, false_and, and_false, not_true_eq_false, not_false_eq_true, if_true, if_false, ite_true, ite_false, decide_eq_true_eq, Bool.not_eq_true', decide_eq_false_iff_not, Bool.and_true, Bool.true_and, Bool.and_false, Bool.false_and, Bool.not_true, Bool.not_false, Bool.false_eq_true, List.map_cons, List.map_nil, List.length_cons, List.length_nil, Nat.zero_add, Nat.reduceAdd, Nat.reduceLeDiff, startd, List.replicate_succ, List.replicate_zero, List.nil_append, List.cons_append, Nat.reduceSub, exists_const, and_self, shp_int, shp_none, shp_bool, eqv_int, dForL_nil, lcL_nil] at h ⊢
        refine ⟨by omega, ?_⟩
        rw [lcL_map (f := fun d => .bool (takerB d)) (fun d Q => by simp only [sp_is_taker, dSeq, dAsgG, dAsgN, dRet, dRetN, dRetO, dRet0, dDrop, dIfS, dNext, dApp, dInsert, q_setI, q_setQ, q_take, dFor, dFreeze, dNever, q_par, q_parQ, q_par3, q_parQ3, dParNE, dParDE, gdName, q_gnil, q_gcons, q_gtup, dVar, dOwn, dC, d1, d2, n2, nCons, nNil, nLst, dTup, dFr, dTest, dAnd, dOr, dNot, dAndV, dOrV, dNotV, dIf, dChain, dCB, nCB, dCall, nCall, aDat, aBag, aNil, q_neg, q_add, q_addl, q_addt, q_sub, q_mul, q_mull, q_mult, q_fdiv, q_mod, q_pow, q_lt, q_le, q_gt, q_ge, eqD, neD, isD, isntD, q_isnn, q_isni, q_isnb, q_isnt, q_isnl, q_lenl, q_lent, q_inti, q_intb, q_max2, q_min2, q_listl, q_listt, q_tuplel, q_tuplet, q_sum, q_min, q_max, allD, itSeq, itR1, q_itR2, q_rng2, q_en, q_en1, q_zip, q_zipQ, q_seqr, q_lenr, q_ixr, q_seql, q_seqt, q_rvd, q_rvn, q_catn, q_ixl, q_ixt, q_sl, q_sll, q_slt, q_slr, nSlL, oNone, oSome, nLc, wipeD, q_dropc, q_dropxd, q_dropxb, q_dropxo, q_dropxn, q_drope, dYes, dCnt, q_revl, q_revt, q_revr, nListRg, dTupRg, exInts, exOpt, q_addr1, q_addrr, q_ixk0, q_ixk1, exRow, exTk, cntL, cntQ_some, cntQ_none, List.getElem?_cons_zero, List.getElem?_cons_succ, List.getElem?_nil, Option.some.injEq, SV.dat.injEq, SV.own.injEq, PyData.int.injEq, PyData.bool.injEq, PyData.tuple.injEq, PyData.list.injEq, PyData.str.injEq, RVd.new.injEq, RVd.dat.injEq, exists_eq_left, exists_eq_left', exists_eq_right, List.cons.injEq, List.set_cons_zero, List.set_cons_succ, reduceCtorEq, and_true, true_and, false_and, and_false, not_true_eq_false, not_false_eq_true, if_true, if_false, ite_true, ite_false, decide_eq_true_eq, Bool.not_eq_true', decide_eq_false_iff_not, Bool.and_true, Bool.true_and, Bool.and_false, Bool.false_and, Bool.not_true, Bool.not_false, Bool.false_eq_true, List.map_cons, List.map_nil, List.length_cons, List.length_nil, Nat.zero_add, Nat.reduceAdd, Nat.reduceLeDiff, startd, List.replicate_succ, List.replicate_zero, List.nil_append, List.cons_append, Nat.reduceSub, exists_const, and_self, shp_int, shp_none, shp_bool, eqv_int, dForL_nil, lcL_nil])]
        refine ⟨ds.map takerB, ?_, ?_⟩
        · rw [List.map_map]
          rfl
        · rw [List.all_map]
          exact h
      · have h8' : ¬ (ds.length : Int) ≤ 8 := by omega
        simp only [h8, h8', decide_false, dSeq, dAsgG, dAsgN, dRet, dRetN, dRetO, dRet0, dDrop, dIfS, dNext, dApp, dInsert, q_setI, q_setQ, q_take, dFor, dFreeze, dNever, q_par, q_parQ, q_par3, q_parQ3, dParNE, dParDE, gdName, q_gnil, q_gcons, q_gtup, dVar, dOwn, dC, d1, d2, n2, nCons, nNil, nLst, dTup, dFr, dTest, dAnd, dOr, dNot, dAndV, dOrV, dNotV, dIf, dChain, dCB, nCB, dCall, nCall, aDat, aBag, aNil, q_neg, q_add, q_addl, q_addt, q_sub, q_mul, q_mull, q_mult, q_fdiv, q_mod, q_pow, q_lt, q_le, q_gt, q_ge, eqD, neD, isD, isntD, q_isnn, q_isni, q_isnb, q_isnt, q_isnl, q_lenl, q_lent, q_inti, q_intb, q_max2, q_min2, q_listl, q_listt, q_tuplel, q_tuplet, q_sum, q_min, q_max, allD, itSeq, itR1, q_itR2, q_rng2, q_en, q_en1, q_zip, q_zipQ, q_seqr, q_lenr, q_ixr, q_seql, q_seqt, q_rvd, q_rvn, q_catn, q_ixl, q_ixt, q_sl, q_sll, q_slt, q_slr, nSlL, oNone, oSome, nLc, wipeD, q_dropc, q_dropxd, q_dropxb, q_dropxo, q_dropxn, q_drope, dYes, dCnt, q_revl, q_revt, q_revr, nListRg, dTupRg, exInts, exOpt, q_addr1, q_addrr, q_ixk0, q_ixk1, exRow, exTk, cntL, cntQ_some, cntQ_none, List.getElem?_cons_zero, List.getElem?_cons_succ, List.getElem?_nil, Option.some.injEq, SV.dat.injEq, SV.own.injEq, PyData.int.injEq, PyData.bool.injEq, PyData.tuple.injEq, PyData.list.injEq, PyData.str.injEq, RVd.new.injEq, RVd.dat.injEq, exists_eq_left, exists_eq_left', exists_eq_right, List.cons.injEq, List.set_cons_zero, List.set_cons_succ, reduceCtorEq, and_true, true_and, false_and, and_false, not_true_eq_false, not_false_eq_true, if_true, if_false, ite_true, ite_false, decide_eq_true_eq, Bool.not_eq_true', decide_eq_false_iff_not, Bool.and_true, Bool.true_and, Bool.and_false, Bool.false_and, Bool.not_true, Bool.not_false, Bool.false_eq_true, List.map_cons, List.map_nil, List.length_cons, List.length_nil, Nat.zero_add, Nat.reduceAdd, Nat.reduceLeDiff, startd, List.replicate_succ, List.replicate_zero, List.nil_append, List.cons_append, Nat.reduceSub, exists_const, and_self, shp_int, shp_none, shp_bool, eqv_int, dForL_nil, lcL_nil] at h ⊢
        exact h
    | _ =>
      simp only [isTupB, rowB, dSeq, dAsgG, dAsgN, dRet, dRetN, dRetO, dRet0, dDrop, dIfS, dNext, dApp, dInsert, q_setI, q_setQ, q_take, dFor, dFreeze, dNever, q_par, q_parQ, q_par3, q_parQ3, dParNE, dParDE, gdName, q_gnil, q_gcons, q_gtup, dVar, dOwn, dC, d1, d2, n2, nCons, nNil, nLst, dTup, dFr, dTest, dAnd, dOr, dNot, dAndV, dOrV, dNotV, dIf, dChain, dCB, nCB, dCall, nCall, aDat, aBag, aNil, q_neg, q_add, q_addl, q_addt, q_sub, q_mul, q_mull, q_mult, q_fdiv, q_mod, q_pow, q_lt, q_le, q_gt, q_ge, eqD, neD, isD, isntD, q_isnn, q_isni, q_isnb, q_isnt, q_isnl, q_lenl, q_lent, q_inti, q_intb, q_max2, q_min2, q_listl, q_listt, q_tuplel, q_tuplet, q_sum, q_min, q_max, allD, itSeq, itR1, q_itR2, q_rng2, q_en, q_en1, q_zip, q_zipQ, q_seqr, q_lenr, q_ixr, q_seql, q_seqt, q_rvd, q_rvn, q_catn, q_ixl, q_ixt, q_sl, q_sll, q_slt, q_slr, nSlL, oNone, oSome, nLc, wipeD, q_dropc, q_dropxd, q_dropxb, q_dropxo, q_dropxn, q_drope, dYes, dCnt, q_revl, q_revt, q_revr, nListRg, dTupRg, exInts, exOpt, q_addr1, q_addrr, q_ixk0, q_ixk1, exRow, exTk, cntL, cntQ_some, cntQ_none, List.getElem?_cons_zero, List.getElem?_cons_succ, List.getElem?_nil, Option.some.injEq, SV.dat.injEq, SV.own.injEq, PyData.int.injEq, PyData.bool.injEq, PyData.tuple.injEq, PyData.list.injEq, PyData.str.injEq, RVd.new.injEq, RVd.dat.injEq, exists_eq_left, exists_eq_left', exists_eq_right, List.cons.injEq, List.set_cons_zero, List.set_cons_succ, reduceCtorEq, and_true, true_and, false_and, and_false, not_true_eq_false, not_false_eq_true, if_true, if_false, ite_true, ite_false, decide_eq_true_eq, Bool.not_eq_true', decide_eq_false_iff_not, Bool.and_true, Bool.true_and, Bool.and_false, Bool.false_and, Bool.not_true, Bool.not_false, Bool.false_eq_true, List.map_cons, List.map_nil, List.length_cons, List.length_nil, Nat.zero_add, Nat.reduceAdd, Nat.reduceLeDiff, startd, List.replicate_succ, List.replicate_zero, List.nil_append, List.cons_append, Nat.reduceSub, exists_const, and_self, shp_int, shp_none, shp_bool, eqv_int, dForL_nil, lcL_nil] at h ⊢
      exact h
  · exact h.elim
theorem len_is_row (svs : List SV) (R : RVd → Prop) (h : sp_is_row svs R) : svs.length = 1 := by
  unfold sp_is_row at h
  split at h
  · rfl
  · exact h.elim
/-! ### need_row, need_number (where nothing is refused) -/
def sp_need_row : DSp
  | [.dat d], R => rowB d = true ∧ R (.dat .none)
  | _, _ => False
/-- need_row: 0 row -/
abbrev b_need_row : DS := (dIfS (dNot (dTest (dCall sp_is_row (aDat (dVar 0) aNil)))) dNever dNext)
theorem rd_need_row (svs : List SV) (R : RVd → Prop) (h : sp_need_row svs R) : b_need_row { nx := fun _ => R (.dat .none), rt := R } (startd 1 svs) := by
  unfold sp_need_row at h
  split at h
  · simp only [b_need_row, sp_is_row, h.1, dSeq, dAsgG, dAsgN, dRet, dRetN, dRetO, dRet0, dDrop, dIfS, dNext, dApp, dInsert, q_setI, q_setQ, q_take, dFor, dFreeze, dNever, q_par, q_parQ, q_par3, q_parQ3, dParNE, dParDE, gdName, q_gnil, q_gcons, q_gtup, dVar, dOwn, dC, d1, d2, n2, nCons, nNil, nLst, dTup, dFr, dTest, dAnd, dOr, dNot, dAndV, dOrV, dNotV, dIf, dChain, dCB, nCB, dCall, nCall, aDat, aBag, aNil, q_neg, q_add, q_addl, q_addt, q_sub, q_mul, q_mull, q_mult, q_fdiv, q_mod, q_pow, q_lt, q_le, q_gt, q_ge, eqD, neD, isD, isntD, q_isnn, q_isni, q_isnb, q_isnt, q_isnl, q_lenl, q_lent, q_inti, q_intb, q_max2, q_min2, q_listl, q_listt, q_tuplel, q_tuplet, q_sum, q_min, q_max, allD, itSeq, itR1, q_itR2, q_rng2, q_en, q_en1, q_zip, q_zipQ, q_seqr, q_lenr, q_ixr, q_seql, q_seqt, q_rvd, q_rvn, q_catn, q_ixl, q_ixt, q_sl, q_sll, q_slt, q_slr, nSlL, oNone, oSome, nLc, wipeD, q_dropc, q_dropxd, q_dropxb, q_dropxo, q_dropxn, q_drope, dYes, dCnt, q_revl, q_revt, q_revr, nListRg, dTupRg, exInts, exOpt, q_addr1, q_addrr, q_ixk0, q_ixk1, exRow, exTk, cntL, cntQ_some, cntQ_none, List.getElem?_cons_zero, List.getElem?_cons_succ, List.getElem?_nil, Option.some.injEq, SV.dat.injEq, SV.own.injEq, PyData.int.injEq, PyData.bool.injEq, PyData.tuple.injEq, PyData.list.injEq, PyData.str.injEq, RVd.new.injEq, RVd.dat.injEq, exists_eq_left, exists_eq_left', exists_eq_right, List.cons.injEq, List.set_cons_zero, List.set_cons_succ, reduceCtorEq, and_true, true_and, false_and, and_false, not_true_eq_false, not_false_eq_true, if_true, if_false, ite_true, ite_false, decide_eq_true_eq, Bool.not_eq_true', decide_eq_false_iff_not, Bool.and_true, Bool.true_and, Bool.and_false, Bool.false_and, Bool.not_true, Bool.not_false, Bool.false_eq_true, List.map_cons, List.map_nil, List.length_cons, List.length_nil, Nat.zero_add, Nat.reduceAdd, Nat.reduceLeDiff, startd, List.replicate_succ, List.replicate_zero, List.nil_append, List.cons_append, Nat.reduceSub, exists_const, and_self, shp_int, shp_none, shp_bool, eqv_int, dForL_nil, lcL_nil]
    exact h.2
  · exact h.elim
theorem len_need_row (svs : List SV) (R : RVd → Prop) (h : sp_need_row svs R) : svs.length = 1 := by
  unfold sp_need_row at h
  split at h
  · rfl
  · exact h.elim
def sp_need_number : DSp
  | [.dat d, .dat (.int lo), .dat (.int hi)], R => withinB d lo hi = true ∧ R (.dat .none)
  | _, _ => False
/-- need_number: 0 number, 1 low, 2 high -/
abbrev b_need_number : DS := (dIfS (dNot (dTest (dCall sp_is_within (aDat (dVar 0) (aDat (dVar 1) (aDat (dVar 2) aNil)))))) dNever dNext)
theorem rd_need_number (svs : List SV) (R : RVd → Prop) (h : sp_need_number svs R) : b_need_number { nx := fun _ => R (.dat .none), rt := R } (startd 3 svs) := by
  unfold sp_need_number at h
  split at h
  · simp only [b_need_number, sp_is_within, h.1, dSeq, dAsgG, dAsgN, dRet, dRetN, dRetO, dRet0, dDrop, dIfS, dNext, dApp, dInsert, q_setI, q_setQ, q_take, dFor, dFreeze, dNever, q_par, q_parQ, q_par3, q_parQ3, dParNE, dParDE, gdName, q_gnil, q_gcons, q_gtup, dVar, dOwn, dC, d1, d2, n2, nCons, nNil, nLst, dTup, dFr, dTest, dAnd, dOr, dNot, dAndV, dOrV, dNotV, dIf, dChain, dCB, nCB, dCall, nCall, aDat, aBag, aNil, q_neg, q_add, q_addl, q_addt, q_sub, q_mul, q_mull, q_mult, q_fdiv, q_mod, q_pow, q_lt, q_le, q_gt, q_ge, eqD, neD, isD, isntD, q_isnn, q_isni, q_isnb, q_isnt, q_isnl, q_lenl, q_lent, q_inti, q_intb, q_max2, q_min2, q_listl, q_listt, q_tuplel, q_tuplet, q_sum, q_min, q_max, allD, itSeq, itR1, q_itR2, q_rng2, q_en, q_en1, q_zip, q_zipQ, q_seqr, q_lenr, q_ixr, q_seql, q_seqt, q_rvd, q_rvn, q_catn, q_ixl, q_ixt, q_sl, q_sll, q_slt, q_slr, nSlL, oNone, oSome, nLc, wipeD, q_dropc, q_dropxd, q_dropxb, q_dropxo, q_dropxn, q_drope, dYes, dCnt, q_revl, q_revt, q_revr, nListRg, dTupRg, exInts, exOpt, q_addr1, q_addrr, q_ixk0, q_ixk1, exRow, exTk, cntL, cntQ_some, cntQ_none, List.getElem?_cons_zero, List.getElem?_cons_succ, List.getElem?_nil, Option.some.injEq, SV.dat.injEq, SV.own.injEq, PyData.int.injEq, PyData.bool.injEq, PyData.tuple.injEq, PyData.list.injEq, PyData.str.injEq, RVd.new.injEq, RVd.dat.injEq, exists_eq_left, exists_eq_left', exists_eq_right, List.cons.injEq, List.set_cons_zero, List.set_cons_succ, reduceCtorEq, and_true, true_and, false_and, and_false, not_true_eq_false, not_false_eq_true, if_true, if_false, ite_true, ite_false, decide_eq_true_eq, Bool.not_eq_true', decide_eq_false_iff_not, Bool.and_true, Bool.true_and, Bool.and_false, Bool.false_and, Bool.not_true, Bool.not_false, Bool.false_eq_true, List.map_cons, List.map_nil, List.length_cons, List.length_nil, Nat.zero_add, Nat.reduceAdd, Nat.reduceLeDiff, startd, List.replicate_succ, List.replicate_zero, List.nil_append, List.cons_append, Nat.reduceSub, exists_const, and_self, shp_int, shp_none, shp_bool, eqv_int, dForL_nil, lcL_nil]
    exact h.2
  · exact h.elim
theorem len_need_number (svs : List SV) (R : RVd → Prop) (h : sp_need_number svs R) : svs.length = 3 := by
  unfold sp_need_number at h
  split at h
  · rfl
  · exact h.elim
/-! ### rows -/
def TkOk (t : Int × Int) : Prop := 2 ≤ t.1 ∧ t.1 ≤ 1000 ∧ 0 ≤ t.2 ∧ t.2 < t.1
def RowOk (rs : List (Int × Int)) : Prop := rs.length ≤ 8 ∧ ∀ t ∈ rs, TkOk t
theorem takerB_ok {t : Int × Int} (h : TkOk t) : takerB (tkD t) = true := by
  obtain ⟨e, c⟩ := t
  obtain ⟨h1, h2, h3, h4⟩ := h
  simp only [tkD, takerB, withinB, Bool.and_eq_true, decide_eq_true_eq]
  dsimp only at h1 h2 h3 h4
  omega
theorem rowB_ok {rs : List (Int × Int)} (h : RowOk rs) : rowB (rowD rs) = true := by
  simp only [rowD, rowB, List.length_map, Bool.and_eq_true, decide_eq_true_eq, List.all_eq_true]
  refine ⟨h.1, fun d hd => ?_⟩
  obtain ⟨t, ht, rfl⟩ := List.mem_map.mp hd
  exact takerB_ok (h.2 t ht)
theorem within_ok {i lo hi : Int} (h1 : lo ≤ i) (h2 : i ≤ hi) : withinB (.int i) lo hi = true := by simp only [withinB, h1, h2, decide_true, Bool.and_self]
/-! ### who -/
def whoG : Int → List (Int × Int) → Int → Option Int
  | _, [], _ => none
  | k, (e, c) :: rs, p => if (p + c) % e = 0 then some k else whoG (k + 1) rs (p - (p + c) / e)
/-! ### counts, taken -/
def countsG : List (Int × Int) → Int → List Int
  | [], n => [n]
  | (e, c) :: rs, n => (n + c) / e :: countsG rs (n - (n + c) / e)
def sp_counts : DSp
  | [.dat d, .dat (.int n)], R => ∃ rs, d = rowD rs ∧ RowOk rs ∧ R (.new ((countsG rs n).map .int))
  | _, _ => False
/-- counts: 0 row, 1 number, 2 found, 3 every, 4 counted, 5 some -/
abbrev b_counts : DS := (dSeq (dAsgN (nLst nNil) 2)
  (dSeq (dFor (itSeq (dVar 0)) (gdTup 2 (gdCons (gdName 3) (gdCons (gdName 4) gdNil)))
  (dSeq (dAsgG (d2 fdivD (d2 addD (dVar 1) (dVar 4)) (dVar 3)) (gdName 5))
  (dSeq (dApp 2 (dVar 5))
  (dAsgG (d2 subD (dVar 1) (dVar 5)) (gdName 1)))))
  (dRetN (n2 catN (dOwn 2) (dFr (nLst (nCons (dVar 1) nNil)))))))
theorem counts_loop {D : DEnds} {x0 : Option SV} {g : DG} {tb : DS} (hg : g = gdTup 2 (gdCons (gdName 3) (gdCons (gdName 4) gdNil)))
    (htb : tb = (dSeq (dAsgG (d2 fdivD (d2 addD (dVar 1) (dVar 4)) (dVar 3)) (gdName 5)) (dSeq (dApp 2 (dVar 5)) (dAsgG (d2 subD (dVar 1) (dVar 5)) (gdName 1))))) :
    ∀ (rs : List (Int × Int)) (n : Int) (acc : List Int) (x3 x4 x5 : Option SV), (∀ t ∈ rs, TkOk t) → rs.length + acc.length ≤ 1000 →
      (∀ (m : Int) (acc' : List Int) (x3 x4 x5 : Option SV), acc' ++ [m] = acc ++ countsG rs n → acc'.length ≤ 1000 → D.nx [x0, some (.dat (.int m)), some (.own (acc'.map .int)), x3, x4, x5]) →
      dForL g tb (rs.map tkD) D [x0, some (.dat (.int n)), some (.own (acc.map .int)), x3, x4, x5]
  | [], n, acc, x3, x4, x5, _, hl, h => h n acc _ _ _ rfl (by simpa using hl)
  | (e, c) :: rs, n, acc, x3, x4, x5, ht, hl, h => by
    obtain ⟨t1, t2, t3, t4⟩ := ht (e, c) List.mem_cons_self
    dsimp only at t1 t2 t3 t4
    rw [List.map_cons, dForL_cons, hg, htb]
    have he : 0 < e := by omega
    have he2 : e.natAbs < 2 ^ 1000 := by omega
    rw [List.length_cons] at hl
    have hl2 : acc.length < 1000000 := by omega
    simp only [tkD, he, he2, List.length_map, hl2, dSeq, dAsgG, dAsgN, dRet, dRetN, dRetO, dRet0, dDrop, dIfS, dNext, dApp, dInsert, q_setI, q_setQ, q_take, dFor, dFreeze, dNever, q_par, q_parQ, q_par3, q_parQ3, dParNE, dParDE, gdName, q_gnil, q_gcons, q_gtup, dVar, dOwn, dC, d1, d2, n2, nCons, nNil, nLst, dTup, dFr, dTest, dAnd, dOr, dNot, dAndV, dOrV, dNotV, dIf, dChain, dCB, nCB, dCall, nCall, aDat, aBag, aNil, q_neg, q_add, q_addl, q_addt, q_sub, q_mul, q_mull, q_mult, q_fdiv, q_mod, q_pow, q_lt, q_le, q_gt, q_ge, eqD, neD, isD, isntD, q_isnn, q_isni, q_isnb, q_isnt, q_isnl, q_lenl, q_lent, q_inti, q_intb, q_max2, q_min2, q_listl, q_listt, q_tuplel, q_tuplet, q_sum, q_min, q_max, allD, itSeq, itR1, q_itR2, q_rng2, q_en, q_en1, q_zip, q_zipQ, q_seqr, q_lenr, q_ixr, q_seql, q_seqt, q_rvd, q_rvn, q_catn, q_ixl, q_ixt, q_sl, q_sll, q_slt, q_slr, nSlL, oNone, oSome, nLc, wipeD, q_dropc, q_dropxd, q_dropxb, q_dropxo, q_dropxn, q_drope, dYes, dCnt, q_revl, q_revt, q_revr, nListRg, dTupRg, exInts, exOpt, q_addr1, q_addrr, q_ixk0, q_ixk1, exRow, exTk, cntL, cntQ_some, cntQ_none, List.getElem?_cons_zero, List.getElem?_cons_succ, List.getElem?_nil, Option.some.injEq, SV.dat.injEq, SV.own.injEq, PyData.int.injEq, PyData.bool.injEq, PyData.tuple.injEq, PyData.list.injEq, PyData.str.injEq, RVd.new.injEq, RVd.dat.injEq, exists_eq_left, exists_eq_left', exists_eq_right, List.cons.injEq, List.set_cons_zero, List.set_cons_succ, reduceCtorEq, and_true, true_and, false_and, and_false, not_true_eq_false, not_false_eq_true, if_true, if_false, ite_true, ite_false, decide_eq_true_eq, Bool.not_eq_true', decide_eq_false_iff_not, Bool.and_true, Bool.true_and, Bool.and_false, Bool.false_and, Bool.not_true, Bool.not_false, Bool.false_eq_true, List.map_cons, List.map_nil, List.length_cons, List.length_nil, Nat.zero_add, Nat.reduceAdd, Nat.reduceLeDiff, startd, List.replicate_succ, List.replicate_zero, List.nil_append, List.cons_append, Nat.reduceSub, exists_const, and_self, shp_int, shp_none, shp_bool, eqv_int, dForL_nil, lcL_nil]
    have ea : acc.map PyData.int ++ [.int ((n + c) / e)] = (acc ++ [(n + c) / e]).map PyData.int := by simp
    rw [ea]
    refine counts_loop rfl rfl rs _ _ _ _ _ (fun t h => ht t (List.mem_cons_of_mem _ h)) (by simp only [List.length_append, List.length_cons, List.length_nil]; omega) fun m acc' y3 y4 y5 e1 e2 => h m acc' y3 y4 y5 ?_ e2
    rw [e1]
    simp only [countsG, List.append_assoc, List.cons_append, List.nil_append]
theorem rd_counts (svs : List SV) (R : RVd → Prop) (h : sp_counts svs R) : b_counts { nx := fun _ => R (.dat .none), rt := R } (startd 6 svs) := by
  unfold sp_counts at h
  split at h
  · obtain ⟨rs, rfl, ok, h⟩ := h
    simp only [b_counts, rowD, dSeq, dAsgG, dAsgN, dRet, dRetN, dRetO, dRet0, dDrop, dIfS, dNext, dApp, dInsert, q_setI, q_setQ, q_take, dFor, dFreeze, dNever, q_par, q_parQ, q_par3, q_parQ3, dParNE, dParDE, gdName, q_gnil, q_gcons, q_gtup, dVar, dOwn, dC, d1, d2, n2, nCons, nNil, nLst, dTup, dFr, dTest, dAnd, dOr, dNot, dAndV, dOrV, dNotV, dIf, dChain, dCB, nCB, dCall, nCall, aDat, aBag, aNil, q_neg, q_add, q_addl, q_addt, q_sub, q_mul, q_mull, q_mult, q_fdiv, q_mod, q_pow, q_lt, q_le, q_gt, q_ge, eqD, neD, isD, isntD, q_isnn, q_isni, q_isnb, q_isnt, q_isnl, q_lenl, q_lent, q_inti, q_intb, q_max2, q_min2, q_listl, q_listt, q_tuplel, q_tuplet, q_sum, q_min, q_max, allD, itSeq, itR1, q_itR2, q_rng2, q_en, q_en1, q_zip, q_zipQ, q_seqr, q_lenr, q_ixr, q_seql, q_seqt, q_rvd, q_rvn, q_catn, q_ixl, q_ixt, q_sl, q_sll, q_slt, q_slr, nSlL, oNone, oSome, nLc, wipeD, q_dropc, q_dropxd, q_dropxb, q_dropxo, q_dropxn, q_drope, dYes, dCnt, q_revl, q_revt, q_revr, nListRg, dTupRg, exInts, exOpt, q_addr1, q_addrr, q_ixk0, q_ixk1, exRow, exTk, cntL, cntQ_some, cntQ_none, List.getElem?_cons_zero, List.getElem?_cons_succ, List.getElem?_nil, Option.some.injEq, SV.dat.injEq, SV.own.injEq, PyData.int.injEq, PyData.bool.injEq, PyData.tuple.injEq, PyData.list.injEq, PyData.str.injEq, RVd.new.injEq, RVd.dat.injEq, exists_eq_left, exists_eq_left', exists_eq_right, List.cons.injEq, List.set_cons_zero, List.set_cons_succ, reduceCtorEq, and_true, true_and, false_and, and_false, not_true_eq_false, not_false_eq_true, if_true, if_false, ite_true, ite_false, decide_eq_true_eq, Bool.not_eq_true', decide_eq_false_iff_not, Bool.and_true, Bool.true_and, Bool.and_false, Bool.false_and, Bool.not_true, Bool.not_false, Bool.false_eq_true, List.map_cons, List.map_nil, List.length_cons, List.length_nil, Nat.zero_add, Nat.reduceAdd, Nat.reduceLeDiff, startd, List.replicate_succ, List.replicate_zero, List.nil_append, List.cons_append, Nat.reduceSub, exists_const, and_self, shp_int, shp_none, shp_bool, eqv_int, dForL_nil, lcL_nil]
    refine counts_loop rfl rfl rs _ [] _ _ _ ok.2 (by have := ok.1; simp; omega) fun m acc' x3 x4 x5 e1 e2 => ?_
    simp only [dSeq, dAsgG, dAsgN, dRet, dRetN, dRetO, dRet0, dDrop, dIfS, dNext, dApp, dInsert, q_setI, q_setQ, q_take, dFor, dFreeze, dNever, q_par, q_parQ, q_par3, q_parQ3, dParNE, dParDE, gdName, q_gnil, q_gcons, q_gtup, dVar, dOwn, dC, d1, d2, n2, nCons, nNil, nLst, dTup, dFr, dTest, dAnd, dOr, dNot, dAndV, dOrV, dNotV, dIf, dChain, dCB, nCB, dCall, nCall, aDat, aBag, aNil, q_neg, q_add, q_addl, q_addt, q_sub, q_mul, q_mull, q_mult, q_fdiv, q_mod, q_pow, q_lt, q_le, q_gt, q_ge, eqD, neD, isD, isntD, q_isnn, q_isni, q_isnb, q_isnt, q_isnl, q_lenl, q_lent, q_inti, q_intb, q_max2, q_min2, q_listl, q_listt, q_tuplel, q_tuplet, q_sum, q_min, q_max, allD, itSeq, itR1, q_itR2, q_rng2, q_en, q_en1, q_zip, q_zipQ, q_seqr, q_lenr, q_ixr, q_seql, q_seqt, q_rvd, q_rvn, q_catn, q_ixl, q_ixt, q_sl, q_sll, q_slt, q_slr, nSlL, oNone, oSome, nLc, wipeD, q_dropc, q_dropxd, q_dropxb, q_dropxo, q_dropxn, q_drope, dYes, dCnt, q_revl, q_revt, q_revr, nListRg, dTupRg, exInts, exOpt, q_addr1, q_addrr, q_ixk0, q_ixk1, exRow, exTk, cntL, cntQ_some, cntQ_none, List.getElem?_cons_zero, List.getElem?_cons_succ, List.getElem?_nil, Option.some.injEq, SV.dat.injEq, SV.own.injEq, PyData.int.injEq, PyData.bool.injEq, PyData.tuple.injEq, PyData.list.injEq, PyData.str.injEq, RVd.new.injEq, RVd.dat.injEq, exists_eq_left, exists_eq_left', exists_eq_right, List.cons.injEq, List.set_cons_zero, List.set_cons_succ, reduceCtorEq, and_true, true_and, false_and, and_false, not_true_eq_false, not_false_eq_true, if_true, if_false, ite_true, ite_false, decide_eq_true_eq, Bool.not_eq_true', decide_eq_false_iff_not, Bool.and_true, Bool.true_and, Bool.and_false, Bool.false_and, Bool.not_true, Bool.not_false, Bool.false_eq_true, List.map_cons, List.map_nil, List.length_cons, List.length_nil, Nat.zero_add, Nat.reduceAdd, Nat.reduceLeDiff, startd, List.replicate_succ, List.replicate_zero, List.nil_append, List.cons_append, Nat.reduceSub, exists_const, and_self, shp_int, shp_none, shp_bool, eqv_int, dForL_nil, lcL_nil]
    have e3 : acc'.map PyData.int ++ [.int m] = (acc' ++ [m]).map PyData.int := by simp
    rw [e3, e1]
    refine ⟨?_, h⟩
    rw [List.length_map]
    omega
  · exact h.elim
theorem len_counts (svs : List SV) (R : RVd → Prop) (h : sp_counts svs R) : svs.length = 2 := by
  unfold sp_counts at h
  split at h
  · rfl
  · exact h.elim
def sp_taken : DSp
  | [.dat d, .dat (.int n)], R => ∃ rs, d = rowD rs ∧ RowOk rs ∧ 0 ≤ n ∧ n ≤ 1000000000000000000 ∧ R (.new ((countsG rs n).map .int))
  | _, _ => False
/-- taken: 0 row, 1 number -/
abbrev b_taken : DS := (dSeq (dDrop (dCall sp_need_row (aDat (dVar 0) aNil)))
  (dSeq (dDrop (dCall sp_need_number (aDat (dVar 1) (aDat (dC (.int 0)) (aDat (dC (.int 1000000000000000000)) aNil)))))
  (dRetN (nCall sp_counts (aDat (dVar 0) (aDat (dVar 1) aNil))))))
theorem rd_taken (svs : List SV) (R : RVd → Prop) (h : sp_taken svs R) : b_taken { nx := fun _ => R (.dat .none), rt := R } (startd 2 svs) := by
  unfold sp_taken at h
  split at h
  · obtain ⟨rs, rfl, ok, h1, h2, h⟩ := h
    simp only [b_taken, sp_need_row, sp_need_number, sp_counts, rowB_ok ok, within_ok h1 h2, dSeq, dAsgG, dAsgN, dRet, dRetN, dRetO, dRet0, dDrop, dIfS, dNext, dApp, dInsert, q_setI, q_setQ, q_take, dFor, dFreeze, dNever, q_par, q_parQ, q_par3, q_parQ3, dParNE, dParDE, gdName, q_gnil, q_gcons, q_gtup, dVar, dOwn, dC, d1, d2, n2, nCons, nNil, nLst, dTup, dFr, dTest, dAnd, dOr, dNot, dAndV, dOrV, dNotV, dIf, dChain, dCB, nCB, dCall, nCall, aDat, aBag, aNil, q_neg, q_add, q_addl, q_addt, q_sub, q_mul, q_mull, q_mult, q_fdiv, q_mod, q_pow, q_lt, q_le, q_gt, q_ge, eqD, neD, isD, isntD, q_isnn, q_isni, q_isnb, q_isnt, q_isnl, q_lenl, q_lent, q_inti, q_intb, q_max2, q_min2, q_listl, q_listt, q_tuplel, q_tuplet, q_sum, q_min, q_max, allD, itSeq, itR1, q_itR2, q_rng2, q_en, q_en1, q_zip, q_zipQ, q_seqr, q_lenr, q_ixr, q_seql, q_seqt, q_rvd, q_rvn, q_catn, q_ixl, q_ixt, q_sl, q_sll, q_slt, q_slr, nSlL, oNone, oSome, nLc, wipeD, q_dropc, q_dropxd, q_dropxb, q_dropxo, q_dropxn, q_drope, dYes, dCnt, q_revl, q_revt, q_revr, nListRg, dTupRg, exInts, exOpt, q_addr1, q_addrr, q_ixk0, q_ixk1, exRow, exTk, cntL, cntQ_some, cntQ_none, List.getElem?_cons_zero, List.getElem?_cons_succ, List.getElem?_nil, Option.some.injEq, SV.dat.injEq, SV.own.injEq, PyData.int.injEq, PyData.bool.injEq, PyData.tuple.injEq, PyData.list.injEq, PyData.str.injEq, RVd.new.injEq, RVd.dat.injEq, exists_eq_left, exists_eq_left', exists_eq_right, List.cons.injEq, List.set_cons_zero, List.set_cons_succ, reduceCtorEq, and_true, true_and, false_and, and_false, not_true_eq_false, not_false_eq_true, if_true, if_false, ite_true, ite_false, decide_eq_true_eq, Bool.not_eq_true', decide_eq_false_iff_not, Bool.and_true, Bool.true_and, Bool.and_false, Bool.false_and, Bool.not_true, Bool.not_false, Bool.false_eq_true, List.map_cons, List.map_nil, List.length_cons, List.length_nil, Nat.zero_add, Nat.reduceAdd, Nat.reduceLeDiff, startd, List.replicate_succ, List.replicate_zero, List.nil_append, List.cons_append, Nat.reduceSub, exists_const, and_self, shp_int, shp_none, shp_bool, eqv_int, dForL_nil, lcL_nil]
    exact ⟨ok, h⟩
  · exact h.elim
theorem len_taken (svs : List SV) (R : RVd → Prop) (h : sp_taken svs R) : svs.length = 2 := by
  unfold sp_taken at h
  split at h
  · rfl
  · exact h.elim
end Pd

set_option maxRecDepth 100000
set_option maxHeartbeats 4000000
/-! The laws' own helpers: draws, takers, rows, pieces one by one, numbers. -/
namespace Pd
open PySem L2
open Evl (Ex)
abbrev sp_law_take : DSp := spTake
abbrev sp_law_draws : DSp := spDraws
/-! ### draws -/
/-- _law_draws: 0 cell, 1 many, 2 size, 3 found, 4 rest, 5 stirred, 6 k -/
abbrev b_law_draws : DS := (dSeq (dAsgN (nLst nNil) 3)
  (dSeq (dAsgG (d2 mulD (dVar 0) (dCB intD (nCons (d2 geD (dVar 0) (d2 powD (dC (.int 10)) (dC (.int 18)))) nNil))) (gdName 4))
  (dSeq (dAsgG (d2 modD (dVar 0) (dC (.int 2305843009213693951))) (gdName 5))
  (dSeq (dFor (itR1 (nCons (d2 addD (dVar 1) (dC (.int 3))) nNil)) (gdName 6)
  (dSeq (dAsgG (d2 modD (d2 addD (d2 addD (d2 addD (d2 mulD (dVar 5) (dVar 5)) (d2 mulD (dC (.int 48271)) (dVar 5))) (dVar 6)) (dC (.int 1))) (dC (.int 2305843009213693951))) (gdName 5))
  (dIfS (dAnd (dTest (d2 gtD (dVar 6) (dC (.int 2)))) (dTest (d2 gtD (dVar 4) (dC (.int 0))))) (dSeq (dApp 3 (d2 modD (dVar 4) (dVar 2)))
  (dAsgG (d2 fdivD (dVar 4) (dVar 2)) (gdName 4))) (dIfS (dTest (d2 gtD (dVar 6) (dC (.int 2)))) (dApp 3 (d2 modD (d2 fdivD (dVar 5) (dC (.int 4096))) (dVar 2))) dNext))))
  (dRetO 3)))))
theorem draws_loop {D : DEnds} {x0 x1 : Option SV} {g : DG} {tb : DS} (hg : g = gdName 6)
    (htb : tb = (dSeq (dAsgG (d2 modD (d2 addD (d2 addD (d2 addD (d2 mulD (dVar 5) (dVar 5)) (d2 mulD (dC (.int 48271)) (dVar 5))) (dVar 6)) (dC (.int 1))) (dC (.int 2305843009213693951))) (gdName 5))
  (dIfS (dAnd (dTest (d2 gtD (dVar 6) (dC (.int 2)))) (dTest (d2 gtD (dVar 4) (dC (.int 0))))) (dSeq (dApp 3 (d2 modD (dVar 4) (dVar 2)))
  (dAsgG (d2 fdivD (dVar 4) (dVar 2)) (gdName 4))) (dIfS (dTest (d2 gtD (dVar 6) (dC (.int 2)))) (dApp 3 (d2 modD (d2 fdivD (dVar 5) (dC (.int 4096))) (dVar 2))) dNext)))) :
    ∀ (m k : Nat) (acc : List Int) (rest st : Int) (x6 : Option SV), 0 ≤ st → st < 2305843009213693951 → (∀ x ∈ acc, 0 ≤ x ∧ x < 1000) → acc.length = k - 3 → k ≤ 1000 →
      (∀ (acc' : List Int) (rest st : Int) (x6 : Option SV), (∀ x ∈ acc', 0 ≤ x ∧ x < 1000) → acc'.length = k + m - 3 → D.nx [x0, x1, some (.dat (.int 1000)), some (.own (acc'.map .int)), some (.dat (.int rest)), some (.dat (.int st)), x6]) → m + k ≤ 1000 →
      dForL g tb ((List.range' k m).map fun i => .int ((0 : Int) + (i : Nat))) D [x0, x1, some (.dat (.int 1000)), some (.own (acc.map .int)), some (.dat (.int rest)), some (.dat (.int st)), x6]
  | 0, k, acc, rest, st, x6, _, _, ha, hl, _, h, _ => h acc rest st x6 ha (by simpa using hl)
  | m + 1, k, acc, rest, st, x6, s0, s1, ha, hl, hk, h, hm => by
    rw [List.range'_succ, List.map_cons, dForL_cons, hg, htb]
    have m1 : mulOk st st := .inl ⟨by omega, by omega⟩
    have m2 : mulOk 48271 st := .inl ⟨by decide, by omega⟩
    have l1 : acc.length < 1000000 := by omega
    simp only [m1, m2, List.length_map, l1, show (0 : Int) < 2305843009213693951 by decide, show (0 : Int) < 1000 by decide, show (0 : Int) < 4096 by decide, show (1000 : Int).natAbs < 2 ^ 1000 by decide, show (4096 : Int).natAbs < 2 ^ 1000 by decide, dSeq, dAsgG, dAsgN, dRet, dRetN, dRetO, dRet0, dDrop, dIfS, dNext, dApp, dInsert, q_setI, q_setQ, q_take, dFor, dFreeze, dNever, q_par, q_parQ, q_par3, q_parQ3, dParNE, dParDE, gdName, q_gnil, q_gcons, q_gtup, dVar, dOwn, dC, d1, d2, n2, nCons, nNil, nLst, dTup, dFr, dTest, dAnd, dOr, dNot, dAndV, dOrV, dNotV, dIf, dChain, dCB, nCB, dCall, nCall, aDat, aBag, aNil, q_neg, q_add, q_addl, q_addt, q_sub, q_mul, q_mull, q_mult, q_fdiv, q_mod, q_pow, q_lt, q_le, q_gt, q_ge, eqD, neD, isD, isntD, q_isnn, q_isni, q_isnb, q_isnt, q_isnl, q_lenl, q_lent, q_inti, q_intb, q_max2, q_min2, q_listl, q_listt, q_tuplel, q_tuplet, q_sum, q_min, q_max, allD, itSeq, itR1, q_itR2, q_rng2, q_en, q_en1, q_zip, q_zipQ, q_seqr, q_lenr, q_ixr, q_seql, q_seqt, q_rvd, q_rvn, q_catn, q_ixl, q_ixt, q_sl, q_sll, q_slt, q_slr, nSlL, oNone, oSome, nLc, wipeD, q_dropc, q_dropxd, q_dropxb, q_dropxo, q_dropxn, q_drope, dYes, dCnt, q_revl, q_revt, q_revr, nListRg, dTupRg, exInts, exOpt, q_addr1, q_addrr, q_ixk0, q_ixk1, exRow, exTk, cntL, cntQ_some, cntQ_none, List.getElem?_cons_zero, List.getElem?_cons_succ, List.getElem?_nil, Option.some.injEq, SV.dat.injEq, SV.own.injEq, PyData.int.injEq, PyData.bool.injEq, PyData.tuple.injEq, PyData.list.injEq, PyData.str.injEq, RVd.new.injEq, RVd.dat.injEq, exists_eq_left, exists_eq_left', exists_eq_right, List.cons.injEq, List.set_cons_zero, List.set_cons_succ, reduceCtorEq, and_true, true_and, false_and, and_false, not_true_eq_false, not_false_eq_true, if_true, if_false, ite_true, ite_false, decide_eq_true_eq, Bool.not_eq_true', decide_eq_false_iff_not, Bool.and_true, Bool.true_and, Bool.and_false, Bool.false_and, Bool.not_true, Bool.not_false, Bool.false_eq_true, List.map_cons, List.map_nil, List.length_cons, List.length_nil, Nat.zero_add, Nat.reduceAdd, Nat.reduceLeDiff, startd, List.replicate_succ, List.replicate_zero, List.nil_append, List.cons_append, Nat.reduceSub, exists_const, and_self, shp_int, shp_none, shp_bool, eqv_int, dForL_nil, lcL_nil]
    generalize hst : (st * st + 48271 * st + ((0 : Int) + (k : Nat)) + 1) % 2305843009213693951 = st'
    have s0' : 0 ≤ st' := by rw [← hst]; exact Int.emod_nonneg _ (by decide)
    have s1' : st' < 2305843009213693951 := by rw [← hst]; exact Int.emod_lt_of_pos _ (by decide)
    have app : ∀ v : Int, 0 ≤ v → v < 1000 → (∀ x ∈ acc ++ [v], 0 ≤ x ∧ x < 1000) := fun v v0 v1 x hx => by
      rcases List.mem_append.mp hx with hx | hx
      · exact ha x hx
      · have : x = v := by simpa using hx
        omega
    have next : ∀ (acc' : List Int) (rest : Int) (x6 : Option SV), (∀ x ∈ acc', 0 ≤ x ∧ x < 1000) → acc'.length = k + 1 - 3 → dForL (gdName 6) _ ((List.range' (k + 1) m).map fun i => .int ((0 : Int) + (i : Nat))) D [x0, x1, some (.dat (.int 1000)), some (.own (acc'.map .int)), some (.dat (.int rest)), some (.dat (.int st')), x6] :=
      fun acc' rest x6 h1 h2 => draws_loop rfl rfl m (k + 1) acc' rest st' x6 s0' s1' h1 h2 (by omega) (fun a r s y h3 h4 => h a r s y h3 (by omega)) (by omega)
    have ea : ∀ v : Int, acc.map PyData.int ++ [.int v] = (acc ++ [v]).map PyData.int := fun v => by simp
    by_cases h2 : (2 : Int) < 0 + (k : Nat)
    · have hk3 : k ≥ 3 := by omega
      by_cases h3 : 0 < rest
      · simp only [h2, h3, dSeq, dAsgG, dAsgN, dRet, dRetN, dRetO, dRet0, dDrop, dIfS, dNext, dApp, dInsert, q_setI, q_setQ, q_take, dFor, dFreeze, dNever, q_par, q_parQ, q_par3, q_parQ3, dParNE, dParDE, gdName, q_gnil, q_gcons, q_gtup, dVar, dOwn, dC, d1, d2, n2, nCons, nNil, nLst, dTup, dFr, dTest, dAnd, dOr, dNot, dAndV, dOrV, dNotV, dIf, dChain, dCB, nCB, dCall, nCall, aDat, aBag, aNil, q_neg, q_add, q_addl, q_addt, q_sub, q_mul, q_mull, q_mult, q_fdiv, q_mod, q_pow, q_lt, q_le, q_gt, q_ge, eqD, neD, isD, isntD, q_isnn, q_isni, q_isnb, q_isnt, q_isnl, q_lenl, q_lent, q_inti, q_intb, q_max2, q_min2, q_listl, q_listt, q_tuplel, q_tuplet, q_sum, q_min, q_max, allD, itSeq, itR1, q_itR2, q_rng2, q_en, q_en1, q_zip, q_zipQ, q_seqr, q_lenr, q_ixr, q_seql, q_seqt, q_rvd, q_rvn, q_catn, q_ixl, q_ixt, q_sl, q_sll, q_slt, q_slr, nSlL, oNone, oSome, nLc, wipeD, q_dropc, q_dropxd, q_dropxb, q_dropxo, q_dropxn, q_drope, dYes, dCnt, q_revl, q_revt, q_revr, nListRg, dTupRg, exInts, exOpt, q_addr1, q_addrr, q_ixk0, q_ixk1, exRow, exTk, cntL, cntQ_some, cntQ_none, List.getElem?_cons_zero, List.getElem?_cons_succ, List.getElem?_nil, Option.some.injEq, SV.dat.injEq, SV.own.injEq, PyData.int.injEq, PyData.bool.injEq, PyData.tuple.injEq, PyData.list.injEq, PyData.str.injEq, RVd.new.injEq, RVd.dat.injEq, exists_eq_left, exists_eq_left', exists_eq_right, List.cons.injEq, List.set_cons_zero, List.set_cons_succ, reduceCtorEq, and_true, true_and, false_and, and_false, not_true_eq_false, not_false_eq_true, if_true, if_false, ite_true, ite_false, decide_eq_true_eq, Bool.not_eq_true', decide_eq_false_iff_not, Bool.and_true, Bool.true_and, Bool.and_false, Bool.false_and, Bool.not_true, Bool.not_false, Bool.false_eq_true, List.map_cons, List.map_nil, List.length_cons, List.length_nil, Nat.zero_add, Nat.reduceAdd, Nat.reduceLeDiff, startd, List.replicate_succ, List.replicate_zero, List.nil_append, List.cons_append, Nat.reduceSub, exists_const, and_self, shp_int, shp_none, shp_bool, eqv_int, dForL_nil, lcL_nil]
        rw [ea]
        exact next _ _ _ (app _ (Int.emod_nonneg _ (by decide)) (Int.emod_lt_of_pos _ (by decide))) (by simp; omega)
      · simp only [h2, h3, dSeq, dAsgG, dAsgN, dRet, dRetN, dRetO, dRet0, dDrop, dIfS, dNext, dApp, dInsert, q_setI, q_setQ, q_take, dFor, dFreeze, dNever, q_par, q_parQ, q_par3, q_parQ3, dParNE, dParDE, gdName, q_gnil, q_gcons, q_gtup, dVar, dOwn, dC, d1, d2, n2, nCons, nNil, nLst, dTup, dFr, dTest, dAnd, dOr, dNot, dAndV, dOrV, dNotV, dIf, dChain, dCB, nCB, dCall, nCall, aDat, aBag, aNil, q_neg, q_add, q_addl, q_addt, q_sub, q_mul, q_mull, q_mult, q_fdiv, q_mod, q_pow, q_lt, q_le, q_gt, q_ge, eqD, neD, isD, isntD, q_isnn, q_isni, q_isnb, q_isnt, q_isnl, q_lenl, q_lent, q_inti, q_intb, q_max2, q_min2, q_listl, q_listt, q_tuplel, q_tuplet, q_sum, q_min, q_max, allD, itSeq, itR1, q_itR2, q_rng2, q_en, q_en1, q_zip, q_zipQ, q_seqr, q_lenr, q_ixr, q_seql, q_seqt, q_rvd, q_rvn, q_catn, q_ixl, q_ixt, q_sl, q_sll, q_slt, q_slr, nSlL, oNone, oSome, nLc, wipeD, q_dropc, q_dropxd, q_dropxb, q_dropxo, q_dropxn, q_drope, dYes, dCnt, q_revl, q_revt, q_revr, nListRg, dTupRg, exInts, exOpt, q_addr1, q_addrr, q_ixk0, q_ixk1, exRow, exTk, cntL, cntQ_some, cntQ_none, List.getElem?_cons_zero, List.getElem?_cons_succ, List.getElem?_nil, Option.some.injEq, SV.dat.injEq, SV.own.injEq, PyData.int.injEq, PyData.bool.injEq, PyData.tuple.injEq, PyData.list.injEq, PyData.str.injEq, RVd.new.injEq, RVd.dat.injEq, exists_eq_left, exists_eq_left', exists_eq_right, List.cons.injEq, List.set_cons_zero, List.set_cons_succ, reduceCtorEq, and_true, true_and, false_and, and_false, not_true_eq_false, not_false_eq_true, if_true, if_false, ite_true, ite_false, decide_eq_true_eq, Bool.not_eq_true', decide_eq_false_iff_not, Bool.and_true, Bool.true_and, Bool.and_false, Bool.false_and, Bool.not_true, Bool.not_false, Bool.false_eq_true, List.map_cons, List.map_nil, List.length_cons, List.length_nil, Nat.zero_add, Nat.reduceAdd, Nat.reduceLeDiff, startd, List.replicate_succ, List.replicate_zero, List.nil_append, List.cons_append, Nat.reduceSub, exists_const, and_self, shp_int, shp_none, shp_bool, eqv_int, dForL_nil, lcL_nil]
        rw [ea]
        exact next _ _ _ (app _ (Int.emod_nonneg _ (by decide)) (Int.emod_lt_of_pos _ (by decide))) (by simp; omega)
    · simp only [h2, dSeq, dAsgG, dAsgN, dRet, dRetN, dRetO, dRet0, dDrop, dIfS, dNext, dApp, dInsert, q_setI, q_setQ, q_take, dFor, dFreeze, dNever, q_par, q_parQ, q_par3, q_parQ3, dParNE, dParDE, gdName, q_gnil, q_gcons, q_gtup, dVar, dOwn, dC, d1, d2, n2, nCons, nNil, nLst, dTup, dFr, dTest, dAnd, dOr, dNot, dAndV, dOrV, dNotV, dIf, dChain, dCB, nCB, dCall, nCall, aDat, aBag, aNil, q_neg, q_add, q_addl, q_addt, q_sub, q_mul, q_mull, q_mult, q_fdiv, q_mod, q_pow, q_lt, q_le, q_gt, q_ge, eqD, neD, isD, isntD, q_isnn, q_isni, q_isnb, q_isnt, q_isnl, q_lenl, q_lent, q_inti, q_intb, q_max2, q_min2, q_listl, q_listt, q_tuplel, q_tuplet, q_sum, q_min, q_max, allD, itSeq, itR1, q_itR2, q_rng2, q_en, q_en1, q_zip, q_zipQ, q_seqr, q_lenr, q_ixr, q_seql, q_seqt, q_rvd, q_rvn, q_catn, q_ixl, q_ixt, q_sl, q_sll, q_slt, q_slr, nSlL, oNone, oSome, nLc, wipeD, q_dropc, q_dropxd, q_dropxb, q_dropxo, q_dropxn, q_drope, dYes, dCnt, q_revl, q_revt, q_revr, nListRg, dTupRg, exInts, exOpt, q_addr1, q_addrr, q_ixk0, q_ixk1, exRow, exTk, cntL, cntQ_some, cntQ_none, List.getElem?_cons_zero, List.getElem?_cons_succ, List.getElem?_nil, Option.some.injEq, SV.dat.injEq, SV.own.injEq, PyData.int.injEq, PyData.bool.injEq, PyData.tuple.injEq, PyData.list.injEq, PyData.str.injEq, RVd.new.injEq, RVd.dat.injEq, exists_eq_left, exists_eq_left', exists_eq_right, List.cons.injEq, List.set_cons_zero, List.set_cons_succ, reduceCtorEq, and_true, true_and, false_and, and_false, not_true_eq_false, not_false_eq_true, if_true, if_false, ite_true, ite_false, decide_eq_true_eq, Bool.not_eq_true', decide_eq_false_iff_not, Bool.and_true, Bool.true_and, Bool.and_false, Bool.false_and, Bool.not_true, Bool.not_false, Bool.false_eq_true, List.map_cons, List.map_nil, List.length_cons, List.length_nil, Nat.zero_add, Nat.reduceAdd, Nat.reduceLeDiff, startd, List.replicate_succ, List.replicate_zero, List.nil_append, List.cons_append, Nat.reduceSub, exists_const, and_self, shp_int, shp_none, shp_bool, eqv_int, dForL_nil, lcL_nil]
      exact next _ _ _ ha (by omega)
theorem rd_law_draws (svs : List SV) (R : RVd → Prop) (h : sp_law_draws svs R) : b_law_draws { nx := fun _ => R (.dat .none), rt := R } (startd 7 svs) := by
  obtain ⟨c, rfl, h⟩ := h
  simp only [b_law_draws, show (0 : Int) < 2305843009213693951 by decide, show (0 : Int) ≤ 18 by decide, show (18 : Int) ≤ 1000 by decide, show (10 : Int).natAbs < 2 ^ 64 by decide, show -(2 : Int) ^ 62 ≤ 400 + 3 by decide, show (400 : Int) + 3 < 2 ^ 62 by decide, rngD, dSeq, dAsgG, dAsgN, dRet, dRetN, dRetO, dRet0, dDrop, dIfS, dNext, dApp, dInsert, q_setI, q_setQ, q_take, dFor, dFreeze, dNever, q_par, q_parQ, q_par3, q_parQ3, dParNE, dParDE, gdName, q_gnil, q_gcons, q_gtup, dVar, dOwn, dC, d1, d2, n2, nCons, nNil, nLst, dTup, dFr, dTest, dAnd, dOr, dNot, dAndV, dOrV, dNotV, dIf, dChain, dCB, nCB, dCall, nCall, aDat, aBag, aNil, q_neg, q_add, q_addl, q_addt, q_sub, q_mul, q_mull, q_mult, q_fdiv, q_mod, q_pow, q_lt, q_le, q_gt, q_ge, eqD, neD, isD, isntD, q_isnn, q_isni, q_isnb, q_isnt, q_isnl, q_lenl, q_lent, q_inti, q_intb, q_max2, q_min2, q_listl, q_listt, q_tuplel, q_tuplet, q_sum, q_min, q_max, allD, itSeq, itR1, q_itR2, q_rng2, q_en, q_en1, q_zip, q_zipQ, q_seqr, q_lenr, q_ixr, q_seql, q_seqt, q_rvd, q_rvn, q_catn, q_ixl, q_ixt, q_sl, q_sll, q_slt, q_slr, nSlL, oNone, oSome, nLc, wipeD, q_dropc, q_dropxd, q_dropxb, q_dropxo, q_dropxn, q_drope, dYes, dCnt, q_revl, q_revt, q_revr, nListRg, dTupRg, exInts, exOpt, q_addr1, q_addrr, q_ixk0, q_ixk1, exRow, exTk, cntL, cntQ_some, cntQ_none, List.getElem?_cons_zero, List.getElem?_cons_succ, List.getElem?_nil, Option.some.injEq, SV.dat.injEq, SV.own.injEq, PyData.int.injEq, PyData.bool.injEq, PyData.tuple.injEq, PyData.list.injEq, PyData.str.injEq, RVd.new.injEq, RVd.dat.injEq, exists_eq_left, exists_eq_left', exists_eq_right, List.cons.injEq, List.set_cons_zero, List.set_cons_succ, reduceCtorEq, and_true, true_and, false_and, and_false, not_true_eq_false, not_false_eq_true, if_true, if_false, ite_true, ite_false, decide_eq_true_eq, Bool.not_eq_true', decide_eq_false_iff_not, Bool.and_true, Bool.true_and, Bool.and_false, Bool.false_and, Bool.not_true, Bool.not_false, Bool.false_eq_true, List.map_cons, List.map_nil, List.length_cons, List.length_nil, Nat.zero_add, Nat.reduceAdd, Nat.reduceLeDiff, startd, List.replicate_succ, List.replicate_zero, List.nil_append, List.cons_append, Nat.reduceSub, exists_const, and_self, shp_int, shp_none, shp_bool, eqv_int, dForL_nil, lcL_nil]
  refine ⟨?_, ?_⟩
  · split
    · exact .inr (.inr rfl)
    · exact .inr (.inl rfl)
  · rw [show (400 + 3 : Int).toNat = 403 by decide, List.range_eq_range']
    refine draws_loop rfl rfl 403 0 [] _ _ _ (Int.emod_nonneg _ (by decide)) (Int.emod_lt_of_pos _ (by decide)) (by simp) rfl (by decide) (fun acc' rest st x6 h1 h2 => ?_) (by decide)
    simp only [dSeq, dAsgG, dAsgN, dRet, dRetN, dRetO, dRet0, dDrop, dIfS, dNext, dApp, dInsert, q_setI, q_setQ, q_take, dFor, dFreeze, dNever, q_par, q_parQ, q_par3, q_parQ3, dParNE, dParDE, gdName, q_gnil, q_gcons, q_gtup, dVar, dOwn, dC, d1, d2, n2, nCons, nNil, nLst, dTup, dFr, dTest, dAnd, dOr, dNot, dAndV, dOrV, dNotV, dIf, dChain, dCB, nCB, dCall, nCall, aDat, aBag, aNil, q_neg, q_add, q_addl, q_addt, q_sub, q_mul, q_mull, q_mult, q_fdiv, q_mod, q_pow, q_lt, q_le, q_gt, q_ge, eqD, neD, isD, isntD, q_isnn, q_isni, q_isnb, q_isnt, q_isnl, q_lenl, q_lent, q_inti, q_intb, q_max2, q_min2, q_listl, q_listt, q_tuplel, q_tuplet, q_sum, q_min, q_max, allD, itSeq, itR1, q_itR2, q_rng2, q_en, q_en1, q_zip, q_zipQ, q_seqr, q_lenr, q_ixr, q_seql, q_seqt, q_rvd, q_rvn, q_catn, q_ixl, q_ixt, q_sl, q_sll, q_slt, q_slr, nSlL, oNone, oSome, nLc, wipeD, q_dropc, q_dropxd, q_dropxb, q_dropxo, q_dropxn, q_drope, dYes, dCnt, q_revl, q_revt, q_revr, nListRg, dTupRg, exInts, exOpt, q_addr1, q_addrr, q_ixk0, q_ixk1, exRow, exTk, cntL, cntQ_some, cntQ_none, List.getElem?_cons_zero, List.getElem?_cons_succ, List.getElem?_nil, Option.some.injEq, SV.dat.injEq, SV.own.injEq, PyData.int.injEq, PyData.bool.injEq, PyData.tuple.injEq, PyData.list.injEq, PyData.str.injEq, RVd.new.injEq, RVd.dat.injEq, exists_eq_left, exists_eq_left', exists_eq_right, List.cons.injEq, List.set_cons_zero, List.set_cons_succ, reduceCtorEq, and_true, true_and, false_and, and_false, not_true_eq_false, not_false_eq_true, if_true, if_false, ite_true, ite_false, decide_eq_true_eq, Bool.not_eq_true', decide_eq_false_iff_not, Bool.and_true, Bool.true_and, Bool.and_false, Bool.false_and, Bool.not_true, Bool.not_false, Bool.false_eq_true, List.map_cons, List.map_nil, List.length_cons, List.length_nil, Nat.zero_add, Nat.reduceAdd, Nat.reduceLeDiff, startd, List.replicate_succ, List.replicate_zero, List.nil_append, List.cons_append, Nat.reduceSub, exists_const, and_self, shp_int, shp_none, shp_bool, eqv_int, dForL_nil, lcL_nil]
    exact h acc' (by simpa using h2) h1
theorem len_law_draws (svs : List SV) (R : RVd → Prop) (h : sp_law_draws svs R) : svs.length = 3 := by
  obtain ⟨c, rfl, h⟩ := h
  rfl
/-! ### takers, rows -/
def sp_law_taker : DSp
  | [.bag, .dat (.int far)], R => 2 ≤ far ∧ ∀ e c : Int, 2 ≤ e → e ≤ far → 0 ≤ c → c < e → R (.dat (tkD (e, c)))
  | _, _ => False
/-- _law_taker: 0 bag, 1 far, 2 every -/
abbrev b_law_taker : DS := (dSeq (dAsgG (d2 addD (dC (.int 2)) (d2 ixD (dFr (nLst (nCons (dCall sp_law_take (aBag 0 (aDat (dCB min2D (nCons (dC (.int 4)) (nCons (d2 subD (dVar 1) (dC (.int 1))) nNil))) aNil))) (nCons (dCall sp_law_take (aBag 0 (aDat (d2 subD (dVar 1) (dC (.int 1))) aNil))) nNil)))) (dCall sp_law_take (aBag 0 (aDat (dC (.int 2)) aNil))))) (gdName 2))
  (dRet (dTup (nCons (dVar 2) (nCons (d2 ixD (dFr (nLst (nCons (dC (.int 0)) (nCons (dCall sp_law_take (aBag 0 (aDat (dVar 2) aNil))) (nCons (d2 subD (dVar 2) (dC (.int 1))) nNil))))) (dCall sp_law_take (aBag 0 (aDat (dC (.int 3)) aNil)))) nNil)))))
theorem rd_law_taker (svs : List SV) (R : RVd → Prop) (h : sp_law_taker svs R) : b_law_taker { nx := fun _ => R (.dat .none), rt := R } (startd 3 svs) := by
  unfold sp_law_taker at h
  split at h
  · rename_i far
    obtain ⟨hf, h⟩ := h
    have key : ∀ e : Int, 2 ≤ e → e ≤ far → 0 < e ∧ ∀ r : Int, 0 ≤ r → r < e → ((0 : Int) < 3) ∧ ∀ r' : Int, 0 ≤ r' → r' < 3 → ∃ z, atI [PyData.int 0, .int r, .int (e - 1)] r' = some z ∧ R (.dat (.tuple [.int e, z])) := fun e h1 h2 => ⟨by omega, fun r r0 r1 => ⟨by decide, fun r' s0 s1 => by
      have : r' = 0 ∨ r' = 1 ∨ r' = 2 := by omega
      rcases this with rfl | rfl | rfl
      · exact ⟨_, at0, h e 0 h1 h2 (by omega) (by omega)⟩
      · exact ⟨_, at1, h e r h1 h2 r0 r1⟩
      · exact ⟨_, atI_nat (j := 2) rfl, h e (e - 1) h1 h2 (by omega) (by omega)⟩⟩⟩
    simp only [b_law_taker, dSeq, dAsgG, dAsgN, dRet, dRetN, dRetO, dRet0, dDrop, dIfS, dNext, dApp, dInsert, q_setI, q_setQ, q_take, dFor, dFreeze, dNever, q_par, q_parQ, q_par3, q_parQ3, dParNE, dParDE, gdName, q_gnil, q_gcons, q_gtup, dVar, dOwn, dC, d1, d2, n2, nCons, nNil, nLst, dTup, dFr, dTest, dAnd, dOr, dNot, dAndV, dOrV, dNotV, dIf, dChain, dCB, nCB, dCall, nCall, aDat, aBag, aNil, q_neg, q_add, q_addl, q_addt, q_sub, q_mul, q_mull, q_mult, q_fdiv, q_mod, q_pow, q_lt, q_le, q_gt, q_ge, eqD, neD, isD, isntD, q_isnn, q_isni, q_isnb, q_isnt, q_isnl, q_lenl, q_lent, q_inti, q_intb, q_max2, q_min2, q_listl, q_listt, q_tuplel, q_tuplet, q_sum, q_min, q_max, allD, itSeq, itR1, q_itR2, q_rng2, q_en, q_en1, q_zip, q_zipQ, q_seqr, q_lenr, q_ixr, q_seql, q_seqt, q_rvd, q_rvn, q_catn, q_ixl, q_ixt, q_sl, q_sll, q_slt, q_slr, nSlL, oNone, oSome, nLc, wipeD, q_dropc, q_dropxd, q_dropxb, q_dropxo, q_dropxn, q_drope, dYes, dCnt, q_revl, q_revt, q_revr, nListRg, dTupRg, exInts, exOpt, q_addr1, q_addrr, q_ixk0, q_ixk1, exRow, exTk, cntL, cntQ_some, cntQ_none, List.getElem?_cons_zero, List.getElem?_cons_succ, List.getElem?_nil, Option.some.injEq, SV.dat.injEq, SV.own.injEq, PyData.int.injEq, PyData.bool.injEq, PyData.tuple.injEq, PyData.list.injEq, PyData.str.injEq, RVd.new.injEq, RVd.dat.injEq, exists_eq_left, exists_eq_left', exists_eq_right, List.cons.injEq, List.set_cons_zero, List.set_cons_succ, reduceCtorEq, and_true, true_and, false_and, and_false, not_true_eq_false, not_false_eq_true, if_true, if_false, ite_true, ite_false, decide_eq_true_eq, Bool.not_eq_true', decide_eq_false_iff_not, Bool.and_true, Bool.true_and, Bool.and_false, Bool.false_and, Bool.not_true, Bool.not_false, Bool.false_eq_true, List.map_cons, List.map_nil, List.length_cons, List.length_nil, Nat.zero_add, Nat.reduceAdd, Nat.reduceLeDiff, startd, List.replicate_succ, List.replicate_zero, List.nil_append, List.cons_append, Nat.reduceSub, exists_const, and_self, shp_int, shp_none, shp_bool, eqv_int, dForL_nil, lcL_nil]
    refine ⟨by omega, fun r1 a0 a1 => ⟨by omega, fun r2 b0 b1 => ⟨by decide, fun r3 c0 c1 => ?_⟩⟩⟩
    have : r3 = 0 ∨ r3 = 1 := by omega
    rcases this with rfl | rfl
    · refine ⟨_, at0, ?_⟩
      simp only [dSeq, dAsgG, dAsgN, dRet, dRetN, dRetO, dRet0, dDrop, dIfS, dNext, dApp, dInsert, q_setI, q_setQ, q_take, dFor, dFreeze, dNever, q_par, q_parQ, q_par3, q_parQ3, dParNE, dParDE, gdName, q_gnil, q_gcons, q_gtup, dVar, dOwn, dC, d1, d2, n2, nCons, nNil, nLst, dTup, dFr, dTest, dAnd, dOr, dNot, dAndV, dOrV, dNotV, dIf, dChain, dCB, nCB, dCall, nCall, aDat, aBag, aNil, q_neg, q_add, q_addl, q_addt, q_sub, q_mul, q_mull, q_mult, q_fdiv, q_mod, q_pow, q_lt, q_le, q_gt, q_ge, eqD, neD, isD, isntD, q_isnn, q_isni, q_isnb, q_isnt, q_isnl, q_lenl, q_lent, q_inti, q_intb, q_max2, q_min2, q_listl, q_listt, q_tuplel, q_tuplet, q_sum, q_min, q_max, allD, itSeq, itR1, q_itR2, q_rng2, q_en, q_en1, q_zip, q_zipQ, q_seqr, q_lenr, q_ixr, q_seql, q_seqt, q_rvd, q_rvn, q_catn, q_ixl, q_ixt, q_sl, q_sll, q_slt, q_slr, nSlL, oNone, oSome, nLc, wipeD, q_dropc, q_dropxd, q_dropxb, q_dropxo, q_dropxn, q_drope, dYes, dCnt, q_revl, q_revt, q_revr, nListRg, dTupRg, exInts, exOpt, q_addr1, q_addrr, q_ixk0, q_ixk1, exRow, exTk, cntL, cntQ_some, cntQ_none, List.getElem?_cons_zero, List.getElem?_cons_succ, List.getElem?_nil, Option.some.injEq, SV.dat.injEq, SV.own.injEq, PyData.int.injEq, PyData.bool.injEq, PyData.tuple.injEq, PyData.list.injEq, PyData.str.injEq, RVd.new.injEq, RVd.dat.injEq, exists_eq_left, exists_eq_left', exists_eq_right, List.cons.injEq, List.set_cons_zero, List.set_cons_succ, reduceCtorEq, and_true, true_and, false_and, and_false, not_true_eq_false, not_false_eq_true, if_true, if_false, ite_true, ite_false, decide_eq_true_eq, Bool.not_eq_true', decide_eq_false_iff_not, Bool.and_true, Bool.true_and, Bool.and_false, Bool.false_and, Bool.not_true, Bool.not_false, Bool.false_eq_true, List.map_cons, List.map_nil, List.length_cons, List.length_nil, Nat.zero_add, Nat.reduceAdd, Nat.reduceLeDiff, startd, List.replicate_succ, List.replicate_zero, List.nil_append, List.cons_append, Nat.reduceSub, exists_const, and_self, shp_int, shp_none, shp_bool, eqv_int, dForL_nil, lcL_nil]
      exact key (2 + r1) (by omega) (by omega)
    · refine ⟨_, at1, ?_⟩
      simp only [dSeq, dAsgG, dAsgN, dRet, dRetN, dRetO, dRet0, dDrop, dIfS, dNext, dApp, dInsert, q_setI, q_setQ, q_take, dFor, dFreeze, dNever, q_par, q_parQ, q_par3, q_parQ3, dParNE, dParDE, gdName, q_gnil, q_gcons, q_gtup, dVar, dOwn, dC, d1, d2, n2, nCons, nNil, nLst, dTup, dFr, dTest, dAnd, dOr, dNot, dAndV, dOrV, dNotV, dIf, dChain, dCB, nCB, dCall, nCall, aDat, aBag, aNil, q_neg, q_add, q_addl, q_addt, q_sub, q_mul, q_mull, q_mult, q_fdiv, q_mod, q_pow, q_lt, q_le, q_gt, q_ge, eqD, neD, isD, isntD, q_isnn, q_isni, q_isnb, q_isnt, q_isnl, q_lenl, q_lent, q_inti, q_intb, q_max2, q_min2, q_listl, q_listt, q_tuplel, q_tuplet, q_sum, q_min, q_max, allD, itSeq, itR1, q_itR2, q_rng2, q_en, q_en1, q_zip, q_zipQ, q_seqr, q_lenr, q_ixr, q_seql, q_seqt, q_rvd, q_rvn, q_catn, q_ixl, q_ixt, q_sl, q_sll, q_slt, q_slr, nSlL, oNone, oSome, nLc, wipeD, q_dropc, q_dropxd, q_dropxb, q_dropxo, q_dropxn, q_drope, dYes, dCnt, q_revl, q_revt, q_revr, nListRg, dTupRg, exInts, exOpt, q_addr1, q_addrr, q_ixk0, q_ixk1, exRow, exTk, cntL, cntQ_some, cntQ_none, List.getElem?_cons_zero, List.getElem?_cons_succ, List.getElem?_nil, Option.some.injEq, SV.dat.injEq, SV.own.injEq, PyData.int.injEq, PyData.bool.injEq, PyData.tuple.injEq, PyData.list.injEq, PyData.str.injEq, RVd.new.injEq, RVd.dat.injEq, exists_eq_left, exists_eq_left', exists_eq_right, List.cons.injEq, List.set_cons_zero, List.set_cons_succ, reduceCtorEq, and_true, true_and, false_and, and_false, not_true_eq_false, not_false_eq_true, if_true, if_false, ite_true, ite_false, decide_eq_true_eq, Bool.not_eq_true', decide_eq_false_iff_not, Bool.and_true, Bool.true_and, Bool.and_false, Bool.false_and, Bool.not_true, Bool.not_false, Bool.false_eq_true, List.map_cons, List.map_nil, List.length_cons, List.length_nil, Nat.zero_add, Nat.reduceAdd, Nat.reduceLeDiff, startd, List.replicate_succ, List.replicate_zero, List.nil_append, List.cons_append, Nat.reduceSub, exists_const, and_self, shp_int, shp_none, shp_bool, eqv_int, dForL_nil, lcL_nil]
      exact key (2 + r2) (by omega) (by omega)
  · exact h.elim
theorem len_law_taker (svs : List SV) (R : RVd → Prop) (h : sp_law_taker svs R) : svs.length = 2 := by
  unfold sp_law_taker at h
  split at h
  · rfl
  · exact h.elim
theorem pick3 {a b c r : Int} (P : Int → Prop) (h0 : 0 ≤ r) (h3 : r < 3) (ha : P a) (hb : P b) (hc : P c) : ∃ z, atI [PyData.int a, .int b, .int c] r = some (.int z) ∧ P z := by
  have : r = 0 ∨ r = 1 ∨ r = 2 := by omega
  rcases this with rfl | rfl | rfl
  · exact ⟨a, at0, ha⟩
  · exact ⟨b, at1, hb⟩
  · exact ⟨c, atI_nat (j := 2) rfl, hc⟩
theorem lcL_mapOn {g : DG} {te : DE} {env : Denv} {f : PyData → PyData} : ∀ {ds : List PyData} (hg : ∀ d ∈ ds, ∀ Q, (g d env fun env' => te env' Q) = Q (f d)) {Q : List PyData → Prop}, lcL g dYes te env ds Q = Q (ds.map f)
  | [], _, Q => rfl
  | d :: ds, hg, Q => by
    show (g d env fun env' => te env' fun y => lcL g dYes te env ds fun ys => Q (y :: ys)) = _
    rw [hg d List.mem_cons_self]
    exact lcL_mapOn (fun x hx => hg x (List.mem_cons_of_mem _ hx))
/-- a comprehension whose element is any of a kind -/
theorem lcL_any {α : Type} {g : DG} {te : DE} {env : Denv} {f : α → PyData} {P : α → Prop} (hg : ∀ d (Q : PyData → Prop), (∀ x, P x → Q (f x)) → g d env fun env' => te env' Q) : ∀ (ds : List PyData) (Q : List PyData → Prop), (∀ xs : List α, xs.length = ds.length → (∀ x ∈ xs, P x) → Q (xs.map f)) → lcL g dYes te env ds Q
  | [], Q, h => h [] rfl (by simp)
  | d :: ds, Q, h => by
    show g d env fun env' => te env' fun y => lcL g dYes te env ds fun ys => Q (y :: ys)
    refine hg d _ fun x hx => lcL_any hg ds _ fun xs hl hp => ?_
    exact h (x :: xs) (by rw [List.length_cons, List.length_cons, hl]) fun y hy => by
      rcases List.mem_cons.mp hy with rfl | hy
      · exact hx
      · exact hp y hy
/-- takers of every so-manieth up to a bound -/
def TkIn (far : Int) (t : Int × Int) : Prop := 2 ≤ t.1 ∧ t.1 ≤ far ∧ 0 ≤ t.2 ∧ t.2 < t.1
theorem TkIn.ok {far : Int} {t : Int × Int} (h : TkIn far t) (hf : far ≤ 1000) : TkOk t := ⟨h.1, by have := h.2.1; omega, h.2.2⟩
def sp_law_drawn_row : DSp
  | [.bag, .dat (.int takers), .dat (.int far)], R => 0 ≤ takers ∧ takers ≤ 8 ∧ 2 ≤ far ∧ far ≤ 1000 ∧ ∀ rs : List (Int × Int), (rs.length : Int) ≤ takers → (∀ t ∈ rs, TkIn far t) → R (.dat (rowD rs))
  | _, _ => False
/-- _law_drawn_row: 0 bag, 1 takers, 2 far, 3 turn -/
abbrev b_law_drawn_row : DS := (dRet (dCB tupleD (nCons (dFr (nLc (itR1 (nCons (dCall sp_law_take (aBag 0 (aDat (d2 addD (dVar 1) (dC (.int 1))) aNil))) nNil)) (gdName 3) dYes (dCall sp_law_taker (aBag 0 (aDat (dVar 2) aNil))) [3])) nNil)))
theorem rd_law_drawn_row (svs : List SV) (R : RVd → Prop) (h : sp_law_drawn_row svs R) : b_law_drawn_row { nx := fun _ => R (.dat .none), rt := R } (startd 4 svs) := by
  unfold sp_law_drawn_row at h
  split at h
  · rename_i takers far
    obtain ⟨h1, h2, h3, h4, h⟩ := h
    simp only [b_law_drawn_row, dSeq, dAsgG, dAsgN, dRet, dRetN, dRetO, dRet0, dDrop, dIfS, dNext, dApp, dInsert, q_setI, q_setQ, q_take, dFor, dFreeze, dNever, q_par, q_parQ, q_par3, q_parQ3, dParNE, dParDE, gdName, q_gnil, q_gcons, q_gtup, dVar, dOwn, dC, d1, d2, n2, nCons, nNil, nLst, dTup, dFr, dTest, dAnd, dOr, dNot, dAndV, dOrV, dNotV, dIf, dChain, dCB, nCB, dCall, nCall, aDat, aBag, aNil, q_neg, q_add, q_addl, q_addt, q_sub, q_mul, q_mull, q_mult, q_fdiv, q_mod, q_pow, q_lt, q_le, q_gt, q_ge, eqD, neD, isD, isntD, q_isnn, q_isni, q_isnb, q_isnt, q_isnl, q_lenl, q_lent, q_inti, q_intb, q_max2, q_min2, q_listl, q_listt, q_tuplel, q_tuplet, q_sum, q_min, q_max, allD, itSeq, itR1, q_itR2, q_rng2, q_en, q_en1, q_zip, q_zipQ, q_seqr, q_lenr, q_ixr, q_seql, q_seqt, q_rvd, q_rvn, q_catn, q_ixl, q_ixt, q_sl, q_sll, q_slt, q_slr, nSlL, oNone, oSome, nLc, wipeD, q_dropc, q_dropxd, q_dropxb, q_dropxo, q_dropxn, q_drope, dYes, dCnt, q_revl, q_revt, q_revr, nListRg, dTupRg, exInts, exOpt, q_addr1, q_addrr, q_ixk0, q_ixk1, exRow, exTk, cntL, cntQ_some, cntQ_none, List.getElem?_cons_zero, List.getElem?_cons_succ, List.getElem?_nil, Option.some.injEq, SV.dat.injEq, SV.own.injEq, PyData.int.injEq, PyData.bool.injEq, PyData.tuple.injEq, PyData.list.injEq, PyData.str.injEq, RVd.new.injEq, RVd.dat.injEq, exists_eq_left, exists_eq_left', exists_eq_right, List.cons.injEq, List.set_cons_zero, List.set_cons_succ, reduceCtorEq, and_true, true_and, false_and, and_false, not_true_eq_false, not_false_eq_true, if_true, if_false, ite_true, ite_false, decide_eq_true_eq, Bool.not_eq_true', decide_eq_false_iff_not, Bool.and_true, Bool.true_and, Bool.and_false, Bool.false_and, Bool.not_true, Bool.not_false, Bool.false_eq_true, List.map_cons, List.map_nil, List.length_cons, List.length_nil, Nat.zero_add, Nat.reduceAdd, Nat.reduceLeDiff, startd, List.replicate_succ, List.replicate_zero, List.nil_append, List.cons_append, Nat.reduceSub, exists_const, and_self, shp_int, shp_none, shp_bool, eqv_int, dForL_nil, lcL_nil]
    refine ⟨by omega, fun r r0 r1 => ⟨⟨by omega, by omega⟩, ?_, ?_⟩⟩
    · rw [rngD_len]
      omega
    · refine lcL_any (f := tkD) (P := TkIn far) (fun d Q hq => ?_) _ _ fun xs hl hp => h xs ?_ hp
      · simp only [sp_law_taker, dSeq, dAsgG, dAsgN, dRet, dRetN, dRetO, dRet0, dDrop, dIfS, dNext, dApp, dInsert, q_setI, q_setQ, q_take, dFor, dFreeze, dNever, q_par, q_parQ, q_par3, q_parQ3, dParNE, dParDE, gdName, q_gnil, q_gcons, q_gtup, dVar, dOwn, dC, d1, d2, n2, nCons, nNil, nLst, dTup, dFr, dTest, dAnd, dOr, dNot, dAndV, dOrV, dNotV, dIf, dChain, dCB, nCB, dCall, nCall, aDat, aBag, aNil, q_neg, q_add, q_addl, q_addt, q_sub, q_mul, q_mull, q_mult, q_fdiv, q_mod, q_pow, q_lt, q_le, q_gt, q_ge, eqD, neD, isD, isntD, q_isnn, q_isni, q_isnb, q_isnt, q_isnl, q_lenl, q_lent, q_inti, q_intb, q_max2, q_min2, q_listl, q_listt, q_tuplel, q_tuplet, q_sum, q_min, q_max, allD, itSeq, itR1, q_itR2, q_rng2, q_en, q_en1, q_zip, q_zipQ, q_seqr, q_lenr, q_ixr, q_seql, q_seqt, q_rvd, q_rvn, q_catn, q_ixl, q_ixt, q_sl, q_sll, q_slt, q_slr, nSlL, oNone, oSome, nLc, wipeD, q_dropc, q_dropxd, q_dropxb, q_dropxo, q_dropxn, q_drope, dYes, dCnt, q_revl, q_revt, q_revr, nListRg, dTupRg, exInts, exOpt, q_addr1, q_addrr, q_ixk0, q_ixk1, exRow, exTk, cntL, cntQ_some, cntQ_none, List.getElem?_cons_zero, List.getElem?_cons_succ, List.getElem?_nil, Option.some.injEq, SV.dat.injEq, SV.own.injEq, PyData.int.injEq, PyData.bool.injEq, PyData.tuple.injEq, PyData.list.injEq, PyData.str.injEq, RVd.new.injEq, RVd.dat.injEq, exists_eq_left, exists_eq_left', exists_eq_right, List.cons.injEq, List.set_cons_zero, List.set_cons_succ, reduceCtorEq, and_true, true_and, false_and, and_false, not_true_eq_false, not_false_eq_true, if_true, if_false, ite_true, ite_false, decide_eq_true_eq, Bool.not_eq_true', decide_eq_false_iff_not, Bool.and_true, Bool.true_and, Bool.and_false, Bool.false_and, Bool.not_true, Bool.not_false, Bool.false_eq_true, List.map_cons, List.map_nil, List.length_cons, List.length_nil, Nat.zero_add, Nat.reduceAdd, Nat.reduceLeDiff, startd, List.replicate_succ, List.replicate_zero, List.nil_append, List.cons_append, Nat.reduceSub, exists_const, and_self, shp_int, shp_none, shp_bool, eqv_int, dForL_nil, lcL_nil]
        exact ⟨h3, fun e c a1 a2 a3 a4 => hq (e, c) ⟨a1, a2, a3, a4⟩⟩
      · rw [hl, rngD_len]
        omega
  · exact h.elim
theorem len_law_drawn_row (svs : List SV) (R : RVd → Prop) (h : sp_law_drawn_row svs R) : svs.length = 3 := by
  unfold sp_law_drawn_row at h
  split at h
  · rfl
  · exact h.elim
/-! ### gone, piece by piece -/
def pieceG : Int → List (Int × Int) → List Int → Option Int × List Int
  | k, (e, _) :: rs, c :: cs => if (c + 1) % e = 0 then (some k, (c + 1) % e :: cs) else ((pieceG (k + 1) rs cs).1, (c + 1) % e :: (pieceG (k + 1) rs cs).2)
  | _, [], cs => (none, cs)
  | _, _ :: _, [] => (none, [])
def goneG (rs : List (Int × Int)) : List Int → Nat → List (Option Int) × List Int
  | cs, 0 => ([], cs)
  | cs, n + 1 => ((pieceG 0 rs cs).1 :: (goneG rs (pieceG 0 rs cs).2 n).1, (goneG rs (pieceG 0 rs cs).2 n).2)
theorem pieceG_len : ∀ (k : Int) (rs : List (Int × Int)) (cs : List Int), (pieceG k rs cs).2.length = cs.length
  | k, [], cs => by simp [pieceG]
  | k, _ :: _, [] => by simp [pieceG]
  | k, (e, b) :: rs, c :: cs => by
    unfold pieceG
    split
    · simp
    · simp [pieceG_len (k + 1) rs cs]
/-! ### numbers -/
def numbersG (n : Nat) (os : List (Option Int)) : List Int := ((List.range n).map fun (i : Nat) => ((os.count (some ((i : Nat) : Int)) : Nat) : Int)) ++ [((os.count none : Nat) : Int)]
end Pd

set_option maxRecDepth 100000
set_option maxHeartbeats 4000000
/-! came_as, piece_of, a far draw -/
namespace Pd
open PySem L2
def upG (t : Int × Int) (m : Int) : Int := (m + t.2) + (m + t.2 - 1) / (t.1 - 1) - t.2
def cameG : List (Int × Int) → Int → Int
  | [], m => m
  | t :: rs, m => upG t (cameG rs m)
theorem cameG_app (m : Int) : ∀ (rs : List (Int × Int)) (t : Int × Int), cameG (rs ++ [t]) m = cameG rs (upG t m)
  | [], t => rfl
  | u :: rs, t => by
    show upG u (cameG (rs ++ [t]) m) = upG u (cameG rs (upG t m))
    rw [cameG_app m rs t]
/-! ### piece_of -/
def pieceOfG (rs : List (Int × Int)) : Option Int → Int → Int
  | none, n => cameG rs n
  | some j, n => match rs[j.toNat]? with
    | some t => cameG (rs.take j.toNat) (n * t.1 - t.2)
    | none => 0
theorem pieceOfG_some {rs : List (Int × Int)} {k : Nat} {t : Int × Int} {n : Int} (et : rs[k]? = some t) : pieceOfG rs (some (k : Int)) n = cameG (rs.take k) (n * t.1 - t.2) := by
  show (match rs[((k : Int)).toNat]? with | some t => cameG (rs.take ((k : Int)).toNat) (n * t.1 - t.2) | none => 0) = _
  rw [Int.toNat_natCast, et]
def InRow (rs : List (Int × Int)) (o : Option Int) : Prop := ∀ j, o = some j → 0 ≤ j ∧ j < (rs.length : Nat)
theorem mul_small {i j : Int} (hi : i.natAbs < 2 ^ 1000) (hj : j.natAbs < 2 ^ 1000) : mulOk i j := .inl ⟨hi, hj⟩
theorem take_ok {rs : List (Int × Int)} (h : ∀ t ∈ rs, TkOk t) (n : Nat) : ∀ t ∈ rs.take n, TkOk t := fun t ht => h t (List.mem_of_mem_take ht)
/-! ### a far draw -/
theorem pick4 {a b c d r : Int} (P : Int → Prop) (h0 : 0 ≤ r) (h3 : r < 4) (ha : P a) (hb : P b) (hc : P c) (hd : P d) : ∃ z, atI [PyData.int a, .int b, .int c, .int d] r = some (.int z) ∧ P z := by
  have : r = 0 ∨ r = 1 ∨ r = 2 ∨ r = 3 := by omega
  rcases this with rfl | rfl | rfl | rfl
  · exact ⟨a, at0, ha⟩
  · exact ⟨b, at1, hb⟩
  · exact ⟨c, atI_nat (j := 2) rfl, hc⟩
  · exact ⟨d, atI_nat (j := 3) rfl, hd⟩
def sp_law_far_draw : DSp
  | [.bag, .dat (.int many)], R => 1 ≤ many ∧ many ≤ 1000000000000000000 ∧ ∀ r : Int, 0 ≤ r → r < many → R (.dat (.int r))
  | _, _ => False
/-- _law_far_draw: 0 bag, 1 many, 2 found, 3 much -/
abbrev b_law_far_draw : DS := (dSeq (dPar 2 3 (nCons (dC (.int 0)) (nCons (dVar 1) nNil)))
  (dSeq (dWhile (dTest (d2 gtD (dVar 3) (dC (.int 0)))) (dPar 2 3 (nCons (d2 addD (d2 mulD (dC (.int 1000)) (dVar 2)) (dCall sp_law_take (aBag 0 (aDat (dC (.int 1000)) aNil)))) (nCons (d2 fdivD (dVar 3) (dC (.int 1000))) nNil))))
  (dRet (d2 ixD (dFr (nLst (nCons (d2 modD (dVar 2) (dVar 1)) (nCons (dC (.int 0)) (nCons (d2 subD (dVar 1) (dC (.int 1))) (nCons (d2 modD (dVar 2) (dVar 1)) nNil)))))) (dCall sp_law_take (aBag 0 (aDat (dC (.int 4)) aNil)))))))
theorem rd_law_far_draw (svs : List SV) (R : RVd → Prop) (h : sp_law_far_draw svs R) : b_law_far_draw { nx := fun _ => R (.dat .none), rt := R } (startd 4 svs) := by
  unfold sp_law_far_draw at h
  split at h
  · rename_i many
    obtain ⟨h1, h2, h⟩ := h
    simp only [b_law_far_draw, dSeq, dAsgG, dAsgN, dRet, dRetN, dRetO, dRet0, dDrop, dIfS, dNext, dApp, dInsert, q_setI, q_setQ, q_take, dFor, dFreeze, dNever, q_par, q_parQ, q_par3, q_parQ3, dParNE, dParDE, gdName, q_gnil, q_gcons, q_gtup, dVar, dOwn, dC, d1, d2, n2, nCons, nNil, nLst, dTup, dFr, dTest, dAnd, dOr, dNot, dAndV, dOrV, dNotV, dIf, dChain, dCB, nCB, dCall, nCall, aDat, aBag, aNil, q_neg, q_add, q_addl, q_addt, q_sub, q_mul, q_mull, q_mult, q_fdiv, q_mod, q_pow, q_lt, q_le, q_gt, q_ge, eqD, neD, isD, isntD, q_isnn, q_isni, q_isnb, q_isnt, q_isnl, q_lenl, q_lent, q_inti, q_intb, q_max2, q_min2, q_listl, q_listt, q_tuplel, q_tuplet, q_sum, q_min, q_max, allD, itSeq, itR1, q_itR2, q_rng2, q_en, q_en1, q_zip, q_zipQ, q_seqr, q_lenr, q_ixr, q_seql, q_seqt, q_rvd, q_rvn, q_catn, q_ixl, q_ixt, q_sl, q_sll, q_slt, q_slr, nSlL, oNone, oSome, nLc, wipeD, q_dropc, q_dropxd, q_dropxb, q_dropxo, q_dropxn, q_drope, dYes, dCnt, q_revl, q_revt, q_revr, nListRg, dTupRg, exInts, exOpt, q_addr1, q_addrr, q_ixk0, q_ixk1, exRow, exTk, cntL, cntQ_some, cntQ_none, List.getElem?_cons_zero, List.getElem?_cons_succ, List.getElem?_nil, Option.some.injEq, SV.dat.injEq, SV.own.injEq, PyData.int.injEq, PyData.bool.injEq, PyData.tuple.injEq, PyData.list.injEq, PyData.str.injEq, RVd.new.injEq, RVd.dat.injEq, exists_eq_left, exists_eq_left', exists_eq_right, List.cons.injEq, List.set_cons_zero, List.set_cons_succ, reduceCtorEq, and_true, true_and, false_and, and_false, not_true_eq_false, not_false_eq_true, if_true, if_false, ite_true, ite_false, decide_eq_true_eq, Bool.not_eq_true', decide_eq_false_iff_not, Bool.and_true, Bool.true_and, Bool.and_false, Bool.false_and, Bool.not_true, Bool.not_false, Bool.false_eq_true, List.map_cons, List.map_nil, List.length_cons, List.length_nil, Nat.zero_add, Nat.reduceAdd, Nat.reduceLeDiff, startd, List.replicate_succ, List.replicate_zero, List.nil_append, List.cons_append, Nat.reduceSub, exists_const, and_self, shp_int, shp_none, shp_bool, eqv_int, dForL_nil, lcL_nil]
    refine ⟨fun m env => ∃ f much : Int, env = [some .bag, some (.dat (.int many)), some (.dat (.int f)), some (.dat (.int much))] ∧ 0 ≤ f ∧ f < 10 ^ 30 ∧ (f + 1) * much ≤ 10 ^ 24 ∧ 0 ≤ much ∧ much.toNat = m, ⟨_, 0, many, rfl, by decide, by decide, by omega, by omega, rfl⟩, ?_⟩
    rintro m env ⟨f, much, rfl, f0, f1, f2, m0, rfl⟩
    simp only [dSeq, dAsgG, dAsgN, dRet, dRetN, dRetO, dRet0, dDrop, dIfS, dNext, dApp, dInsert, q_setI, q_setQ, q_take, dFor, dFreeze, dNever, q_par, q_parQ, q_par3, q_parQ3, dParNE, dParDE, gdName, q_gnil, q_gcons, q_gtup, dVar, dOwn, dC, d1, d2, n2, nCons, nNil, nLst, dTup, dFr, dTest, dAnd, dOr, dNot, dAndV, dOrV, dNotV, dIf, dChain, dCB, nCB, dCall, nCall, aDat, aBag, aNil, q_neg, q_add, q_addl, q_addt, q_sub, q_mul, q_mull, q_mult, q_fdiv, q_mod, q_pow, q_lt, q_le, q_gt, q_ge, eqD, neD, isD, isntD, q_isnn, q_isni, q_isnb, q_isnt, q_isnl, q_lenl, q_lent, q_inti, q_intb, q_max2, q_min2, q_listl, q_listt, q_tuplel, q_tuplet, q_sum, q_min, q_max, allD, itSeq, itR1, q_itR2, q_rng2, q_en, q_en1, q_zip, q_zipQ, q_seqr, q_lenr, q_ixr, q_seql, q_seqt, q_rvd, q_rvn, q_catn, q_ixl, q_ixt, q_sl, q_sll, q_slt, q_slr, nSlL, oNone, oSome, nLc, wipeD, q_dropc, q_dropxd, q_dropxb, q_dropxo, q_dropxn, q_drope, dYes, dCnt, q_revl, q_revt, q_revr, nListRg, dTupRg, exInts, exOpt, q_addr1, q_addrr, q_ixk0, q_ixk1, exRow, exTk, cntL, cntQ_some, cntQ_none, List.getElem?_cons_zero, List.getElem?_cons_succ, List.getElem?_nil, Option.some.injEq, SV.dat.injEq, SV.own.injEq, PyData.int.injEq, PyData.bool.injEq, PyData.tuple.injEq, PyData.list.injEq, PyData.str.injEq, RVd.new.injEq, RVd.dat.injEq, exists_eq_left, exists_eq_left', exists_eq_right, List.cons.injEq, List.set_cons_zero, List.set_cons_succ, reduceCtorEq, and_true, true_and, false_and, and_false, not_true_eq_false, not_false_eq_true, if_true, if_false, ite_true, ite_false, decide_eq_true_eq, Bool.not_eq_true', decide_eq_false_iff_not, Bool.and_true, Bool.true_and, Bool.and_false, Bool.false_and, Bool.not_true, Bool.not_false, Bool.false_eq_true, List.map_cons, List.map_nil, List.length_cons, List.length_nil, Nat.zero_add, Nat.reduceAdd, Nat.reduceLeDiff, startd, List.replicate_succ, List.replicate_zero, List.nil_append, List.cons_append, Nat.reduceSub, exists_const, and_self, shp_int, shp_none, shp_bool, eqv_int, dForL_nil, lcL_nil]
    by_cases hm : 0 < much
    · simp only [hm, decide_true, if_true, dSeq, dAsgG, dAsgN, dRet, dRetN, dRetO, dRet0, dDrop, dIfS, dNext, dApp, dInsert, q_setI, q_setQ, q_take, dFor, dFreeze, dNever, q_par, q_parQ, q_par3, q_parQ3, dParNE, dParDE, gdName, q_gnil, q_gcons, q_gtup, dVar, dOwn, dC, d1, d2, n2, nCons, nNil, nLst, dTup, dFr, dTest, dAnd, dOr, dNot, dAndV, dOrV, dNotV, dIf, dChain, dCB, nCB, dCall, nCall, aDat, aBag, aNil, q_neg, q_add, q_addl, q_addt, q_sub, q_mul, q_mull, q_mult, q_fdiv, q_mod, q_pow, q_lt, q_le, q_gt, q_ge, eqD, neD, isD, isntD, q_isnn, q_isni, q_isnb, q_isnt, q_isnl, q_lenl, q_lent, q_inti, q_intb, q_max2, q_min2, q_listl, q_listt, q_tuplel, q_tuplet, q_sum, q_min, q_max, allD, itSeq, itR1, q_itR2, q_rng2, q_en, q_en1, q_zip, q_zipQ, q_seqr, q_lenr, q_ixr, q_seql, q_seqt, q_rvd, q_rvn, q_catn, q_ixl, q_ixt, q_sl, q_sll, q_slt, q_slr, nSlL, oNone, oSome, nLc, wipeD, q_dropc, q_dropxd, q_dropxb, q_dropxo, q_dropxn, q_drope, dYes, dCnt, q_revl, q_revt, q_revr, nListRg, dTupRg, exInts, exOpt, q_addr1, q_addrr, q_ixk0, q_ixk1, exRow, exTk, cntL, cntQ_some, cntQ_none, List.getElem?_cons_zero, List.getElem?_cons_succ, List.getElem?_nil, Option.some.injEq, SV.dat.injEq, SV.own.injEq, PyData.int.injEq, PyData.bool.injEq, PyData.tuple.injEq, PyData.list.injEq, PyData.str.injEq, RVd.new.injEq, RVd.dat.injEq, exists_eq_left, exists_eq_left', exists_eq_right, List.cons.injEq, List.set_cons_zero, List.set_cons_succ, reduceCtorEq, and_true, true_and, false_and, and_false, not_true_eq_false, not_false_eq_true, if_true, if_false, ite_true, ite_false, decide_eq_true_eq, Bool.not_eq_true', decide_eq_false_iff_not, Bool.and_true, Bool.true_and, Bool.and_false, Bool.false_and, Bool.not_true, Bool.not_false, Bool.false_eq_true, List.map_cons, List.map_nil, List.length_cons, List.length_nil, Nat.zero_add, Nat.reduceAdd, Nat.reduceLeDiff, startd, List.replicate_succ, List.replicate_zero, List.nil_append, List.cons_append, Nat.reduceSub, exists_const, and_self, shp_int, shp_none, shp_bool, eqv_int, dForL_nil, lcL_nil]
      have hd : much / 1000 < much := by omega
      have hf : f ≤ 10 ^ 24 := by
        have : (f + 1) * 1 ≤ (f + 1) * much := Int.mul_le_mul_of_nonneg_left (by omega) (by omega)
        omega
      refine ⟨fun env' => ∃ r : Int, 0 ≤ r ∧ r < 1000 ∧ env' = [some .bag, some (.dat (.int many)), some (.dat (.int (1000 * f + r))), some (.dat (.int (much / 1000)))], fun env' ⟨r, r0, r1, e⟩ => ⟨(much / 1000).toNat, by omega, 1000 * f + r, much / 1000, e, by omega, by omega, ?_, by omega, rfl⟩, mul_small (by omega) (by omega), by decide, fun r r0 r1 => ⟨⟨by decide, by decide⟩, ⟨r, r0, r1, rfl⟩⟩⟩
      have e1 : (1000 * f + r + 1) * (much / 1000) ≤ (1000 * (f + 1)) * (much / 1000) := Int.mul_le_mul_of_nonneg_right (by omega) (by omega)
      have e2 : (1000 * (f + 1)) * (much / 1000) = (f + 1) * (1000 * (much / 1000)) := by rw [Int.mul_comm 1000, Int.mul_assoc]
      have e3 : (f + 1) * (1000 * (much / 1000)) ≤ (f + 1) * much := Int.mul_le_mul_of_nonneg_left (by omega) (by omega)
      omega
    · simp only [hm, decide_false, if_false, dSeq, dAsgG, dAsgN, dRet, dRetN, dRetO, dRet0, dDrop, dIfS, dNext, dApp, dInsert, q_setI, q_setQ, q_take, dFor, dFreeze, dNever, q_par, q_parQ, q_par3, q_parQ3, dParNE, dParDE, gdName, q_gnil, q_gcons, q_gtup, dVar, dOwn, dC, d1, d2, n2, nCons, nNil, nLst, dTup, dFr, dTest, dAnd, dOr, dNot, dAndV, dOrV, dNotV, dIf, dChain, dCB, nCB, dCall, nCall, aDat, aBag, aNil, q_neg, q_add, q_addl, q_addt, q_sub, q_mul, q_mull, q_mult, q_fdiv, q_mod, q_pow, q_lt, q_le, q_gt, q_ge, eqD, neD, isD, isntD, q_isnn, q_isni, q_isnb, q_isnt, q_isnl, q_lenl, q_lent, q_inti, q_intb, q_max2, q_min2, q_listl, q_listt, q_tuplel, q_tuplet, q_sum, q_min, q_max, allD, itSeq, itR1, q_itR2, q_rng2, q_en, q_en1, q_zip, q_zipQ, q_seqr, q_lenr, q_ixr, q_seql, q_seqt, q_rvd, q_rvn, q_catn, q_ixl, q_ixt, q_sl, q_sll, q_slt, q_slr, nSlL, oNone, oSome, nLc, wipeD, q_dropc, q_dropxd, q_dropxb, q_dropxo, q_dropxn, q_drope, dYes, dCnt, q_revl, q_revt, q_revr, nListRg, dTupRg, exInts, exOpt, q_addr1, q_addrr, q_ixk0, q_ixk1, exRow, exTk, cntL, cntQ_some, cntQ_none, List.getElem?_cons_zero, List.getElem?_cons_succ, List.getElem?_nil, Option.some.injEq, SV.dat.injEq, SV.own.injEq, PyData.int.injEq, PyData.bool.injEq, PyData.tuple.injEq, PyData.list.injEq, PyData.str.injEq, RVd.new.injEq, RVd.dat.injEq, exists_eq_left, exists_eq_left', exists_eq_right, List.cons.injEq, List.set_cons_zero, List.set_cons_succ, reduceCtorEq, and_true, true_and, false_and, and_false, not_true_eq_false, not_false_eq_true, if_true, if_false, ite_true, ite_false, decide_eq_true_eq, Bool.not_eq_true', decide_eq_false_iff_not, Bool.and_true, Bool.true_and, Bool.and_false, Bool.false_and, Bool.not_true, Bool.not_false, Bool.false_eq_true, List.map_cons, List.map_nil, List.length_cons, List.length_nil, Nat.zero_add, Nat.reduceAdd, Nat.reduceLeDiff, startd, List.replicate_succ, List.replicate_zero, List.nil_append, List.cons_append, Nat.reduceSub, exists_const, and_self, shp_int, shp_none, shp_bool, eqv_int, dForL_nil, lcL_nil]
      refine ⟨by omega, by omega, by decide, fun r r0 r1 => ?_⟩
      obtain ⟨z, hz, hp⟩ := pick4 (fun z => 0 ≤ z ∧ z < many) r0 r1 (a := f % many) (b := 0) (c := many - 1) (d := f % many) ⟨Int.emod_nonneg _ (by omega), Int.emod_lt_of_pos _ (by omega)⟩ (by omega) (by omega) ⟨Int.emod_nonneg _ (by omega), Int.emod_lt_of_pos _ (by omega)⟩
      exact ⟨_, hz, h z hp.1 hp.2⟩
  · exact h.elim
theorem len_law_far_draw (svs : List SV) (R : RVd → Prop) (h : sp_law_far_draw svs R) : svs.length = 2 := by
  unfold sp_law_far_draw at h
  split at h
  · rfl
  · exact h.elim
end Pd

set_option maxRecDepth 100000
set_option maxHeartbeats 4000000
/-! Plain mathematics: who, counts, piece by piece. -/
namespace Pd
open PySem L2
theorem emod_succ {x e : Int} (he : 0 < e) : (x % e + 1) % e = (x + 1) % e := by
  rw [Int.add_emod (x % e) 1, Int.emod_emod, ← Int.add_emod]
theorem ediv_succ_z {x e : Int} (he : 0 < e) (h : (x + 1) % e = 0) : (x + 1) / e = x / e + 1 := by
  have h1 := Int.mul_ediv_add_emod x e
  have h2 := Int.mul_ediv_add_emod (x + 1) e
  rw [h] at h2
  have r0 := Int.emod_nonneg x (by omega : e ≠ 0)
  have r1 := Int.emod_lt_of_pos x he
  generalize hq : x / e = q at *
  generalize hq' : (x + 1) / e = q' at *
  generalize x % e = r at *
  have e1 : e * q' = e * q + (r + 1) := by omega
  have e2 : e * (q' - q) = r + 1 := by rw [Int.mul_sub]; omega
  have h3 : 0 < q' - q := by
    refine Int.pos_of_mul_pos_right (a := e) ?_ he
    omega
  have h4 : q' - q < 2 := by
    refine Int.lt_of_mul_lt_mul_left (a := e) ?_ (Int.le_of_lt he)
    omega
  omega
theorem ediv_succ_n {x e : Int} (he : 0 < e) (h : (x + 1) % e ≠ 0) : (x + 1) / e = x / e := by
  have h1 := Int.mul_ediv_add_emod x e
  have r0 := Int.emod_nonneg x (by omega : e ≠ 0)
  have r1 := Int.emod_lt_of_pos x he
  have h2 : (x % e + 1) % e = (x + 1) % e := emod_succ he
  have hr : x % e + 1 < e := by
    rcases Int.lt_or_eq_of_le (show x % e + 1 ≤ e by omega) with z | z
    · exact z
    · exact absurd (by rw [← h2, z, Int.emod_self]) h
  have e1 : x + 1 = (x % e + 1) + e * (x / e) := by omega
  rw [e1, Int.add_mul_ediv_left _ _ (by omega), Int.ediv_eq_zero_of_lt (by omega) hr]
  omega
/-! ### what each has counted behind n pieces -/
def stG : List (Int × Int) → Int → List Int
  | [], _ => []
  | (e, c) :: rs, n => (c + n) % e :: stG rs (n - (n + c) / e)
theorem stG_len : ∀ (rs : List (Int × Int)) (n : Int), (stG rs n).length = rs.length
  | [], _ => rfl
  | (e, c) :: rs, n => by
    show (stG rs _).length + 1 = rs.length + 1
    rw [stG_len]
theorem piece_st : ∀ (rs : List (Int × Int)) (k n : Int), (∀ t ∈ rs, TkOk t) → pieceG k rs (stG rs n) = (whoG k rs (n + 1), stG rs (n + 1))
  | [], k, n, _ => rfl
  | (e, c) :: rs, k, n, ht => by
    obtain ⟨t1, t2, t3, t4⟩ := ht (e, c) List.mem_cons_self
    dsimp only at t1 t2 t3 t4
    have he : 0 < e := by omega
    have e0 : ((c + n) % e + 1) % e = (n + 1 + c) % e := by rw [emod_succ he]; congr 1; omega
    have e1 : n + 1 + c = (n + c) + 1 := by omega
    have e2 : (c + (n + 1)) % e = (n + 1 + c) % e := by congr 1; omega
    simp only [stG, pieceG, whoG, e0, e2]
    by_cases hz : (n + 1 + c) % e = 0
    · have hd : (n + 1 + c) / e = (n + c) / e + 1 := by
        rw [e1] at hz ⊢
        exact ediv_succ_z he hz
      simp only [hz, if_true, hd]
      rw [show n + 1 - ((n + c) / e + 1) = n - (n + c) / e by omega]
    · have hd : (n + 1 + c) / e = (n + c) / e := by
        rw [e1] at hz ⊢
        exact ediv_succ_n he hz
      simp only [hz, if_false, hd]
      rw [piece_st rs (k + 1) (n - (n + c) / e) fun t h => ht t (List.mem_cons_of_mem _ h)]
      rw [show n + 1 - (n + c) / e = n - (n + c) / e + 1 by omega]
theorem stG_zero : ∀ (rs : List (Int × Int)), (∀ t ∈ rs, TkOk t) → stG rs 0 = rs.map (·.2)
  | [], _ => rfl
  | (e, c) :: rs, ht => by
    obtain ⟨t1, t2, t3, t4⟩ := ht (e, c) List.mem_cons_self
    dsimp only at t1 t2 t3 t4
    show (c + 0) % e :: stG rs (0 - (0 + c) / e) = c :: rs.map (·.2)
    rw [Int.zero_add, Int.add_zero, Int.ediv_eq_zero_of_lt t3 t4, Int.emod_eq_of_lt t3 t4, show (0 : Int) - 0 = 0 by omega, stG_zero rs fun t h => ht t (List.mem_cons_of_mem _ h)]
/-- who takes the pieces from n on -/
def seenF (rs : List (Int × Int)) (n : Int) : Nat → List (Option Int)
  | 0 => []
  | m + 1 => whoG 0 rs (n + 1) :: seenF rs (n + 1) m
theorem gone_st {rs : List (Int × Int)} (ht : ∀ t ∈ rs, TkOk t) : ∀ (m : Nat) (n : Int), goneG rs (stG rs n) m = (seenF rs n m, stG rs (n + (m : Nat)))
  | 0, n => by simp [goneG, seenF]
  | m + 1, n => by
    simp only [goneG, piece_st rs 0 n ht, gone_st ht m (n + 1), seenF]
    rw [show n + 1 + (m : Nat) = n + ((m + 1 : Nat) : Int) by omega]
theorem gone_eq {rs : List (Int × Int)} (ht : ∀ t ∈ rs, TkOk t) (m : Nat) : goneG rs (rs.map (·.2)) m = (seenF rs 0 m, stG rs (m : Nat)) := by
  rw [← stG_zero rs ht, gone_st ht, Int.zero_add]
theorem seenF_len (rs : List (Int × Int)) : ∀ (m : Nat) (n : Int), (seenF rs n m).length = m
  | 0, _ => rfl
  | m + 1, n => by
    show (seenF rs (n + 1) m).length + 1 = m + 1
    rw [seenF_len]
theorem seenF_get (rs : List (Int × Int)) : ∀ (m : Nat) (n : Int) (i : Nat), i < m → (seenF rs n m)[i]? = some (whoG 0 rs (n + 1 + (i : Nat)))
  | 0, _, _, h => by omega
  | m + 1, n, 0, _ => by simp [seenF]
  | m + 1, n, i + 1, h => by
    show (seenF rs (n + 1) m)[i]? = _
    rw [seenF_get rs m (n + 1) i (by omega), show n + 1 + 1 + (i : Nat) = n + 1 + ((i + 1 : Nat) : Int) by omega]
theorem seenF_take (rs : List (Int × Int)) : ∀ (m : Nat) (n : Int) (k : Nat), k ≤ m → (seenF rs n m).take k = seenF rs n k
  | m, n, 0, _ => by simp [seenF]
  | 0, n, k + 1, h => by omega
  | m + 1, n, k + 1, h => by
    show whoG 0 rs (n + 1) :: (seenF rs (n + 1) m).take k = whoG 0 rs (n + 1) :: seenF rs (n + 1) k
    rw [seenF_take rs m (n + 1) k (by omega)]
theorem seenF_succ (rs : List (Int × Int)) : ∀ (m : Nat) (n : Int), seenF rs n (m + 1) = seenF rs n m ++ [whoG 0 rs (n + 1 + (m : Nat))]
  | 0, n => by simp [seenF]
  | m + 1, n => by
    show whoG 0 rs (n + 1) :: seenF rs (n + 1) (m + 1) = whoG 0 rs (n + 1) :: (seenF rs (n + 1) m ++ _)
    rw [seenF_succ rs m (n + 1), show n + 1 + 1 + (m : Nat) = n + 1 + ((m + 1 : Nat) : Int) by omega]
/-! ### numbers grow where somebody takes -/
def addO : Int → List Int → Option Int → List Int
  | _, [], _ => []
  | _, [x], o => [if o = none then x + 1 else x]
  | k, x :: y :: r, o => (if o = some k then x + 1 else x) :: addO (k + 1) (y :: r) o
theorem whoG_ge : ∀ (rs : List (Int × Int)) (k p j : Int), whoG k rs p = some j → k ≤ j ∧ j < k + (rs.length : Nat)
  | [], k, p, j, h => by cases h
  | (e, c) :: rs, k, p, j, h => by
    unfold whoG at h
    split at h
    · cases h
      simp
      omega
    · have := whoG_ge rs (k + 1) _ j h
      simp
      omega
theorem addO_lt : ∀ (l : List Int) (k j : Int), j < k → addO k l (some j) = l
  | [], _, _, _ => rfl
  | [x], k, j, _ => by simp [addO]
  | x :: y :: r, k, j, h => by
    unfold addO
    rw [addO_lt (y :: r) (k + 1) j (by omega), if_neg (by intro z; cases z; omega)]
theorem countsG_ne (rs : List (Int × Int)) (n : Int) : ∃ y r, countsG rs n = y :: r := by
  cases rs with
  | nil => exact ⟨n, [], rfl⟩
  | cons t rs =>
    obtain ⟨e, c⟩ := t
    exact ⟨_, _, rfl⟩
theorem countsG_len : ∀ (rs : List (Int × Int)) (n : Int), (countsG rs n).length = rs.length + 1
  | [], _ => rfl
  | (e, c) :: rs, n => by
    show (countsG rs _).length + 1 = rs.length + 1 + 1
    rw [countsG_len]
theorem counts_succ : ∀ (rs : List (Int × Int)) (k n : Int), (∀ t ∈ rs, TkOk t) → countsG rs (n + 1) = addO k (countsG rs n) (whoG k rs (n + 1))
  | [], k, n, _ => by simp [countsG, whoG, addO]
  | (e, c) :: rs, k, n, ht => by
    obtain ⟨t1, t2, t3, t4⟩ := ht (e, c) List.mem_cons_self
    dsimp only at t1 t2 t3 t4
    have he : 0 < e := by omega
    have e1 : n + 1 + c = (n + c) + 1 := by omega
    have ht' : ∀ t ∈ rs, TkOk t := fun t h => ht t (List.mem_cons_of_mem _ h)
    simp only [countsG, whoG]
    obtain ⟨y, r, hy⟩ := countsG_ne rs (n - (n + c) / e)
    by_cases hz : (n + 1 + c) % e = 0
    · have hd : (n + 1 + c) / e = (n + c) / e + 1 := by
        rw [e1] at hz ⊢
        exact ediv_succ_z he hz
      simp only [hz, if_true, hd]
      rw [show n + 1 - ((n + c) / e + 1) = n - (n + c) / e by omega, hy]
      show _ = (if some k = some k then _ else _) :: addO (k + 1) (y :: r) (some k)
      rw [if_pos rfl, addO_lt _ _ _ (by omega)]
    · have hd : (n + 1 + c) / e = (n + c) / e := by
        rw [e1] at hz ⊢
        exact ediv_succ_n he hz
      simp only [hz, if_false, hd]
      rw [show n + 1 - (n + c) / e = n - (n + c) / e + 1 by omega, counts_succ rs (k + 1) _ ht', hy]
      show _ = (if whoG (k + 1) rs (n - (n + c) / e + 1) = some k then _ else _) :: addO (k + 1) (y :: r) _
      rw [if_neg fun z => by
        have := (whoG_ge rs (k + 1) _ k z).1
        omega]
theorem counts_zero : ∀ (rs : List (Int × Int)), (∀ t ∈ rs, TkOk t) → countsG rs 0 = List.replicate (rs.length + 1) 0
  | [], _ => rfl
  | (e, c) :: rs, ht => by
    obtain ⟨t1, t2, t3, t4⟩ := ht (e, c) List.mem_cons_self
    dsimp only at t1 t2 t3 t4
    show (0 + c) / e :: countsG rs (0 - (0 + c) / e) = _
    rw [Int.zero_add, Int.ediv_eq_zero_of_lt t3 t4, show (0 : Int) - 0 = 0 by omega, counts_zero rs fun t h => ht t (List.mem_cons_of_mem _ h)]
    rfl
def numFrom (k : Int) : Nat → List (Option Int) → List Int
  | 0, os => [((os.count none : Nat) : Int)]
  | n + 1, os => ((os.count (some k) : Nat) : Int) :: numFrom (k + 1) n os
theorem numFrom_eq : ∀ (n : Nat) (k : Int) (os : List (Option Int)), numFrom k n os = ((List.range n).map fun (i : Nat) => ((os.count (some (k + ((i : Nat) : Int))) : Nat) : Int)) ++ [((os.count none : Nat) : Int)]
  | 0, _, _ => rfl
  | n + 1, k, os => by
    unfold numFrom
    rw [numFrom_eq n (k + 1) os, List.range_succ_eq_map, List.map_cons, List.map_map]
    simp only [List.cons_append, List.cons.injEq]
    refine ⟨by simp, ?_⟩
    congr 1
    refine List.map_congr_left fun i _ => ?_
    show ((os.count (some (k + 1 + ((i : Nat) : Int))) : Nat) : Int) = ((os.count (some (k + ((i + 1 : Nat) : Int))) : Nat) : Int)
    rw [show k + 1 + ((i : Nat) : Int) = k + ((i + 1 : Nat) : Int) by omega]
theorem numbers_from (n : Nat) (os : List (Option Int)) : numbersG n os = numFrom 0 n os := by
  rw [numFrom_eq]
  unfold numbersG
  congr 1
  refine List.map_congr_left fun i _ => ?_
  rw [Int.zero_add]
theorem numFrom_add : ∀ (n : Nat) (k : Int) (os : List (Option Int)) (o : Option Int), (∀ j, o = some j → j < k + (n : Nat)) → numFrom k n (os ++ [o]) = addO k (numFrom k n os) o
  | 0, k, os, o, h => by
    show [(((os ++ [o]).count none : Nat) : Int)] = [if o = none then ((os.count none : Nat) : Int) + 1 else ((os.count none : Nat) : Int)]
    rw [List.count_append]
    cases o with
    | none => simp
    | some j => simp
  | n + 1, k, os, o, h => by
    have hne : ∃ y r, numFrom (k + 1) n os = y :: r := by
      cases n with
      | zero => exact ⟨_, _, rfl⟩
      | succ n => exact ⟨_, _, rfl⟩
    obtain ⟨y, r, hy⟩ := hne
    unfold numFrom
    rw [numFrom_add n (k + 1) os o (fun j hj => by have := h j hj; omega), hy]
    show _ = (if o = some k then _ else _) :: addO (k + 1) (y :: r) o
    rw [List.count_append]
    congr 1
    by_cases ho : o = some k
    · rw [if_pos ho, ho]
      simp
    · rw [if_neg ho]
      have : List.count (some k) [o] = 0 := List.count_eq_zero.mpr (by simpa using fun z => ho z.symm)
      rw [this]
      simp
theorem counts_numbers {rs : List (Int × Int)} (ht : ∀ t ∈ rs, TkOk t) : ∀ m : Nat, countsG rs (m : Nat) = numbersG rs.length (seenF rs 0 m)
  | 0 => by
    rw [show ((0 : Nat) : Int) = 0 from rfl, counts_zero rs ht, numbers_from]
    show _ = numFrom 0 rs.length []
    rw [numFrom_eq]
    rw [List.replicate_succ']
    congr 1
    refine (List.eq_replicate_iff.mpr ⟨by simp, fun b hb => ?_⟩).symm
    obtain ⟨i, _, rfl⟩ := List.mem_map.mp hb
    rfl
  | m + 1 => by
    rw [show ((m + 1 : Nat) : Int) = (m : Int) + 1 by omega, counts_succ rs 0 _ ht, counts_numbers ht m, seenF_succ, numbers_from, numbers_from, Int.zero_add]
    rw [numFrom_add]
    · rw [Int.add_comm 1 (m : Int)]
    · intro j hj
      have := (whoG_ge rs 0 _ j hj).2
      omega
/-! ### slices -/
theorem cut_to (ds : List PyData) (m : Nat) : cutD ds none (some (m : Int)) = ds.take m := by
  unfold cutD
  rw [HT.sIx_none, HT.sIx_nat, List.drop_zero, Nat.sub_zero]
  rcases Nat.le_total m ds.length with h | h
  · rw [Nat.min_eq_left h]
  · rw [Nat.min_eq_right h, List.take_of_length_le (Nat.le_refl _), List.take_of_length_le h]
theorem cut_from (ds : List PyData) (m : Nat) : cutD ds (some (m : Int)) none = ds.drop m := by
  unfold cutD
  rw [HT.sIx_none, HT.sIx_nat]
  rcases Nat.le_total m ds.length with h | h
  · rw [Nat.min_eq_left h, List.take_of_length_le (by rw [List.length_drop]; exact Nat.le_refl _)]
  · rw [Nat.min_eq_right h, List.drop_of_length_le (Nat.le_refl _), List.drop_of_length_le h]
    simp
theorem cut_last (ds : List PyData) (x : PyData) : cutD (ds ++ [x]) none (some (-1)) = ds := by
  unfold cutD
  rw [HT.sIx_none, List.drop_zero, Nat.sub_zero]
  have : HT.sIx (ds ++ [x]).length (ds ++ [x]).length (some (-1)) = ds.length := by
    show (if (-1 : Int) < 0 then ((-1 : Int) + ((ds ++ [x]).length : Int)).toNat else min (-1 : Int).toNat (ds ++ [x]).length) = _
    rw [if_pos (by decide), List.length_append, List.length_singleton]
    omega
  rw [this, List.take_left]
end Pd

set_option maxRecDepth 100000
set_option maxHeartbeats 4000000
/-! Plain mathematics: the piece that is somebody's so-manieth. -/
namespace Pd
open PySem L2
def lfG (t : Int × Int) (n : Int) : Int := n - (n + t.2) / t.1
def leftG : List (Int × Int) → Int → Int
  | [], n => n
  | t :: rs, n => leftG rs (lfG t n)
theorem ediv_of {x e q s : Int} (he : 0 < e) (h : x = e * q + s) (h0 : 0 ≤ s) (h1 : s < e) : x / e = q ∧ x % e = s := by
  have e1 : x = s + e * q := by omega
  constructor
  · rw [e1, Int.add_mul_ediv_left _ _ (by omega), Int.ediv_eq_zero_of_lt h0 h1, Int.zero_add]
  · rw [e1, Int.add_mul_emod_self_left, Int.emod_eq_of_lt h0 h1]
/-- the m-th piece that a taker lets by -/
theorem up_facts {t : Int × Int} (h : TkOk t) {m : Int} (hm : 1 ≤ m) : lfG t (upG t m) = m ∧ lfG t (upG t m - 1) = m - 1 ∧ (upG t m + t.2) % t.1 ≠ 0 ∧ m ≤ upG t m := by
  obtain ⟨e, c⟩ := t
  obtain ⟨t1, t2, t3, t4⟩ := h
  dsimp only at t1 t2 t3 t4
  unfold lfG upG
  dsimp only
  have h1 := Int.mul_ediv_add_emod (m + c - 1) (e - 1)
  have r0 := Int.emod_nonneg (m + c - 1) (by omega : e - 1 ≠ 0)
  have r1 := Int.emod_lt_of_pos (m + c - 1) (by omega : 0 < e - 1)
  have q0 : 0 ≤ (m + c - 1) / (e - 1) := Int.ediv_nonneg (by omega) (by omega)
  generalize (m + c - 1) / (e - 1) = q at *
  generalize (m + c - 1) % (e - 1) = r at *
  have e1 : (e - 1) * q = e * q - q := by rw [Int.sub_mul, Int.one_mul]
  obtain ⟨d1, d2⟩ := ediv_of (x := m + c + q - c + c) (e := e) (q := q) (s := r + 1) (by omega) (by omega) (by omega) (by omega)
  obtain ⟨d3, d4⟩ := ediv_of (x := m + c + q - c - 1 + c) (e := e) (q := q) (s := r) (by omega) (by omega) (by omega) (by omega)
  rw [d1, d2, d3]
  omega
theorem up_lf {t : Int × Int} (h : TkOk t) {p : Int} (hp : (p + t.2) % t.1 ≠ 0) : upG t (lfG t p) = p := by
  obtain ⟨e, c⟩ := t
  obtain ⟨t1, t2, t3, t4⟩ := h
  dsimp only at t1 t2 t3 t4 hp
  unfold lfG upG
  dsimp only
  have h1 := Int.mul_ediv_add_emod (p + c) e
  have r0 := Int.emod_nonneg (p + c) (by omega : e ≠ 0)
  have r1 := Int.emod_lt_of_pos (p + c) (by omega : 0 < e)
  generalize (p + c) / e = q at *
  generalize (p + c) % e = r at *
  have e1 : (e - 1) * q = e * q - q := by rw [Int.sub_mul, Int.one_mul]
  obtain ⟨d1, d2⟩ := ediv_of (x := p - q + c - 1) (e := e - 1) (q := q) (s := r - 1) (by omega) (by omega) (by omega) (by omega)
  rw [d1]
  omega
theorem up_lt {t : Int × Int} (h : TkOk t) {m m' : Int} (hm : m < m') : upG t m < upG t m' := by
  obtain ⟨e, c⟩ := t
  obtain ⟨t1, t2, t3, t4⟩ := h
  dsimp only at t1 t2 t3 t4
  unfold upG
  dsimp only
  have := Int.ediv_le_ediv (a := m + c - 1) (b := m' + c - 1) (c := e - 1) (by omega) (by omega)
  omega
theorem came_lt : ∀ {rs : List (Int × Int)} (ht : ∀ t ∈ rs, TkOk t) {m m' : Int}, m < m' → cameG rs m < cameG rs m'
  | [], _, m, m', h => h
  | t :: rs, ht, m, m', h => up_lt (ht t List.mem_cons_self) (came_lt (fun t h => ht t (List.mem_cons_of_mem _ h)) h)
theorem came_facts : ∀ (rs : List (Int × Int)) (k : Int) (ht : ∀ t ∈ rs, TkOk t) {m : Int}, 1 ≤ m → leftG rs (cameG rs m) = m ∧ leftG rs (cameG rs m - 1) = m - 1 ∧ whoG k rs (cameG rs m) = none ∧ m ≤ cameG rs m
  | [], k, _, m, _ => ⟨rfl, rfl, rfl, Int.le_refl m⟩
  | t :: rs, k, ht, m, hm => by
    have ht' : ∀ t ∈ rs, TkOk t := fun t h => ht t (List.mem_cons_of_mem _ h)
    obtain ⟨a1, a2, a3, a4⟩ := came_facts rs (k + 1) ht' hm
    obtain ⟨b1, b2, b3, b4⟩ := up_facts (ht t List.mem_cons_self) (m := cameG rs m) (by omega)
    refine ⟨?_, ?_, ?_, ?_⟩
    · show leftG rs (lfG t (upG t (cameG rs m))) = m
      rw [b1, a1]
    · show leftG rs (lfG t (upG t (cameG rs m) - 1)) = m - 1
      rw [b2, a2]
    · obtain ⟨e, c⟩ := t
      show (if (upG (e, c) (cameG rs m) + c) % e = 0 then some k else whoG (k + 1) rs (lfG (e, c) (upG (e, c) (cameG rs m)))) = none
      rw [if_neg b3, b1, a3]
    · show m ≤ upG t (cameG rs m)
      omega
theorem came_left : ∀ (rs : List (Int × Int)) (k : Int) (ht : ∀ t ∈ rs, TkOk t) {p : Int}, whoG k rs p = none → cameG rs (leftG rs p) = p
  | [], _, _, p, _ => rfl
  | (e, c) :: rs, k, ht, p, h => by
    have h' : (if (p + c) % e = 0 then some k else whoG (k + 1) rs (lfG (e, c) p)) = none := h
    by_cases hz : (p + c) % e = 0
    · rw [if_pos hz] at h'
      cases h'
    · rw [if_neg hz] at h'
      show upG (e, c) (cameG rs (leftG rs (lfG (e, c) p))) = p
      rw [came_left rs (k + 1) (fun t h => ht t (List.mem_cons_of_mem _ h)) h']
      exact up_lf (ht (e, c) List.mem_cons_self) hz
theorem who_app : ∀ (pre : List (Int × Int)) (k : Int) (post : List (Int × Int)) {p : Int}, whoG k pre p = none → whoG k (pre ++ post) p = whoG (k + (pre.length : Nat)) post (leftG pre p)
  | [], k, post, p, _ => by
    show whoG k post p = whoG (k + ((0 : Nat) : Int)) post p
    rw [show k + ((0 : Nat) : Int) = k by omega]
  | (e, c) :: pre, k, post, p, h => by
    have h' : (if (p + c) % e = 0 then some k else whoG (k + 1) pre (lfG (e, c) p)) = none := h
    show (if (p + c) % e = 0 then some k else whoG (k + 1) (pre ++ post) (lfG (e, c) p)) = whoG (k + ((pre.length + 1 : Nat) : Int)) post (leftG pre (lfG (e, c) p))
    by_cases hz : (p + c) % e = 0
    · rw [if_pos hz] at h'
      cases h'
    · rw [if_neg hz] at h'
      rw [if_neg hz, who_app pre (k + 1) post h', show k + 1 + (pre.length : Nat) = k + ((pre.length + 1 : Nat) : Int) by omega]
theorem who_some : ∀ (rs : List (Int × Int)) (k : Int) {p : Int} {j : Int}, whoG k rs p = some j → ∃ (pre : List (Int × Int)) (t : Int × Int) (post : List (Int × Int)), rs = pre ++ t :: post ∧ j = k + (pre.length : Nat) ∧ whoG k pre p = none ∧ (leftG pre p + t.2) % t.1 = 0
  | [], k, p, j, h => by cases h
  | (e, c) :: rs, k, p, j, h => by
    have h' : (if (p + c) % e = 0 then some k else whoG (k + 1) rs (lfG (e, c) p)) = some j := h
    by_cases hz : (p + c) % e = 0
    · rw [if_pos hz] at h'
      cases h'
      exact ⟨[], (e, c), rs, rfl, by simp, rfl, hz⟩
    · rw [if_neg hz] at h'
      obtain ⟨pre, t, post, rfl, rfl, h1, h2⟩ := who_some rs (k + 1) h'
      refine ⟨(e, c) :: pre, t, post, rfl, ?_, ?_, h2⟩
      · rw [List.length_cons]
        omega
      · show (if (p + c) % e = 0 then some k else whoG (k + 1) pre (lfG (e, c) p)) = none
        rw [if_neg hz, h1]
/-! ### how many at a place -/
theorem counts_app : ∀ (pre : List (Int × Int)) (post : List (Int × Int)) (n : Int), (countsG (pre ++ post) n)[pre.length]? = (countsG post (leftG pre n))[0]?
  | [], post, n => rfl
  | (e, c) :: pre, post, n => by
    show (countsG (pre ++ post) (lfG (e, c) n))[pre.length]? = (countsG post (leftG pre (lfG (e, c) n)))[0]?
    rw [counts_app pre post _]
theorem counts_mid (pre : List (Int × Int)) (t : Int × Int) (post : List (Int × Int)) (n : Int) : (countsG (pre ++ t :: post) n)[pre.length]? = some ((leftG pre n + t.2) / t.1) := by
  rw [counts_app]
  rfl
theorem counts_end (rs : List (Int × Int)) (n : Int) : (countsG rs n)[rs.length]? = some (leftG rs n) := by
  have := counts_app rs [] n
  rw [List.append_nil] at this
  rw [this]
  rfl
/-- at which place -/
def atO (rs : List (Int × Int)) : Option Int → Int
  | none => (rs.length : Nat)
  | some j => j
/-- the piece that is somebody's so-manieth: who, how many, how many just ahead -/
theorem piece_facts {rs : List (Int × Int)} (ht : ∀ t ∈ rs, TkOk t) {o : Option Int} (ho : InRow rs o) {n : Int} (hn : 1 ≤ n) :
    1 ≤ pieceOfG rs o n ∧ whoG 0 rs (pieceOfG rs o n) = o ∧ atI (countsG rs (pieceOfG rs o n)) (atO rs o) = some n ∧ atI (countsG rs (pieceOfG rs o n - 1)) (atO rs o) = some (n - 1) := by
  cases o with
  | none =>
    obtain ⟨a1, a2, a3, a4⟩ := came_facts rs 0 ht hn
    show 1 ≤ cameG rs n ∧ whoG 0 rs (cameG rs n) = none ∧ atI (countsG rs (cameG rs n)) ((rs.length : Nat) : Int) = some n ∧ atI (countsG rs (cameG rs n - 1)) ((rs.length : Nat) : Int) = some (n - 1)
    exact ⟨by omega, a3, atI_nat (by rw [counts_end, a1]), atI_nat (by rw [counts_end, a2])⟩
  | some j =>
    obtain ⟨j0, j1⟩ := ho j rfl
    obtain ⟨k, rfl⟩ : ∃ k : Nat, j = (k : Int) := ⟨j.toNat, by omega⟩
    have hk : k < rs.length := by omega
    obtain ⟨t, et⟩ : ∃ t, rs[k]? = some t := ⟨_, List.getElem?_eq_getElem hk⟩
    obtain ⟨t1, t2, t3, t4⟩ := ht t (List.mem_of_getElem? et)
    have es : rs = rs.take k ++ t :: rs.drop (k + 1) := by
      conv => lhs; rw [← List.take_append_drop k rs]
      congr 1
      rw [List.drop_eq_getElem_cons hk]
      congr 1
      rw [List.getElem?_eq_getElem hk] at et
      exact Option.some.inj et
    have hl : (rs.take k).length = k := by rw [List.length_take]; omega
    rw [pieceOfG_some et]
    have hm : 1 ≤ n * t.1 - t.2 := by
      have : 1 * t.1 ≤ n * t.1 := Int.mul_le_mul_of_nonneg_right hn (by omega)
      omega
    obtain ⟨a1, a2, a3, a4⟩ := came_facts (rs.take k) 0 (take_ok ht k) hm
    generalize hp : cameG (rs.take k) (n * t.1 - t.2) = p at *
    have at_ : ∀ q : Int, atI (countsG rs q) (atO rs (some (k : Int))) = some ((leftG (rs.take k) q + t.2) / t.1) := fun q => by
      refine atI_nat (j := k) ?_
      have := counts_mid (rs.take k) t (rs.drop (k + 1)) q
      rw [← es, hl] at this
      exact this
    refine ⟨by omega, ?_, ?_, ?_⟩
    · have := who_app (rs.take k) 0 (t :: rs.drop (k + 1)) a3
      rw [← es, a1, hl] at this
      rw [this]
      obtain ⟨e, c⟩ := t
      show (if (n * e - c + c) % e = 0 then some (0 + (k : Int)) else _) = some (k : Int)
      rw [if_pos (by rw [Int.sub_add_cancel, Int.mul_emod_left]), Int.zero_add]
    · rw [at_, a1, Int.sub_add_cancel, Int.mul_ediv_cancel _ (by omega)]
    · rw [at_, a2]
      have := (ediv_of (x := n * t.1 - t.2 - 1 + t.2) (e := t.1) (q := n - 1) (s := t.1 - 1) (by omega) (by rw [Int.mul_comm n, Int.mul_sub]; omega) (by omega) (by omega)).1
      rw [this]
theorem piece_lt {rs : List (Int × Int)} (ht : ∀ t ∈ rs, TkOk t) {o : Option Int} (ho : InRow rs o) {n : Int} : pieceOfG rs o n < pieceOfG rs o (n + 1) := by
  cases o with
  | none => exact came_lt ht (by omega)
  | some j =>
    obtain ⟨j0, j1⟩ := ho j rfl
    obtain ⟨k, rfl⟩ : ∃ k : Nat, j = (k : Int) := ⟨j.toNat, by omega⟩
    obtain ⟨t, et⟩ : ∃ t, rs[k]? = some t := ⟨_, List.getElem?_eq_getElem (by omega)⟩
    obtain ⟨t1, t2, t3, t4⟩ := ht t (List.mem_of_getElem? et)
    rw [pieceOfG_some et, pieceOfG_some et]
    refine came_lt (take_ok ht k) ?_
    rw [Int.add_mul, Int.one_mul]
    omega
theorem who_in {rs : List (Int × Int)} {p : Int} : InRow rs (whoG 0 rs p) := fun j h => by
  have := whoG_ge rs 0 p j h
  omega
/-- and there is no other piece -/
theorem piece_back {rs : List (Int × Int)} (ht : ∀ t ∈ rs, TkOk t) {p n : Int} (h : atI (countsG rs p) (atO rs (whoG 0 rs p)) = some n) : pieceOfG rs (whoG 0 rs p) n = p := by
  cases hw : whoG 0 rs p with
  | none =>
    rw [hw] at h
    have h' : atI (countsG rs p) ((rs.length : Nat) : Int) = some n := h
    rw [atI_nat (counts_end rs p)] at h'
    cases h'
    exact came_left rs 0 ht hw
  | some j =>
    rw [hw] at h
    obtain ⟨pre, t, post, rfl, rfl, h1, h2⟩ := who_some rs 0 hw
    have h' : atI (countsG (pre ++ t :: post) p) (0 + (pre.length : Nat)) = some n := h
    rw [Int.zero_add] at h' ⊢
    rw [atI_nat (counts_mid pre t post p)] at h'
    cases h'
    have et : (pre ++ t :: post)[pre.length]? = some t := by simp
    have ht' : ∀ t ∈ pre, TkOk t := fun u hu => ht u (List.mem_append_left _ hu)
    have hm := Int.mul_ediv_add_emod (leftG pre p + t.2) t.1
    rw [h2] at hm
    rw [pieceOfG_some et, List.take_left, Int.mul_comm, show t.1 * ((leftG pre p + t.2) / t.1) - t.2 = leftG pre p by omega]
    exact came_left pre 0 ht' h1
/-! ### sums, and none below nought -/
theorem counts_sum : ∀ (rs : List (Int × Int)) (n : Int), (countsG rs n).sum = n
  | [], n => by simp [countsG]
  | (e, c) :: rs, n => by
    show ((n + c) / e :: countsG rs (n - (n + c) / e)).sum = n
    rw [List.sum_cons, counts_sum rs]
    omega
theorem lf_nonneg {t : Int × Int} (h : TkOk t) {n : Int} (hn : 0 ≤ n) : 0 ≤ (n + t.2) / t.1 ∧ 0 ≤ lfG t n := by
  obtain ⟨e, c⟩ := t
  obtain ⟨t1, t2, t3, t4⟩ := h
  dsimp only at t1 t2 t3 t4
  unfold lfG
  dsimp only
  have h1 := Int.mul_ediv_add_emod (n + c) e
  have r0 := Int.emod_nonneg (n + c) (by omega : e ≠ 0)
  have q0 : 0 ≤ (n + c) / e := Int.ediv_nonneg (by omega) (by omega)
  generalize (n + c) / e = q at *
  refine ⟨q0, ?_⟩
  rcases Int.lt_or_eq_of_le q0 with hq | hq
  · have : e * 1 ≤ e * q := Int.mul_le_mul_of_nonneg_left hq (by omega)
    have e1 : (e - 1) * q = e * q - q := by rw [Int.sub_mul, Int.one_mul]
    have e2 : (e - 1) * 1 ≤ (e - 1) * q := Int.mul_le_mul_of_nonneg_left hq (by omega)
    omega
  · omega
theorem counts_nonneg : ∀ (rs : List (Int × Int)) (ht : ∀ t ∈ rs, TkOk t) {n : Int}, 0 ≤ n → ∀ y ∈ countsG rs n, 0 ≤ y
  | [], _, n, hn, y, hy => by
    have : y = n := by simpa [countsG] using hy
    omega
  | (e, c) :: rs, ht, n, hn, y, hy => by
    obtain ⟨h1, h2⟩ := lf_nonneg (ht (e, c) List.mem_cons_self) hn
    rcases List.mem_cons.mp (show y ∈ (n + c) / e :: countsG rs (lfG (e, c) n) from hy) with rfl | hy
    · exact h1
    · exact counts_nonneg rs (fun t h => ht t (List.mem_cons_of_mem _ h)) h2 y hy
def bumpG (a : Int) : Int → List Int → List Int
  | _, [] => []
  | k, x :: xs => (x + (if k = a then 1 else 0)) :: bumpG a (k + 1) xs
theorem bump_id (a : Int) : ∀ (l : List Int) (k : Int), a < k → bumpG a k l = l
  | [], _, _ => rfl
  | x :: xs, k, h => by
    show (x + (if k = a then 1 else 0)) :: bumpG a (k + 1) xs = _
    rw [bump_id a xs (k + 1) (by omega), if_neg (by omega), Int.add_zero]
theorem addO_bump : ∀ (l : List Int) (k : Int) (o : Option Int), (∀ j, o = some j → j < k + (l.length : Nat) - 1) → addO k l o = bumpG (match o with | none => k + (l.length : Nat) - 1 | some j => j) k l
  | [], _, _, _ => rfl
  | [x], k, none, h => by
    show [x + 1] = [x + (if k = k + ((1 : Nat) : Int) - 1 then 1 else 0)]
    rw [if_pos (by omega)]
  | [x], k, some j, h => by
    have := h j rfl
    show [x] = [x + (if k = j then 1 else 0)]
    have hl : (([x] : List Int).length : Int) = 1 := rfl
    rw [if_neg (by omega), Int.add_zero]
  | x :: y :: r, k, o, h => by
    have hl : ((x :: y :: r : List Int).length : Int) = ((y :: r : List Int).length : Int) + 1 := by simp
    have ih := addO_bump (y :: r) (k + 1) o (fun j hj => by have := h j hj; omega)
    cases o with
    | none =>
      show x :: addO (k + 1) (y :: r) none = (x + (if k = k + ((x :: y :: r : List Int).length : Nat) - 1 then 1 else 0)) :: bumpG _ (k + 1) (y :: r)
      have hp : ((y :: r : List Int).length : Int) = (r.length : Int) + 1 := by simp
      rw [ih, if_neg (by omega), Int.add_zero]
      show x :: bumpG (k + 1 + ((y :: r : List Int).length : Nat) - 1) (k + 1) (y :: r) = x :: bumpG (k + ((x :: y :: r : List Int).length : Nat) - 1) (k + 1) (y :: r)
      rw [show k + 1 + ((y :: r : List Int).length : Nat) - 1 = k + ((x :: y :: r : List Int).length : Nat) - 1 by omega]
    | some j =>
      show (if some j = some k then x + 1 else x) :: addO (k + 1) (y :: r) (some j) = (x + (if k = j then 1 else 0)) :: bumpG j (k + 1) (y :: r)
      rw [ih]
      by_cases hj : j = k
      · subst hj
        rw [if_pos rfl, if_pos rfl]
      · rw [if_neg (by intro z; cases z; exact hj rfl), if_neg (fun z => hj z.symm), Int.add_zero]
theorem counts_bump {rs : List (Int × Int)} (ht : ∀ t ∈ rs, TkOk t) (n : Int) : countsG rs n = bumpG (atO rs (whoG 0 rs n)) 0 (countsG rs (n - 1)) := by
  have h := counts_succ rs 0 (n - 1) ht
  rw [Int.sub_add_cancel] at h
  rw [h, addO_bump _ _ _ fun j hj => by
    have := (whoG_ge rs 0 _ j hj).2
    rw [countsG_len]
    omega]
  cases whoG 0 rs n with
  | none =>
    show bumpG (0 + ((countsG rs (n - 1)).length : Nat) - 1) 0 _ = bumpG ((rs.length : Nat) : Int) 0 _
    rw [countsG_len, show (0 : Int) + ((rs.length + 1 : Nat) : Int) - 1 = ((rs.length : Nat) : Int) by omega]
  | some j => rfl
theorem bump_at : ∀ (l : List Int) (a k : Int), k ≤ a → ∀ x, l[(a - k).toNat]? = some x → (bumpG a k l)[(a - k).toNat]? = some (x + 1)
  | [], a, k, _, x, h => by simp at h
  | y :: l, a, k, hk, x, h => by
    by_cases ha : k = a
    · subst ha
      rw [Int.sub_self] at h ⊢
      have : y = x := by simpa using h
      subst this
      show some (y + (if k = k then 1 else 0)) = some (y + 1)
      rw [if_pos rfl]
    · have e1 : (a - k).toNat = (a - (k + 1)).toNat + 1 := by omega
      rw [e1] at h ⊢
      show (bumpG a (k + 1) l)[(a - (k + 1)).toNat]? = some (x + 1)
      exact bump_at l a (k + 1) (by omega) x (by simpa using h)
theorem piece_there {rs : List (Int × Int)} (ht : ∀ t ∈ rs, TkOk t) {n : Int} (hn : 1 ≤ n) : ∃ m : Int, 1 ≤ m ∧ atI (countsG rs n) (atO rs (whoG 0 rs n)) = some m := by
  have ha : 0 ≤ atO rs (whoG 0 rs n) ∧ atO rs (whoG 0 rs n) ≤ (rs.length : Nat) := by
    cases h : whoG 0 rs n with
    | none => exact ⟨by show (0 : Int) ≤ ((rs.length : Nat) : Int); omega, Int.le_refl _⟩
    | some j =>
      have := whoG_ge rs 0 n j h
      show 0 ≤ j ∧ j ≤ ((rs.length : Nat) : Int)
      omega
  have hl : (atO rs (whoG 0 rs n)).toNat < (countsG rs (n - 1)).length := by
    rw [countsG_len]
    omega
  have h0 := counts_nonneg rs ht (show 0 ≤ n - 1 by omega) _ (List.getElem_mem hl)
  have hb := bump_at (countsG rs (n - 1)) (atO rs (whoG 0 rs n)) 0 ha.1 _ (by rw [Int.sub_zero]; exact List.getElem?_eq_getElem hl)
  rw [← counts_bump ht, Int.sub_zero] at hb
  refine ⟨_, ?_, by
    have := atI_nat hb
    rw [show (((atO rs (whoG 0 rs n)).toNat : Nat) : Int) = atO rs (whoG 0 rs n) by omega] at this
    exact this⟩
  omega
end Pd

set_option maxRecDepth 100000
set_option maxHeartbeats 4000000
/-! Plain mathematics: when it comes round; parts as fractions. -/
namespace Pd
open PySem L2
def gcdI (a b : Int) : Int := ((Int.gcd a b : Nat) : Int)
def redG (a b : Int) : Int × Int := (a / gcdI a b, b / gcdI a b)
theorem gcdI_nat (m n : Nat) : gcdI (m : Int) (n : Int) = ((Nat.gcd m n : Nat) : Int) := by
  unfold gcdI
  rw [Int.gcd_natCast_natCast]
theorem gcdI_step {a b : Int} (ha : 0 ≤ a) (hb : 0 < b) : gcdI b (a % b) = gcdI a b := by
  obtain ⟨m, rfl⟩ : ∃ m : Nat, a = (m : Int) := ⟨a.toNat, by omega⟩
  obtain ⟨n, rfl⟩ : ∃ n : Nat, b = (n : Int) := ⟨b.toNat, by omega⟩
  rw [← Int.natCast_emod, gcdI_nat, gcdI_nat, Nat.gcd_comm n, ← Nat.gcd_rec, Nat.gcd_comm]
theorem gcdI_zero {a : Int} (ha : 0 ≤ a) : gcdI a 0 = a := by
  obtain ⟨m, rfl⟩ : ∃ m : Nat, a = (m : Int) := ⟨a.toNat, by omega⟩
  have := gcdI_nat m 0
  rw [Nat.gcd_zero_right] at this
  exact this
theorem gcdI_pos {a b : Int} (hb : 0 < b) : 0 < gcdI a b := by
  unfold gcdI
  have : 0 < Int.gcd a b := Int.gcd_pos_of_ne_zero_right _ (by omega)
  omega
theorem gcdI_le {a b : Int} (hb : 0 < b) : gcdI a b ≤ b := by
  unfold gcdI
  exact Int.le_of_dvd hb (Int.gcd_dvd_right ..)
theorem gcdI_dl (a b : Int) : gcdI a b ∣ a := Int.gcd_dvd_left ..
theorem gcdI_dr (a b : Int) : gcdI a b ∣ b := Int.gcd_dvd_right ..
/-- a fraction, made -/
theorem red_facts {a b : Int} (ha : 0 ≤ a) (hb : 0 < b) : (redG a b).1 * gcdI a b = a ∧ (redG a b).2 * gcdI a b = b ∧ 0 < (redG a b).2 ∧ 0 ≤ (redG a b).1 ∧ (redG a b).2 ≤ b ∧ (redG a b).1 ≤ a ∧ gcdI (redG a b).1 (redG a b).2 = 1 := by
  have hg := gcdI_pos (a := a) hb
  have h1 : a / gcdI a b * gcdI a b = a := Int.ediv_mul_cancel (gcdI_dl a b)
  have h2 : b / gcdI a b * gcdI a b = b := Int.ediv_mul_cancel (gcdI_dr a b)
  have p2 : 0 < b / gcdI a b := Int.ediv_pos_of_pos_of_dvd hb (by omega) (gcdI_dr a b)
  have p1 : 0 ≤ a / gcdI a b := Int.ediv_nonneg ha (by omega)
  refine ⟨h1, h2, p2, p1, Int.ediv_le_self _ (by omega), Int.ediv_le_self _ ha, ?_⟩
  show ((Int.gcd (a / ((Int.gcd a b : Nat) : Int)) (b / ((Int.gcd a b : Nat) : Int)) : Nat) : Int) = 1
  rw [Int.gcd_ediv_gcd_ediv_gcd (by unfold gcdI at hg; omega)]
  rfl
theorem nat_red {a b c d : Nat} (hb : 0 < b) (hd : 0 < d) (h1 : Nat.Coprime a b) (h2 : Nat.Coprime c d) (h : a * d = c * b) : a = c ∧ b = d := by
  have e1 : a ∣ c := Nat.Coprime.dvd_of_dvd_mul_right h1 ⟨d, h.symm⟩
  have e2 : c ∣ a := Nat.Coprime.dvd_of_dvd_mul_right h2 ⟨b, h⟩
  have e3 : a = c := Nat.dvd_antisymm e1 e2
  subst e3
  refine ⟨rfl, ?_⟩
  rcases Nat.eq_zero_or_pos a with z | z
  · subst z
    rw [Nat.coprime_zero_left] at h1 h2
    omega
  · exact (Nat.eq_of_mul_eq_mul_left z h).symm
/-- two fractions in lowest terms -/
theorem low_eq {a b c d : Int} (ha : 0 ≤ a) (hc : 0 ≤ c) (hb : 0 < b) (hd : 0 < d) (h1 : gcdI a b = 1) (h2 : gcdI c d = 1) (h : a * d = c * b) : a = c ∧ b = d := by
  obtain ⟨m, rfl⟩ : ∃ m : Nat, a = (m : Int) := ⟨a.toNat, by omega⟩
  obtain ⟨n, rfl⟩ : ∃ n : Nat, b = (n : Int) := ⟨b.toNat, by omega⟩
  obtain ⟨m', rfl⟩ : ∃ m : Nat, c = (m : Int) := ⟨c.toNat, by omega⟩
  obtain ⟨n', rfl⟩ : ∃ n : Nat, d = (n : Int) := ⟨d.toNat, by omega⟩
  rw [gcdI_nat] at h1 h2
  have := nat_red (a := m) (b := n) (c := m') (d := n') (by omega) (by omega) (by unfold Nat.Coprime; omega) (by unfold Nat.Coprime; omega) (by exact_mod_cast h)
  omega
theorem red_eq {a b c d : Int} (ha : 0 ≤ a) (hc : 0 ≤ c) (hb : 0 < b) (hd : 0 < d) (h : a * d = c * b) : redG a b = redG c d := by
  obtain ⟨a1, a2, a3, a4, _, _, a5⟩ := red_facts ha hb
  obtain ⟨c1, c2, c3, c4, _, _, c5⟩ := red_facts hc hd
  have hg := gcdI_pos (a := a) hb
  have hh := gcdI_pos (a := c) hd
  generalize hx : redG a b = x at *
  generalize hy : redG c d = y at *
  generalize gcdI a b = g at *
  generalize gcdI c d = h' at *
  have key : x.1 * y.2 = y.1 * x.2 := by
    have e : (x.1 * y.2) * (g * h') = (y.1 * x.2) * (g * h') := by
      have e1 : (x.1 * y.2) * (g * h') = (x.1 * g) * (y.2 * h') := by
        rw [Int.mul_assoc, Int.mul_assoc, ← Int.mul_assoc y.2, Int.mul_comm y.2 g, Int.mul_assoc g]
      have e2 : (y.1 * x.2) * (g * h') = (y.1 * h') * (x.2 * g) := by
        rw [Int.mul_comm g h', Int.mul_assoc, Int.mul_assoc, ← Int.mul_assoc x.2, Int.mul_comm x.2 h', Int.mul_assoc h']
      rw [e1, e2, a1, c2, c1, a2, h]
    exact Int.eq_of_mul_eq_mul_right (Int.ne_of_gt (Int.mul_pos hg hh)) e
  obtain ⟨e1, e2⟩ := low_eq a4 c4 a3 c3 a5 c5 key
  exact Prod.ext e1 e2
theorem red_low {a b : Int} (h : gcdI a b = 1) : redG a b = (a, b) := by
  unfold redG
  rw [h, Int.ediv_one, Int.ediv_one]
/-! ### rounds -/
def roundF : List (Int × Int) → Int → Int
  | [], _ => 1
  | t :: rs, w => t.1 / gcdI w t.1 * roundF rs (w * (t.1 / gcdI w t.1) - w * (t.1 / gcdI w t.1) / t.1)
/-- all stands as at the start behind n pieces -/
def PerG : List (Int × Int) → Int → Prop
  | [], _ => True
  | t :: rs, n => t.1 ∣ n ∧ PerG rs (n - n / t.1)
theorem times_dvd {w e k : Int} (hw : 0 < w) (he : 0 < e) : e ∣ w * k ↔ e / gcdI w e ∣ k := by
  have hg := gcdI_pos (a := w) he
  have h1 : w / gcdI w e * gcdI w e = w := Int.ediv_mul_cancel (gcdI_dl w e)
  have h2 : e / gcdI w e * gcdI w e = e := Int.ediv_mul_cancel (gcdI_dr w e)
  have hc := (red_facts (a := w) (b := e) (by omega) he).2.2.2.2.2.2
  show _ ↔ _
  unfold redG at hc
  dsimp only at hc
  generalize hg' : gcdI w e = g at *
  generalize w / g = w' at *
  generalize e / g = e' at *
  constructor
  · rintro ⟨j, hj⟩
    have e3 : w' * k = e' * j := by
      have : (w' * k) * g = (e' * j) * g := by
        rw [Int.mul_assoc, Int.mul_comm k, ← Int.mul_assoc, h1, hj, Int.mul_assoc, Int.mul_comm j, ← Int.mul_assoc, h2]
      exact Int.eq_of_mul_eq_mul_right (by omega) this
    have hd : e' ∣ w' * k := ⟨j, e3⟩
    have hco : Int.gcd e' w' = 1 := by
      unfold gcdI at hc
      rw [Int.gcd_comm]
      omega
    have := Int.dvd_gcd_mul_iff_dvd_mul.mpr hd
    rw [hco] at this
    rw [show ((1 : Nat) : Int) * k = k from Int.one_mul k] at this
    exact this
  · rintro ⟨j, hj⟩
    refine ⟨w' * j, ?_⟩
    rw [hj, ← h1, ← h2]
    rw [Int.mul_assoc, Int.mul_assoc, Int.mul_comm g, Int.mul_assoc, Int.mul_left_comm w', Int.mul_left_comm g, Int.mul_comm g]
theorem left_whole {w t e : Int} (he : 2 ≤ e) (hd : e ∣ w * t) (h : 0 < w * t) : 0 < w * t - w * t / e ∧ ∀ j : Int, 0 ≤ j → w * (t * j) - w * (t * j) / e = (w * t - w * t / e) * j := by
  obtain ⟨q, hq⟩ := hd
  rw [hq] at h ⊢
  have hq0 : 0 < q := by
    refine Int.pos_of_mul_pos_right (a := e) h (by omega)
  have e1 : e * q / e = q := Int.mul_ediv_cancel_left _ (by omega)
  rw [e1]
  constructor
  · have : 2 * q ≤ e * q := Int.mul_le_mul_of_nonneg_right he (by omega)
    omega
  · intro j _
    have e2 : w * (t * j) = e * (q * j) := by rw [← Int.mul_assoc, hq, Int.mul_assoc]
    rw [e2, Int.mul_ediv_cancel_left _ (by omega), Int.sub_mul, Int.mul_assoc]
theorem round_facts : ∀ (rs : List (Int × Int)) (ht : ∀ t ∈ rs, TkOk t) (w : Int), 0 < w → 0 < roundF rs w ∧ ∀ k : Int, 0 ≤ k → (PerG rs (w * k) ↔ roundF rs w ∣ k)
  | [], _, w, _ => ⟨show (0 : Int) < 1 by decide, fun k _ => ⟨fun _ => Int.one_dvd k, fun _ => trivial⟩⟩
  | t :: rs, ht, w, hw => by
    obtain ⟨t1, t2, t3, t4⟩ := ht t List.mem_cons_self
    have he : 0 < t.1 := by omega
    have td := fun k => times_dvd (k := k) hw he
    have htp : 0 < t.1 / gcdI w t.1 := Int.ediv_pos_of_pos_of_dvd he (by have := gcdI_pos (a := w) he; omega) (gcdI_dr w t.1)
    have hd : t.1 ∣ w * (t.1 / gcdI w t.1) := (td _).mpr (Int.dvd_refl _)
    show 0 < t.1 / gcdI w t.1 * roundF rs (w * (t.1 / gcdI w t.1) - w * (t.1 / gcdI w t.1) / t.1) ∧ ∀ k : Int, 0 ≤ k → ((t.1 ∣ w * k ∧ PerG rs (w * k - w * k / t.1)) ↔ t.1 / gcdI w t.1 * roundF rs (w * (t.1 / gcdI w t.1) - w * (t.1 / gcdI w t.1) / t.1) ∣ k)
    obtain ⟨l1, l2⟩ := left_whole (e := t.1) t1 hd (Int.mul_pos hw htp)
    obtain ⟨i1, i2⟩ := round_facts rs (fun t h => ht t (List.mem_cons_of_mem _ h)) _ l1
    generalize t.1 / gcdI w t.1 = s at *
    generalize hT : roundF rs (w * s - w * s / t.1) = T at *
    refine ⟨Int.mul_pos htp i1, fun k hk => ⟨fun ⟨h1, h2⟩ => ?_, fun h => ?_⟩⟩
    · obtain ⟨j, rfl⟩ := (td k).mp h1
      have hj : 0 ≤ j := by
        rcases Int.lt_or_le j 0 with z | z
        · have := Int.mul_neg_of_pos_of_neg htp z
          omega
        · exact z
      rw [l2 j hj] at h2
      exact Int.mul_dvd_mul (Int.dvd_refl s) ((i2 j hj).mp h2)
    · obtain ⟨j, rfl⟩ := h
      have hj : 0 ≤ T * j := by
        rcases Int.lt_or_le (T * j) 0 with z | z
        · have := Int.mul_neg_of_pos_of_neg htp z
          rw [← Int.mul_assoc] at this
          omega
        · exact z
      rw [Int.mul_assoc]
      refine ⟨(td _).mpr (Int.dvd_mul_right s _), ?_⟩
      rw [l2 _ hj]
      exact (i2 _ hj).mpr (Int.dvd_mul_right T j)
theorem per_st : ∀ (rs : List (Int × Int)) (ht : ∀ t ∈ rs, TkOk t) (n : Int), stG rs n = rs.map (·.2) ↔ PerG rs n
  | [], _, n => ⟨fun _ => trivial, fun _ => rfl⟩
  | (e, c) :: rs, ht, n => by
    obtain ⟨t1, t2, t3, t4⟩ := ht (e, c) List.mem_cons_self
    dsimp only at t1 t2 t3 t4
    have ih := per_st rs (fun t h => ht t (List.mem_cons_of_mem _ h))
    show (c + n) % e :: stG rs (n - (n + c) / e) = c :: rs.map (·.2) ↔ (e ∣ n ∧ PerG rs (n - n / e))
    have key : ∀ q, n = e * q → (n + c) / e = q ∧ (c + n) % e = c ∧ n / e = q := fun q hq => by
      obtain ⟨d1, d2⟩ := ediv_of (x := n + c) (e := e) (q := q) (s := c) (by omega) (by omega) t3 t4
      refine ⟨d1, by rw [Int.add_comm]; exact d2, by rw [hq]; exact Int.mul_ediv_cancel_left _ (by omega)⟩
    constructor
    · intro h
      injection h with h1 h2
      have hm := Int.mul_ediv_add_emod (c + n) e
      have hq : n = e * ((c + n) / e) := by omega
      obtain ⟨k1, k2, k3⟩ := key _ hq
      refine ⟨⟨_, hq⟩, ?_⟩
      rw [k3, ← k1]
      exact (ih _).mp h2
    · rintro ⟨⟨q, hq⟩, h2⟩
      obtain ⟨k1, k2, k3⟩ := key q hq
      rw [k2, k1]
      rw [k3] at h2
      rw [(ih _).mpr h2]
/-! ### parts -/
def partsF : List (Int × Int) → Int → Int → List (Int × Int)
  | [], a, b => [(a, b)]
  | t :: rs, a, b => redG a (b * t.1) :: partsF rs (redG (a * (t.1 - 1)) (b * t.1)).1 (redG (a * (t.1 - 1)) (b * t.1)).2
def partsU : List (Int × Int) → Int → Int → List (Int × Int)
  | [], a, b => [(a, b)]
  | t :: rs, a, b => (a, b * t.1) :: partsU rs (a * (t.1 - 1)) (b * t.1)
theorem cross_mul {a b a' b' u v : Int} (h : a * b' = a' * b) : (a * u) * (b' * v) = (a' * u) * (b * v) := by
  rw [Int.mul_assoc, Int.mul_left_comm u, ← Int.mul_assoc a, h, Int.mul_assoc, Int.mul_left_comm b, ← Int.mul_assoc]
theorem parts_U : ∀ (rs : List (Int × Int)) (ht : ∀ t ∈ rs, TkOk t) (a b a' b' : Int), 0 ≤ a → 0 < b → 0 ≤ a' → 0 < b' → gcdI a b = 1 → a * b' = a' * b → partsF rs a b = (partsU rs a' b').map fun x => redG x.1 x.2
  | [], _, a, b, a', b', ha, hb, ha', hb', hc, h => by
    show [(a, b)] = [redG a' b']
    rw [← red_eq ha ha' hb hb' h, red_low hc]
  | t :: rs, ht, a, b, a', b', ha, hb, ha', hb', hc, h => by
    obtain ⟨t1, t2, t3, t4⟩ := ht t List.mem_cons_self
    have hbe : 0 < b * t.1 := Int.mul_pos hb (by omega)
    have hbe' : 0 < b' * t.1 := Int.mul_pos hb' (by omega)
    have hae : 0 ≤ a * (t.1 - 1) := Int.mul_nonneg ha (by omega)
    have hae' : 0 ≤ a' * (t.1 - 1) := Int.mul_nonneg ha' (by omega)
    show redG a (b * t.1) :: _ = redG a' (b' * t.1) :: (partsU rs (a' * (t.1 - 1)) (b' * t.1)).map _
    have h1 := cross_mul (u := 1) (v := t.1) h
    rw [Int.mul_one, Int.mul_one] at h1
    rw [red_eq ha ha' hbe hbe' h1]
    congr 1
    obtain ⟨f1, f2, f3, f4, _, _, f5⟩ := red_facts hae hbe
    refine parts_U rs (fun t h => ht t (List.mem_cons_of_mem _ h)) _ _ _ _ f4 f3 hae' hbe' f5 ?_
    have h2 := cross_mul (u := t.1 - 1) (v := t.1) h
    have hg := gcdI_pos (a := a * (t.1 - 1)) hbe
    generalize redG (a * (t.1 - 1)) (b * t.1) = x at *
    generalize gcdI (a * (t.1 - 1)) (b * t.1) = g at *
    rw [← f1, ← f2] at h2
    have e : (x.1 * (b' * t.1)) * g = (a' * (t.1 - 1) * x.2) * g := by
      rw [Int.mul_assoc, Int.mul_comm (b' * t.1) g, ← Int.mul_assoc, h2, Int.mul_assoc (a' * (t.1 - 1))]
    exact Int.eq_of_mul_eq_mul_right (by omega) e
/-- where it comes round, the numbers are the parts -/
theorem parts_counts : ∀ (rs : List (Int × Int)) (ht : ∀ t ∈ rs, TkOk t) (n N a b : Int), 0 < N → 0 ≤ n → 0 ≤ a → 0 < b → PerG rs n → n * b = a * N → (partsU rs a b).map (fun x => redG x.1 x.2) = (countsG rs n).map fun c => redG c N
  | [], _, n, N, a, b, hN, hn, ha, hb, _, h => by
    show [redG a b] = [redG n N]
    rw [red_eq ha hn hb hN h.symm]
  | (e, c) :: rs, ht, n, N, a, b, hN, hn, ha, hb, hp, h => by
    obtain ⟨t1, t2, t3, t4⟩ := ht (e, c) List.mem_cons_self
    dsimp only at t1 t2 t3 t4
    obtain ⟨⟨q, hq⟩, hp⟩ := (show e ∣ n ∧ PerG rs (n - n / e) from hp)
    have k1 := (ediv_of (x := n + c) (e := e) (q := q) (s := c) (by omega) (by omega) t3 t4).1
    have k3 : n / e = q := by rw [hq]; exact Int.mul_ediv_cancel_left _ (by omega)
    rw [k3] at hp
    have q0 : 0 ≤ q := by
      rw [← k3]
      exact Int.ediv_nonneg hn (by omega)
    have hl : 0 ≤ n - q := by
      have := (lf_nonneg (t := (e, c)) ⟨t1, t2, t3, t4⟩ hn).2
      unfold lfG at this
      dsimp only at this
      rw [k1] at this
      exact this
    show redG a (b * e) :: (partsU rs (a * (e - 1)) (b * e)).map _ = redG ((n + c) / e) N :: (countsG rs (n - (n + c) / e)).map _
    rw [k1]
    have e1 : q * (b * e) = a * N := by rw [← h, hq, Int.mul_comm b, ← Int.mul_assoc, Int.mul_comm q]
    rw [red_eq ha q0 (Int.mul_pos hb (by omega)) hN e1.symm]
    congr 1
    refine parts_counts rs (fun t h => ht t (List.mem_cons_of_mem _ h)) (n - q) N _ _ hN hl (Int.mul_nonneg ha (by omega)) (Int.mul_pos hb (by omega)) hp ?_
    rw [Int.sub_mul, e1, ← Int.mul_assoc, h, Int.mul_assoc, Int.mul_assoc, Int.sub_mul, Int.one_mul, Int.mul_sub, Int.mul_comm N e]
/-! ### a round on -/
theorem per_who : ∀ (rs : List (Int × Int)) (ht : ∀ t ∈ rs, TkOk t) (k n p : Int), PerG rs n → whoG k rs (p + n) = whoG k rs p
  | [], _, _, _, _, _ => rfl
  | (e, c) :: rs, ht, k, n, p, hp => by
    obtain ⟨t1, t2, t3, t4⟩ := ht (e, c) List.mem_cons_self
    dsimp only at t1 t2 t3 t4
    obtain ⟨⟨q, hq⟩, hp⟩ := (show e ∣ n ∧ PerG rs (n - n / e) from hp)
    have k3 : n / e = q := by rw [hq]; exact Int.mul_ediv_cancel_left _ (by omega)
    rw [k3] at hp
    have e1 : p + n + c = p + c + e * q := by omega
    show (if (p + n + c) % e = 0 then some k else whoG (k + 1) rs (p + n - (p + n + c) / e)) = (if (p + c) % e = 0 then some k else whoG (k + 1) rs (p - (p + c) / e))
    rw [e1, Int.add_mul_emod_self_left, Int.add_mul_ediv_left _ _ (by omega : e ≠ 0)]
    rw [show p + n - ((p + c) / e + q) = (p - (p + c) / e) + (n - q) by omega, per_who rs (fun t h => ht t (List.mem_cons_of_mem _ h)) (k + 1) _ _ hp]
theorem per_counts : ∀ (rs : List (Int × Int)) (ht : ∀ t ∈ rs, TkOk t) (n p : Int), PerG rs n → countsG rs (p + n) = List.zipWith (· + ·) (countsG rs p) (countsG rs n)
  | [], _, _, _, _ => rfl
  | (e, c) :: rs, ht, n, p, hp => by
    obtain ⟨t1, t2, t3, t4⟩ := ht (e, c) List.mem_cons_self
    dsimp only at t1 t2 t3 t4
    obtain ⟨⟨q, hq⟩, hp⟩ := (show e ∣ n ∧ PerG rs (n - n / e) from hp)
    have k1 := (ediv_of (x := n + c) (e := e) (q := q) (s := c) (by omega) (by omega) t3 t4).1
    have k3 : n / e = q := by rw [hq]; exact Int.mul_ediv_cancel_left _ (by omega)
    rw [k3] at hp
    have e1 : p + n + c = p + c + e * q := by omega
    show (p + n + c) / e :: countsG rs (p + n - (p + n + c) / e) = ((p + c) / e + (n + c) / e) :: List.zipWith (· + ·) (countsG rs (p - (p + c) / e)) (countsG rs (n - (n + c) / e))
    rw [e1, Int.add_mul_ediv_left _ _ (by omega : e ≠ 0), k1]
    rw [show p + n - ((p + c) / e + q) = (p - (p + c) / e) + (n - q) by omega, per_counts rs (fun t h => ht t (List.mem_cons_of_mem _ h)) _ _ hp]
def roundG (rs : List (Int × Int)) : Int := roundF rs 1
def partsG (rs : List (Int × Int)) : List (Int × Int) := partsF rs 1 1
theorem round_pos {rs : List (Int × Int)} (ht : ∀ t ∈ rs, TkOk t) : 0 < roundG rs := (round_facts rs ht 1 (by decide)).1
theorem round_iff {rs : List (Int × Int)} (ht : ∀ t ∈ rs, TkOk t) {k : Int} (hk : 0 ≤ k) : PerG rs k ↔ roundG rs ∣ k := by
  have := (round_facts rs ht 1 (by decide)).2 k hk
  rw [Int.one_mul] at this
  exact this
theorem round_per {rs : List (Int × Int)} (ht : ∀ t ∈ rs, TkOk t) : PerG rs (roundG rs) := (round_iff ht (Int.le_of_lt (round_pos ht))).mpr (Int.dvd_refl _)
theorem parts_eq {rs : List (Int × Int)} (ht : ∀ t ∈ rs, TkOk t) {n : Int} (hn : 0 < n) (hp : PerG rs n) : partsG rs = (countsG rs n).map fun c => redG c n := by
  unfold partsG
  rw [parts_U rs ht 1 1 1 1 (by decide) (by decide) (by decide) (by decide) (by decide) rfl]
  exact parts_counts rs ht n n 1 1 hn (by omega) (by decide) (by decide) hp (by rw [Int.mul_one, Int.one_mul])
end Pd

set_option maxRecDepth 100000
set_option maxHeartbeats 4000000
/-! common, made, round_of, parts -/
namespace Pd
open PySem L2
def sp_common : DSp
  | [.dat (.int a), .dat (.int b)], R => 0 ≤ a ∧ 0 ≤ b ∧ R (.dat (.int (gcdI a b)))
  | _, _ => False
theorem common_rd {R : RVd → Prop} {a b : Int} (ha : 0 ≤ a) (hb : 0 ≤ b) (h : R (.dat (.int (gcdI a b)))) :
    (dSeq (dWhile (dTest (d2 neD (dVar 1) (dC (.int 0)))) (dPar 0 1 (nCons (dVar 1) (nCons (d2 modD (dVar 0) (dVar 1)) nNil)))) (dRet (dVar 0))) { nx := fun _ => R (.dat .none), rt := R } (startd 2 [.dat (.int a), .dat (.int b)]) := by
  simp only [dSeq, dAsgG, dAsgN, dRet, dRetN, dRetO, dRet0, dDrop, dIfS, dNext, dApp, dInsert, q_setI, q_setQ, q_take, dFor, dFreeze, dNever, q_par, q_parQ, q_par3, q_parQ3, dParNE, dParDE, gdName, q_gnil, q_gcons, q_gtup, dVar, dOwn, dC, d1, d2, n2, nCons, nNil, nLst, dTup, dFr, dTest, dAnd, dOr, dNot, dAndV, dOrV, dNotV, dIf, dChain, dCB, nCB, dCall, nCall, aDat, aBag, aNil, q_neg, q_add, q_addl, q_addt, q_sub, q_mul, q_mull, q_mult, q_fdiv, q_mod, q_pow, q_lt, q_le, q_gt, q_ge, eqD, neD, isD, isntD, q_isnn, q_isni, q_isnb, q_isnt, q_isnl, q_lenl, q_lent, q_inti, q_intb, q_max2, q_min2, q_listl, q_listt, q_tuplel, q_tuplet, q_sum, q_min, q_max, allD, itSeq, itR1, q_itR2, q_rng2, q_en, q_en1, q_zip, q_zipQ, q_seqr, q_lenr, q_ixr, q_seql, q_seqt, q_rvd, q_rvn, q_catn, q_ixl, q_ixt, q_sl, q_sll, q_slt, q_slr, nSlL, oNone, oSome, nLc, wipeD, q_dropc, q_dropxd, q_dropxb, q_dropxo, q_dropxn, q_drope, dYes, dCnt, q_revl, q_revt, q_revr, nListRg, dTupRg, exInts, exOpt, q_addr1, q_addrr, q_ixk0, q_ixk1, exRow, exTk, cntL, cntQ_some, cntQ_none, List.getElem?_cons_zero, List.getElem?_cons_succ, List.getElem?_nil, Option.some.injEq, SV.dat.injEq, SV.own.injEq, PyData.int.injEq, PyData.bool.injEq, PyData.tuple.injEq, PyData.list.injEq, PyData.str.injEq, RVd.new.injEq, RVd.dat.injEq, exists_eq_left, exists_eq_left', exists_eq_right, List.cons.injEq, List.set_cons_zero, List.set_cons_succ, reduceCtorEq, and_true, true_and, false_and, and_false, not_true_eq_false, not_false_eq_true, if_true, if_false, ite_true, ite_false, decide_eq_true_eq, Bool.not_eq_true', decide_eq_false_iff_not, Bool.and_true, Bool.true_and, Bool.and_false, Bool.false_and, Bool.not_true, Bool.not_false, Bool.false_eq_true, List.map_cons, List.map_nil, List.length_cons, List.length_nil, Nat.zero_add, Nat.reduceAdd, Nat.reduceLeDiff, startd, List.replicate_succ, List.replicate_zero, List.nil_append, List.cons_append, Nat.reduceSub, exists_const, and_self, shp_int, shp_none, shp_bool, eqv_int, dForL_nil, lcL_nil]
  refine ⟨fun m env => ∃ x y : Int, env = [some (.dat (.int x)), some (.dat (.int y))] ∧ 0 ≤ x ∧ 0 ≤ y ∧ gcdI x y = gcdI a b ∧ y.toNat = m, ⟨_, a, b, rfl, ha, hb, rfl, rfl⟩, ?_⟩
  rintro m env ⟨x, y, rfl, x0, y0, hg, rfl⟩
  simp only [dSeq, dAsgG, dAsgN, dRet, dRetN, dRetO, dRet0, dDrop, dIfS, dNext, dApp, dInsert, q_setI, q_setQ, q_take, dFor, dFreeze, dNever, q_par, q_parQ, q_par3, q_parQ3, dParNE, dParDE, gdName, q_gnil, q_gcons, q_gtup, dVar, dOwn, dC, d1, d2, n2, nCons, nNil, nLst, dTup, dFr, dTest, dAnd, dOr, dNot, dAndV, dOrV, dNotV, dIf, dChain, dCB, nCB, dCall, nCall, aDat, aBag, aNil, q_neg, q_add, q_addl, q_addt, q_sub, q_mul, q_mull, q_mult, q_fdiv, q_mod, q_pow, q_lt, q_le, q_gt, q_ge, eqD, neD, isD, isntD, q_isnn, q_isni, q_isnb, q_isnt, q_isnl, q_lenl, q_lent, q_inti, q_intb, q_max2, q_min2, q_listl, q_listt, q_tuplel, q_tuplet, q_sum, q_min, q_max, allD, itSeq, itR1, q_itR2, q_rng2, q_en, q_en1, q_zip, q_zipQ, q_seqr, q_lenr, q_ixr, q_seql, q_seqt, q_rvd, q_rvn, q_catn, q_ixl, q_ixt, q_sl, q_sll, q_slt, q_slr, nSlL, oNone, oSome, nLc, wipeD, q_dropc, q_dropxd, q_dropxb, q_dropxo, q_dropxn, q_drope, dYes, dCnt, q_revl, q_revt, q_revr, nListRg, dTupRg, exInts, exOpt, q_addr1, q_addrr, q_ixk0, q_ixk1, exRow, exTk, cntL, cntQ_some, cntQ_none, List.getElem?_cons_zero, List.getElem?_cons_succ, List.getElem?_nil, Option.some.injEq, SV.dat.injEq, SV.own.injEq, PyData.int.injEq, PyData.bool.injEq, PyData.tuple.injEq, PyData.list.injEq, PyData.str.injEq, RVd.new.injEq, RVd.dat.injEq, exists_eq_left, exists_eq_left', exists_eq_right, List.cons.injEq, List.set_cons_zero, List.set_cons_succ, reduceCtorEq, and_true, true_and, false_and, and_false, not_true_eq_false, not_false_eq_true, if_true, if_false, ite_true, ite_false, decide_eq_true_eq, Bool.not_eq_true', decide_eq_false_iff_not, Bool.and_true, Bool.true_and, Bool.and_false, Bool.false_and, Bool.not_true, Bool.not_false, Bool.false_eq_true, List.map_cons, List.map_nil, List.length_cons, List.length_nil, Nat.zero_add, Nat.reduceAdd, Nat.reduceLeDiff, startd, List.replicate_succ, List.replicate_zero, List.nil_append, List.cons_append, Nat.reduceSub, exists_const, and_self, shp_int, shp_none, shp_bool, eqv_int, dForL_nil, lcL_nil]
  by_cases hy : y = 0
  · subst hy
    simp only [decide_true, dSeq, dAsgG, dAsgN, dRet, dRetN, dRetO, dRet0, dDrop, dIfS, dNext, dApp, dInsert, q_setI, q_setQ, q_take, dFor, dFreeze, dNever, q_par, q_parQ, q_par3, q_parQ3, dParNE, dParDE, gdName, q_gnil, q_gcons, q_gtup, dVar, dOwn, dC, d1, d2, n2, nCons, nNil, nLst, dTup, dFr, dTest, dAnd, dOr, dNot, dAndV, dOrV, dNotV, dIf, dChain, dCB, nCB, dCall, nCall, aDat, aBag, aNil, q_neg, q_add, q_addl, q_addt, q_sub, q_mul, q_mull, q_mult, q_fdiv, q_mod, q_pow, q_lt, q_le, q_gt, q_ge, eqD, neD, isD, isntD, q_isnn, q_isni, q_isnb, q_isnt, q_isnl, q_lenl, q_lent, q_inti, q_intb, q_max2, q_min2, q_listl, q_listt, q_tuplel, q_tuplet, q_sum, q_min, q_max, allD, itSeq, itR1, q_itR2, q_rng2, q_en, q_en1, q_zip, q_zipQ, q_seqr, q_lenr, q_ixr, q_seql, q_seqt, q_rvd, q_rvn, q_catn, q_ixl, q_ixt, q_sl, q_sll, q_slt, q_slr, nSlL, oNone, oSome, nLc, wipeD, q_dropc, q_dropxd, q_dropxb, q_dropxo, q_dropxn, q_drope, dYes, dCnt, q_revl, q_revt, q_revr, nListRg, dTupRg, exInts, exOpt, q_addr1, q_addrr, q_ixk0, q_ixk1, exRow, exTk, cntL, cntQ_some, cntQ_none, List.getElem?_cons_zero, List.getElem?_cons_succ, List.getElem?_nil, Option.some.injEq, SV.dat.injEq, SV.own.injEq, PyData.int.injEq, PyData.bool.injEq, PyData.tuple.injEq, PyData.list.injEq, PyData.str.injEq, RVd.new.injEq, RVd.dat.injEq, exists_eq_left, exists_eq_left', exists_eq_right, List.cons.injEq, List.set_cons_zero, List.set_cons_succ, reduceCtorEq, and_true, true_and, false_and, and_false, not_true_eq_false, not_false_eq_true, if_true, if_false, ite_true, ite_false, decide_eq_true_eq, Bool.not_eq_true', decide_eq_false_iff_not, Bool.and_true, Bool.true_and, Bool.and_false, Bool.false_and, Bool.not_true, Bool.not_false, Bool.false_eq_true, List.map_cons, List.map_nil, List.length_cons, List.length_nil, Nat.zero_add, Nat.reduceAdd, Nat.reduceLeDiff, startd, List.replicate_succ, List.replicate_zero, List.nil_append, List.cons_append, Nat.reduceSub, exists_const, and_self, shp_int, shp_none, shp_bool, eqv_int, dForL_nil, lcL_nil]
    rw [gcdI_zero x0] at hg
    rw [hg]
    exact h
  · have y1 : 0 < y := by omega
    simp only [hy, y1, decide_false, dSeq, dAsgG, dAsgN, dRet, dRetN, dRetO, dRet0, dDrop, dIfS, dNext, dApp, dInsert, q_setI, q_setQ, q_take, dFor, dFreeze, dNever, q_par, q_parQ, q_par3, q_parQ3, dParNE, dParDE, gdName, q_gnil, q_gcons, q_gtup, dVar, dOwn, dC, d1, d2, n2, nCons, nNil, nLst, dTup, dFr, dTest, dAnd, dOr, dNot, dAndV, dOrV, dNotV, dIf, dChain, dCB, nCB, dCall, nCall, aDat, aBag, aNil, q_neg, q_add, q_addl, q_addt, q_sub, q_mul, q_mull, q_mult, q_fdiv, q_mod, q_pow, q_lt, q_le, q_gt, q_ge, eqD, neD, isD, isntD, q_isnn, q_isni, q_isnb, q_isnt, q_isnl, q_lenl, q_lent, q_inti, q_intb, q_max2, q_min2, q_listl, q_listt, q_tuplel, q_tuplet, q_sum, q_min, q_max, allD, itSeq, itR1, q_itR2, q_rng2, q_en, q_en1, q_zip, q_zipQ, q_seqr, q_lenr, q_ixr, q_seql, q_seqt, q_rvd, q_rvn, q_catn, q_ixl, q_ixt, q_sl, q_sll, q_slt, q_slr, nSlL, oNone, oSome, nLc, wipeD, q_dropc, q_dropxd, q_dropxb, q_dropxo, q_dropxn, q_drope, dYes, dCnt, q_revl, q_revt, q_revr, nListRg, dTupRg, exInts, exOpt, q_addr1, q_addrr, q_ixk0, q_ixk1, exRow, exTk, cntL, cntQ_some, cntQ_none, List.getElem?_cons_zero, List.getElem?_cons_succ, List.getElem?_nil, Option.some.injEq, SV.dat.injEq, SV.own.injEq, PyData.int.injEq, PyData.bool.injEq, PyData.tuple.injEq, PyData.list.injEq, PyData.str.injEq, RVd.new.injEq, RVd.dat.injEq, exists_eq_left, exists_eq_left', exists_eq_right, List.cons.injEq, List.set_cons_zero, List.set_cons_succ, reduceCtorEq, and_true, true_and, false_and, and_false, not_true_eq_false, not_false_eq_true, if_true, if_false, ite_true, ite_false, decide_eq_true_eq, Bool.not_eq_true', decide_eq_false_iff_not, Bool.and_true, Bool.true_and, Bool.and_false, Bool.false_and, Bool.not_true, Bool.not_false, Bool.false_eq_true, List.map_cons, List.map_nil, List.length_cons, List.length_nil, Nat.zero_add, Nat.reduceAdd, Nat.reduceLeDiff, startd, List.replicate_succ, List.replicate_zero, List.nil_append, List.cons_append, Nat.reduceSub, exists_const, and_self, shp_int, shp_none, shp_bool, eqv_int, dForL_nil, lcL_nil]
    refine ⟨fun env' => env' = [some (.dat (.int y)), some (.dat (.int (x % y)))], fun env' e => ⟨(x % y).toNat, ?_, y, x % y, e, y0, Int.emod_nonneg _ hy, by rw [gcdI_step x0 y1, hg], rfl⟩, rfl⟩
    have h1 := Int.emod_lt_of_pos x y1
    have h2 := Int.emod_nonneg x hy
    omega
/-- common: 0 one, 1 other -/
abbrev b_common : DS := (dSeq (dWhile (dTest (d2 neD (dVar 1) (dC (.int 0)))) (dPar 0 1 (nCons (dVar 1) (nCons (d2 modD (dVar 0) (dVar 1)) nNil))))
  (dRet (dVar 0)))
theorem rd_common (svs : List SV) (R : RVd → Prop) (h : sp_common svs R) : b_common { nx := fun _ => R (.dat .none), rt := R } (startd 2 svs) := by
  unfold sp_common at h
  split at h
  · exact common_rd h.1 h.2.1 h.2.2
  · exact h.elim
theorem len_common (svs : List SV) (R : RVd → Prop) (h : sp_common svs R) : svs.length = 2 := by
  unfold sp_common at h
  split at h
  · rfl
  · exact h.elim
theorem pow8 {n : Nat} (h : n ≤ 8) : (1000 : Int) ^ n ≤ 1000000000000000000000000 := by
  have : n = 0 ∨ n = 1 ∨ n = 2 ∨ n = 3 ∨ n = 4 ∨ n = 5 ∨ n = 6 ∨ n = 7 ∨ n = 8 := by omega
  rcases this with rfl | rfl | rfl | rfl | rfl | rfl | rfl | rfl | rfl <;> decide
def sp_round_of : DSp
  | [.dat d], R => ∃ rs, d = rowD rs ∧ RowOk rs ∧ R (.dat (.int (roundG rs)))
  | _, _ => False
/-- round_of: 0 row, 1 pieces, 2 come, 3 every, 4 counted, 5 times -/
abbrev b_round_of : DS := (dSeq (dDrop (dCall sp_need_row (aDat (dVar 0) aNil)))
  (dSeq (dAsgG (dTup (nCons (dC (.int 1)) (nCons (dC (.int 1)) nNil))) (gdTup 2 (gdCons (gdName 1) (gdCons (gdName 2) gdNil))))
  (dSeq (dFor (itSeq (dVar 0)) (gdTup 2 (gdCons (gdName 3) (gdCons (gdName 4) gdNil)))
  (dSeq (dAsgG (d2 fdivD (dVar 3) (dCall sp_common (aDat (dVar 2) (aDat (dVar 3) aNil)))) (gdName 5))
  (dSeq (dPar 1 2 (nCons (d2 mulD (dVar 1) (dVar 5)) (nCons (d2 mulD (dVar 2) (dVar 5)) nNil)))
  (dAsgG (d2 subD (dVar 2) (d2 fdivD (dVar 2) (dVar 3))) (gdName 2)))))
  (dRet (dVar 1)))))
theorem round_loop {D : DEnds} {x0 : Option SV} {g : DG} {tb : DS} (hg : g = gdTup 2 (gdCons (gdName 3) (gdCons (gdName 4) gdNil)))
    (htb : tb = (dSeq (dAsgG (d2 fdivD (dVar 3) (dCall sp_common (aDat (dVar 2) (aDat (dVar 3) aNil)))) (gdName 5))
  (dSeq (dPar 1 2 (nCons (d2 mulD (dVar 1) (dVar 5)) (nCons (d2 mulD (dVar 2) (dVar 5)) nNil)))
  (dAsgG (d2 subD (dVar 2) (d2 fdivD (dVar 2) (dVar 3))) (gdName 2))))) :
    ∀ (rs : List (Int × Int)) (p w B : Int) (x3 x4 x5 : Option SV), (∀ t ∈ rs, TkOk t) → 0 < p → 0 < w → p ≤ B → w ≤ B → B * 1000 ^ rs.length ≤ 1000000000000000000000000000000 →
      (∀ w' x3 x4 x5, D.nx [x0, some (.dat (.int (p * roundF rs w))), some (.dat (.int w')), x3, x4, x5]) →
      dForL g tb (rs.map tkD) D [x0, some (.dat (.int p)), some (.dat (.int w)), x3, x4, x5]
  | [], p, w, B, x3, x4, x5, _, _, _, _, _, _, h => by
    have := h w x3 x4 x5
    rw [show roundF [] w = 1 from rfl, Int.mul_one] at this
    exact this
  | t :: rs, p, w, B, x3, x4, x5, ht, p0, w0, pB, wB, hB, h => by
    obtain ⟨t1, t2, t3, t4⟩ := ht t List.mem_cons_self
    have he : 0 < t.1 := by omega
    have hg0 := gcdI_pos (a := w) he
    have hg1 := gcdI_le (a := w) he
    have ht0 : 0 < t.1 / gcdI w t.1 := Int.ediv_pos_of_pos_of_dvd he (by omega) (gcdI_dr w t.1)
    have ht1 : t.1 / gcdI w t.1 ≤ t.1 := Int.ediv_le_self _ (by omega)
    have hd : t.1 ∣ w * (t.1 / gcdI w t.1) := (times_dvd w0 he).mpr (Int.dvd_refl _)
    obtain ⟨l1, _⟩ := left_whole (e := t.1) t1 hd (Int.mul_pos w0 ht0)
    have hpow : (1000 : Int) ^ (rs.length + 1) = 1000 ^ rs.length * 1000 := Int.pow_succ ..
    rw [List.length_cons, hpow, Int.mul_comm (1000 ^ rs.length), ← Int.mul_assoc] at hB
    have hp1 : (1 : Int) ≤ 1000 ^ rs.length := Int.pow_pos (by decide)
    have hB1 : B * 1000 * 1 ≤ B * 1000 * 1000 ^ rs.length := Int.mul_le_mul_of_nonneg_left hp1 (by omega)
    have hmul : ∀ x : Int, 0 < x → x ≤ B → x * (t.1 / gcdI w t.1) ≤ B * 1000 := fun x x0 xB => by
      have a1 : x * (t.1 / gcdI w t.1) ≤ x * 1000 := Int.mul_le_mul_of_nonneg_left (by omega) (by omega)
      have a2 : x * 1000 ≤ B * 1000 := Int.mul_le_mul_of_nonneg_right xB (by decide)
      omega
    have next : ∀ x3 x4 x5, dForL g tb (rs.map tkD) D [x0, some (.dat (.int (p * (t.1 / gcdI w t.1)))), some (.dat (.int (w * (t.1 / gcdI w t.1) - w * (t.1 / gcdI w t.1) / t.1))), x3, x4, x5] := fun x3 x4 x5 => by
      refine round_loop hg htb rs _ _ (B * 1000) x3 x4 x5 (fun t h => ht t (List.mem_cons_of_mem _ h)) (Int.mul_pos p0 ht0) l1 (hmul p p0 pB) ?_ hB fun w' y3 y4 y5 => ?_
      · have := hmul w w0 wB
        have := Int.ediv_nonneg (Int.le_of_lt (Int.mul_pos w0 ht0)) (Int.le_of_lt he)
        omega
      · have := h w' y3 y4 y5
        rw [show roundF (t :: rs) w = t.1 / gcdI w t.1 * roundF rs (w * (t.1 / gcdI w t.1) - w * (t.1 / gcdI w t.1) / t.1) from rfl, ← Int.mul_assoc] at this
        exact this
    rw [List.map_cons, dForL_cons]
    generalize dForL g tb (rs.map tkD) D = rest at *
    rw [hg, htb]
    clear htb hg
    have g2 : (gcdI w t.1).natAbs < 2 ^ 1000 := small_of (by omega) (by omega)
    have g3 : t.1.natAbs < 2 ^ 1000 := small_of (by omega) (by omega)
    have m1 : mulOk p (t.1 / gcdI w t.1) := mul_small (small_of (by omega) (by omega)) (small_of (by omega) (by omega))
    have m2 : mulOk w (t.1 / gcdI w t.1) := mul_small (small_of (by omega) (by omega)) (small_of (by omega) (by omega))
    simp only [tkD, sp_common, show 0 ≤ w by omega, show 0 ≤ t.1 by omega, he, hg0, g2, g3, m1, m2, dSeq, dAsgG, dAsgN, dRet, dRetN, dRetO, dRet0, dDrop, dIfS, dNext, dApp, dInsert, q_setI, q_setQ, q_take, dFor, dFreeze, dNever, q_par, q_parQ, q_par3, q_parQ3, dParNE, dParDE, gdName, q_gnil, q_gcons, q_gtup, dVar, dOwn, dC, d1, d2, n2, nCons, nNil, nLst, dTup, dFr, dTest, dAnd, dOr, dNot, dAndV, dOrV, dNotV, dIf, dChain, dCB, nCB, dCall, nCall, aDat, aBag, aNil, q_neg, q_add, q_addl, q_addt, q_sub, q_mul, q_mull, q_mult, q_fdiv, q_mod, q_pow, q_lt, q_le, q_gt, q_ge, eqD, neD, isD, isntD, q_isnn, q_isni, q_isnb, q_isnt, q_isnl, q_lenl, q_lent, q_inti, q_intb, q_max2, q_min2, q_listl, q_listt, q_tuplel, q_tuplet, q_sum, q_min, q_max, allD, itSeq, itR1, q_itR2, q_rng2, q_en, q_en1, q_zip, q_zipQ, q_seqr, q_lenr, q_ixr, q_seql, q_seqt, q_rvd, q_rvn, q_catn, q_ixl, q_ixt, q_sl, q_sll, q_slt, q_slr, nSlL, oNone, oSome, nLc, wipeD, q_dropc, q_dropxd, q_dropxb, q_dropxo, q_dropxn, q_drope, dYes, dCnt, q_revl, q_revt, q_revr, nListRg, dTupRg, exInts, exOpt, q_addr1, q_addrr, q_ixk0, q_ixk1, exRow, exTk, cntL, cntQ_some, cntQ_none, List.getElem?_cons_zero, List.getElem?_cons_succ, List.getElem?_nil, Option.some.injEq, SV.dat.injEq, SV.own.injEq, PyData.int.injEq, PyData.bool.injEq, PyData.tuple.injEq, PyData.list.injEq, PyData.str.injEq, RVd.new.injEq, RVd.dat.injEq, exists_eq_left, exists_eq_left', exists_eq_right, List.cons.injEq, List.set_cons_zero, List.set_cons_succ, reduceCtorEq, and_true, true_and, false_and, and_false, not_true_eq_false, not_false_eq_true, if_true, if_false, ite_true, ite_false, decide_eq_true_eq, Bool.not_eq_true', decide_eq_false_iff_not, Bool.and_true, Bool.true_and, Bool.and_false, Bool.false_and, Bool.not_true, Bool.not_false, Bool.false_eq_true, List.map_cons, List.map_nil, List.length_cons, List.length_nil, Nat.zero_add, Nat.reduceAdd, Nat.reduceLeDiff, startd, List.replicate_succ, List.replicate_zero, List.nil_append, List.cons_append, Nat.reduceSub, exists_const, and_self, shp_int, shp_none, shp_bool, eqv_int, dForL_nil, lcL_nil]
    exact next _ _ _
theorem rd_round_of (svs : List SV) (R : RVd → Prop) (h : sp_round_of svs R) : b_round_of { nx := fun _ => R (.dat .none), rt := R } (startd 6 svs) := by
  unfold sp_round_of at h
  split at h
  · obtain ⟨rs, rfl, ok, h⟩ := h
    have h8 := pow8 ok.1
    simp only [b_round_of, sp_need_row, rowB_ok ok, dSeq, dAsgG, dAsgN, dRet, dRetN, dRetO, dRet0, dDrop, dIfS, dNext, dApp, dInsert, q_setI, q_setQ, q_take, dFor, dFreeze, dNever, q_par, q_parQ, q_par3, q_parQ3, dParNE, dParDE, gdName, q_gnil, q_gcons, q_gtup, dVar, dOwn, dC, d1, d2, n2, nCons, nNil, nLst, dTup, dFr, dTest, dAnd, dOr, dNot, dAndV, dOrV, dNotV, dIf, dChain, dCB, nCB, dCall, nCall, aDat, aBag, aNil, q_neg, q_add, q_addl, q_addt, q_sub, q_mul, q_mull, q_mult, q_fdiv, q_mod, q_pow, q_lt, q_le, q_gt, q_ge, eqD, neD, isD, isntD, q_isnn, q_isni, q_isnb, q_isnt, q_isnl, q_lenl, q_lent, q_inti, q_intb, q_max2, q_min2, q_listl, q_listt, q_tuplel, q_tuplet, q_sum, q_min, q_max, allD, itSeq, itR1, q_itR2, q_rng2, q_en, q_en1, q_zip, q_zipQ, q_seqr, q_lenr, q_ixr, q_seql, q_seqt, q_rvd, q_rvn, q_catn, q_ixl, q_ixt, q_sl, q_sll, q_slt, q_slr, nSlL, oNone, oSome, nLc, wipeD, q_dropc, q_dropxd, q_dropxb, q_dropxo, q_dropxn, q_drope, dYes, dCnt, q_revl, q_revt, q_revr, nListRg, dTupRg, exInts, exOpt, q_addr1, q_addrr, q_ixk0, q_ixk1, exRow, exTk, cntL, cntQ_some, cntQ_none, List.getElem?_cons_zero, List.getElem?_cons_succ, List.getElem?_nil, Option.some.injEq, SV.dat.injEq, SV.own.injEq, PyData.int.injEq, PyData.bool.injEq, PyData.tuple.injEq, PyData.list.injEq, PyData.str.injEq, RVd.new.injEq, RVd.dat.injEq, exists_eq_left, exists_eq_left', exists_eq_right, List.cons.injEq, List.set_cons_zero, List.set_cons_succ, reduceCtorEq, and_true, true_and, false_and, and_false, not_true_eq_false, not_false_eq_true, if_true, if_false, ite_true, ite_false, decide_eq_true_eq, Bool.not_eq_true', decide_eq_false_iff_not, Bool.and_true, Bool.true_and, Bool.and_false, Bool.false_and, Bool.not_true, Bool.not_false, Bool.false_eq_true, List.map_cons, List.map_nil, List.length_cons, List.length_nil, Nat.zero_add, Nat.reduceAdd, Nat.reduceLeDiff, startd, List.replicate_succ, List.replicate_zero, List.nil_append, List.cons_append, Nat.reduceSub, exists_const, and_self, shp_int, shp_none, shp_bool, eqv_int, dForL_nil, lcL_nil]
    refine round_loop rfl rfl rs 1 1 1 _ _ _ ok.2 (by decide) (by decide) (by decide) (by decide) (by omega) fun w' x3 x4 x5 => ?_
    rw [Int.one_mul]
    simp only [dSeq, dAsgG, dAsgN, dRet, dRetN, dRetO, dRet0, dDrop, dIfS, dNext, dApp, dInsert, q_setI, q_setQ, q_take, dFor, dFreeze, dNever, q_par, q_parQ, q_par3, q_parQ3, dParNE, dParDE, gdName, q_gnil, q_gcons, q_gtup, dVar, dOwn, dC, d1, d2, n2, nCons, nNil, nLst, dTup, dFr, dTest, dAnd, dOr, dNot, dAndV, dOrV, dNotV, dIf, dChain, dCB, nCB, dCall, nCall, aDat, aBag, aNil, q_neg, q_add, q_addl, q_addt, q_sub, q_mul, q_mull, q_mult, q_fdiv, q_mod, q_pow, q_lt, q_le, q_gt, q_ge, eqD, neD, isD, isntD, q_isnn, q_isni, q_isnb, q_isnt, q_isnl, q_lenl, q_lent, q_inti, q_intb, q_max2, q_min2, q_listl, q_listt, q_tuplel, q_tuplet, q_sum, q_min, q_max, allD, itSeq, itR1, q_itR2, q_rng2, q_en, q_en1, q_zip, q_zipQ, q_seqr, q_lenr, q_ixr, q_seql, q_seqt, q_rvd, q_rvn, q_catn, q_ixl, q_ixt, q_sl, q_sll, q_slt, q_slr, nSlL, oNone, oSome, nLc, wipeD, q_dropc, q_dropxd, q_dropxb, q_dropxo, q_dropxn, q_drope, dYes, dCnt, q_revl, q_revt, q_revr, nListRg, dTupRg, exInts, exOpt, q_addr1, q_addrr, q_ixk0, q_ixk1, exRow, exTk, cntL, cntQ_some, cntQ_none, List.getElem?_cons_zero, List.getElem?_cons_succ, List.getElem?_nil, Option.some.injEq, SV.dat.injEq, SV.own.injEq, PyData.int.injEq, PyData.bool.injEq, PyData.tuple.injEq, PyData.list.injEq, PyData.str.injEq, RVd.new.injEq, RVd.dat.injEq, exists_eq_left, exists_eq_left', exists_eq_right, List.cons.injEq, List.set_cons_zero, List.set_cons_succ, reduceCtorEq, and_true, true_and, false_and, and_false, not_true_eq_false, not_false_eq_true, if_true, if_false, ite_true, ite_false, decide_eq_true_eq, Bool.not_eq_true', decide_eq_false_iff_not, Bool.and_true, Bool.true_and, Bool.and_false, Bool.false_and, Bool.not_true, Bool.not_false, Bool.false_eq_true, List.map_cons, List.map_nil, List.length_cons, List.length_nil, Nat.zero_add, Nat.reduceAdd, Nat.reduceLeDiff, startd, List.replicate_succ, List.replicate_zero, List.nil_append, List.cons_append, Nat.reduceSub, exists_const, and_self, shp_int, shp_none, shp_bool, eqv_int, dForL_nil, lcL_nil]
    exact h
  · exact h.elim
theorem len_round_of (svs : List SV) (R : RVd → Prop) (h : sp_round_of svs R) : svs.length = 1 := by
  unfold sp_round_of at h
  split at h
  · rfl
  · exact h.elim
end Pd

set_option maxRecDepth 100000
set_option maxHeartbeats 4000000
/-! Plain mathematics: parts, added and compared; neighbours who change places. -/
namespace Pd
open PySem L2
def red' (x : Int × Int) : Int × Int := redG x.1 x.2
def prA : List (Int × Int) → Int
  | [] => 1
  | t :: rs => (t.1 - 1) * prA rs
def prB : List (Int × Int) → Int
  | [] => 1
  | t :: rs => t.1 * prB rs
def initU : List (Int × Int) → Int → Int → List (Int × Int)
  | [], _, _ => []
  | t :: rs, a, b => (a, b * t.1) :: initU rs (a * (t.1 - 1)) (b * t.1)
theorem initU_len : ∀ (rs : List (Int × Int)) (a b : Int), (initU rs a b).length = rs.length
  | [], _, _ => rfl
  | t :: rs, a, b => by
    show (initU rs _ _).length + 1 = rs.length + 1
    rw [initU_len]
theorem partsU_app : ∀ (pre post : List (Int × Int)) (a b : Int), partsU (pre ++ post) a b = initU pre a b ++ partsU post (a * prA pre) (b * prB pre)
  | [], post, a, b => by
    show partsU post a b = partsU post (a * 1) (b * 1)
    rw [Int.mul_one, Int.mul_one]
  | t :: pre, post, a, b => by
    show (a, b * t.1) :: partsU (pre ++ post) (a * (t.1 - 1)) (b * t.1) = (a, b * t.1) :: (initU pre (a * (t.1 - 1)) (b * t.1) ++ partsU post (a * ((t.1 - 1) * prA pre)) (b * (t.1 * prB pre)))
    rw [partsU_app pre post, Int.mul_assoc, Int.mul_assoc]
theorem partsU_last (rs : List (Int × Int)) (a b : Int) : partsU rs a b = initU rs a b ++ [(a * prA rs, b * prB rs)] := by
  have := partsU_app rs [] a b
  rw [List.append_nil] at this
  exact this
theorem parts_red {rs : List (Int × Int)} (ht : ∀ t ∈ rs, TkOk t) : partsG rs = (partsU rs 1 1).map red' := parts_U rs ht 1 1 1 1 (by decide) (by decide) (by decide) (by decide) (by decide) rfl
theorem partsU_congr : ∀ (rs rs' : List (Int × Int)) (a b : Int), rs.map (·.1) = rs'.map (·.1) → partsU rs a b = partsU rs' a b
  | [], [], _, _, _ => rfl
  | [], _ :: _, _, _, h => by simp at h
  | _ :: _, [], _, _, h => by simp at h
  | t :: rs, t' :: rs', a, b, h => by
    rw [List.map_cons, List.map_cons] at h
    injection h with h1 h2
    show (a, b * t.1) :: partsU rs (a * (t.1 - 1)) (b * t.1) = (a, b * t'.1) :: partsU rs' (a * (t'.1 - 1)) (b * t'.1)
    rw [show t.1 = t'.1 from h1, partsU_congr rs rs' _ _ h2]
theorem pr_perm {rs rs' : List (Int × Int)} (h : rs.Perm rs') : prA rs = prA rs' ∧ prB rs = prB rs' := by
  induction h with
  | nil => exact ⟨rfl, rfl⟩
  | cons t _ ih =>
    show (t.1 - 1) * prA _ = (t.1 - 1) * prA _ ∧ t.1 * prB _ = t.1 * prB _
    rw [ih.1, ih.2]
    exact ⟨rfl, rfl⟩
  | swap x y l =>
    show (y.1 - 1) * ((x.1 - 1) * prA l) = (x.1 - 1) * ((y.1 - 1) * prA l) ∧ y.1 * (x.1 * prB l) = x.1 * (y.1 * prB l)
    exact ⟨Int.mul_left_comm .., Int.mul_left_comm ..⟩
  | trans _ _ i1 i2 => exact ⟨i1.1.trans i2.1, i1.2.trans i2.2⟩
/-- sizes -/
def FrOk (x : Int × Int) : Prop := 0 ≤ x.1 ∧ 0 < x.2 ∧ x.1 ≤ x.2 ∧ x.2 ≤ 1000000000000000000000000000
theorem FrOk.red {x : Int × Int} (h : FrOk x) : FrOk (red' x) := by
  obtain ⟨h1, h2, h3, h4⟩ := h
  obtain ⟨_, _, r3, r4, r5, r6, _⟩ := red_facts h1 h2
  exact ⟨r4, r3, Int.ediv_le_ediv (gcdI_pos h2) h3, by unfold red'; omega⟩
theorem partsU_ok : ∀ (rs : List (Int × Int)) (ht : ∀ t ∈ rs, TkOk t) (a b : Int), 0 ≤ a → 0 < b → a ≤ b → b * 1000 ^ rs.length ≤ 1000000000000000000000000000 → ∀ x ∈ partsU rs a b, FrOk x
  | [], _, a, b, ha, hb, hab, hB, x, hx => by
    have : x = (a, b) := by simpa [partsU] using hx
    subst this
    rw [List.length_nil, Int.pow_zero, Int.mul_one] at hB
    exact ⟨ha, hb, hab, hB⟩
  | t :: rs, ht, a, b, ha, hb, hab, hB, x, hx => by
    obtain ⟨t1, t2, t3, t4⟩ := ht t List.mem_cons_self
    have hpow : (1000 : Int) ^ (rs.length + 1) = 1000 ^ rs.length * 1000 := Int.pow_succ ..
    rw [List.length_cons, hpow, Int.mul_comm (1000 ^ rs.length), ← Int.mul_assoc] at hB
    have hp1 : (1 : Int) ≤ 1000 ^ rs.length := Int.pow_pos (by decide)
    have hB1 : b * 1000 * 1 ≤ b * 1000 * 1000 ^ rs.length := Int.mul_le_mul_of_nonneg_left hp1 (by omega)
    have hbt : b * t.1 ≤ b * 1000 := Int.mul_le_mul_of_nonneg_left t2 (by omega)
    have hb1 : b * 1 ≤ b * t.1 := Int.mul_le_mul_of_nonneg_left (by omega) (by omega)
    have hbp : 0 < b * t.1 := Int.mul_pos hb (by omega)
    have hle : b * t.1 * 1000 ^ rs.length ≤ b * 1000 * 1000 ^ rs.length := Int.mul_le_mul_of_nonneg_right hbt (by omega)
    rcases List.mem_cons.mp (show x ∈ (a, b * t.1) :: partsU rs (a * (t.1 - 1)) (b * t.1) from hx) with rfl | hx
    · exact ⟨ha, hbp, by dsimp only; omega, by dsimp only; omega⟩
    · have a1 : a * (t.1 - 1) ≤ b * t.1 := by
        have z1 : a * (t.1 - 1) ≤ a * t.1 := Int.mul_le_mul_of_nonneg_left (by omega) ha
        have z2 : a * t.1 ≤ b * t.1 := Int.mul_le_mul_of_nonneg_right hab (by omega)
        omega
      exact partsU_ok rs (fun t h => ht t (List.mem_cons_of_mem _ h)) _ _ (Int.mul_nonneg ha (by omega)) hbp a1 (by omega) x hx
/-! ### sums -/
def plusG (x y : Int × Int) : Int × Int := redG (x.1 * y.2 + y.1 * x.2) (x.2 * y.2)
theorem plus_red {u v : Int × Int} (hu : 0 ≤ u.1) (hu2 : 0 < u.2) (hv : 0 ≤ v.1) (hv2 : 0 < v.2) : plusG (red' u) (red' v) = redG (u.1 * v.2 + v.1 * u.2) (u.2 * v.2) := by
  obtain ⟨a1, a2, a3, a4, _, _, _⟩ := red_facts hu hu2
  obtain ⟨c1, c2, c3, c4, _, _, _⟩ := red_facts hv hv2
  unfold plusG red'
  generalize redG u.1 u.2 = x at *
  generalize redG v.1 v.2 = y at *
  generalize gcdI u.1 u.2 = g at *
  generalize gcdI v.1 v.2 = k at *
  have n1 : 0 ≤ x.1 * y.2 + y.1 * x.2 := Int.add_nonneg (Int.mul_nonneg a4 (by omega)) (Int.mul_nonneg c4 (by omega))
  have n2 : 0 ≤ u.1 * v.2 + v.1 * u.2 := Int.add_nonneg (Int.mul_nonneg hu (by omega)) (Int.mul_nonneg hv (by omega))
  refine red_eq n1 n2 (Int.mul_pos a3 c3) (Int.mul_pos hu2 hv2) ?_
  rw [← a1, ← a2, ← c1, ← c2]
  grind
theorem red_le {u v : Int × Int} (hu : 0 ≤ u.1) (hu2 : 0 < u.2) (hv : 0 ≤ v.1) (hv2 : 0 < v.2) (h : v.1 * u.2 ≤ u.1 * v.2) : (red' v).1 * (red' u).2 ≤ (red' u).1 * (red' v).2 := by
  obtain ⟨a1, a2, a3, a4, _, _, _⟩ := red_facts hu hu2
  obtain ⟨c1, c2, c3, c4, _, _, _⟩ := red_facts hv hv2
  have g0 := gcdI_pos (a := u.1) hu2
  have k0 := gcdI_pos (a := v.1) hv2
  unfold red'
  generalize redG u.1 u.2 = x at *
  generalize redG v.1 v.2 = y at *
  generalize gcdI u.1 u.2 = g at *
  generalize gcdI v.1 v.2 = k at *
  rw [← a1, ← a2, ← c1, ← c2] at h
  refine Int.le_of_mul_le_mul_right (a := g * k) ?_ (Int.mul_pos g0 k0)
  have e1 : y.1 * k * (x.2 * g) = y.1 * x.2 * (g * k) := by grind
  have e2 : x.1 * g * (y.2 * k) = x.1 * y.2 * (g * k) := by grind
  rw [← e1, ← e2]
  exact h
theorem sum_parts : ∀ (rs : List (Int × Int)) (ht : ∀ t ∈ rs, TkOk t) (a b : Int), 0 ≤ a → 0 < b → a ≤ b → ((partsU rs a b).map red').foldl plusG (red' (b - a, b)) = (1, 1)
  | [], _, a, b, ha, hb, hab => by
    show plusG (red' (b - a, b)) (red' (a, b)) = (1, 1)
    rw [plus_red (by dsimp only; omega) hb ha hb]
    have h1 : redG 1 1 = (1, 1) := by decide +kernel
    rw [← h1]
    refine red_eq ?_ (by decide) (Int.mul_pos hb hb) (by decide) (by dsimp only; grind)
    exact Int.add_nonneg (Int.mul_nonneg (by dsimp only; omega) (by dsimp only; omega)) (Int.mul_nonneg ha (by dsimp only; omega))
  | t :: rs, ht, a, b, ha, hb, hab => by
    obtain ⟨t1, t2, t3, t4⟩ := ht t List.mem_cons_self
    have hbp : 0 < b * t.1 := Int.mul_pos hb (by omega)
    have z1 : a * (t.1 - 1) ≤ a * t.1 := Int.mul_le_mul_of_nonneg_left (by omega) ha
    have z2 : a * t.1 ≤ b * t.1 := Int.mul_le_mul_of_nonneg_right hab (by omega)
    have z3 : 0 ≤ a * (t.1 - 1) := Int.mul_nonneg ha (by omega)
    show ((partsU rs (a * (t.1 - 1)) (b * t.1)).map red').foldl plusG (plusG (red' (b - a, b)) (red' (a, b * t.1))) = (1, 1)
    have e : plusG (red' (b - a, b)) (red' (a, b * t.1)) = red' (b * t.1 - a * (t.1 - 1), b * t.1) := by
      rw [plus_red (by dsimp only; omega) hb ha hbp]
      refine red_eq ?_ (by dsimp only; omega) (Int.mul_pos hb hbp) hbp (by dsimp only; grind)
      exact Int.add_nonneg (Int.mul_nonneg (by dsimp only; omega) (by dsimp only; omega)) (Int.mul_nonneg ha (by dsimp only; omega))
    rw [e]
    exact sum_parts rs (fun t h => ht t (List.mem_cons_of_mem _ h)) _ _ z3 hbp (by omega)
theorem pr_pos : ∀ (rs : List (Int × Int)), (∀ t ∈ rs, TkOk t) → 0 < prA rs ∧ 0 < prB rs
  | [], _ => ⟨by decide, by decide⟩
  | t :: rs, ht => by
    obtain ⟨t1, t2, t3, t4⟩ := ht t List.mem_cons_self
    obtain ⟨h1, h2⟩ := pr_pos rs fun t h => ht t (List.mem_cons_of_mem _ h)
    exact ⟨Int.mul_pos (by omega) h1, Int.mul_pos (by omega) h2⟩
/-- two neighbours -/
theorem parts_two (pre : List (Int × Int)) (x y : Int × Int) (post : List (Int × Int)) : (partsU (pre ++ x :: y :: post) 1 1).map red' = (initU pre 1 1).map red' ++ red' (prA pre, prB pre * x.1) :: red' (prA pre * (x.1 - 1), prB pre * x.1 * y.1) :: (partsU post (prA pre * (x.1 - 1) * (y.1 - 1)) (prB pre * x.1 * y.1)).map red' := by
  rw [partsU_app, List.map_append, Int.one_mul, Int.one_mul]
  rfl
theorem two_sum {A B x y : Int} (hA : 0 < A) (hB : 0 < B) (hx : 2 ≤ x) (hy : 2 ≤ y) : plusG (red' (A, B * y)) (red' (A * (y - 1), B * y * x)) = plusG (red' (A, B * x)) (red' (A * (x - 1), B * x * y)) := by
  have p1 : ∀ z : Int, 2 ≤ z → 0 < B * z := fun z hz => Int.mul_pos hB (by omega)
  have p2 : ∀ z : Int, 2 ≤ z → 0 ≤ A * (z - 1) := fun z hz => Int.mul_nonneg (by omega) (by omega)
  have p3 : 0 < B * x * y := Int.mul_pos (p1 x hx) (by omega)
  have p4 : 0 < B * y * x := Int.mul_pos (p1 y hy) (by omega)
  rw [plus_red (Int.le_of_lt hA) (p1 y hy) (p2 y hy) p4, plus_red (Int.le_of_lt hA) (p1 x hx) (p2 x hx) p3]
  dsimp only
  have q1 := p1 x hx
  have q2 := p1 y hy
  have q3 := p2 x hx
  have q4 := p2 y hy
  refine red_eq (Int.add_nonneg (Int.mul_nonneg (by omega) (by omega)) (Int.mul_nonneg q4 (by omega))) (Int.add_nonneg (Int.mul_nonneg (by omega) (by omega)) (Int.mul_nonneg q3 (by omega))) (Int.mul_pos q2 p4) (Int.mul_pos q1 p3) (by grind)
theorem two_le {A B x y : Int} (hA : 0 < A) (hB : 0 < B) (hx : 2 ≤ x) (hy : 2 ≤ y) : (red' (A * (x - 1), B * x * y)).1 * (red' (A, B * y)).2 ≤ (red' (A, B * y)).1 * (red' (A * (x - 1), B * x * y)).2 := by
  have p1 : 0 < B * x * y := Int.mul_pos (Int.mul_pos hB (by omega)) (by omega)
  have p2 : 0 < B * y := Int.mul_pos hB (by omega)
  refine red_le (u := (A, B * y)) (v := (A * (x - 1), B * x * y)) (Int.le_of_lt hA) p2 (Int.mul_nonneg (by omega) (by omega)) p1 ?_
  dsimp only
  have e : A * (B * x * y) = A * (x - 1) * (B * y) + A * (B * y) := by grind
  have : 0 < A * (B * y) := Int.mul_pos hA p2
  omega
end Pd

set_option maxRecDepth 100000
set_option maxHeartbeats 4000000
/-! fractions added; a drawn order -/
namespace Pd
open PySem L2
def seqI (n : Nat) : List Int := (List.range n).map fun i => (1 : Int) + (i : Nat)
theorem seqI_succ (n : Nat) : seqI (n + 1) = seqI n ++ [1 + (n : Int)] := by
  unfold seqI
  rw [List.range_succ, List.map_append]
  rfl
def sp_law_mixed : DSp
  | [.bag, .dat (.int n)], R => 0 ≤ n ∧ n ≤ 1000 ∧ ∀ l : List Int, l.Perm (seqI n.toNat) → R (.dat (.tuple (l.map .int)))
  | _, _ => False
/-- _law_mixed: 0 bag, 1 many, 2 found, 3 one -/
abbrev b_law_mixed : DS := (dSeq (dAsgN (nLst nNil) 2)
  (dSeq (dFor (itR2 (nCons (dC (.int 1)) (nCons (d2 addD (dVar 1) (dC (.int 1))) nNil))) (gdName 3)
  (dInsert 2 (dCall sp_law_take (aBag 0 (aDat (dVar 3) aNil))) (dVar 3)))
  (dRet (dCB tupleD (nCons (dOwn 2) nNil)))))
theorem mixed_loop {D : DEnds} {x1 : Option SV} {g : DG} {tb : DS} (hg : g = gdName 3) (htb : tb = (dInsert 2 (dCall sp_law_take (aBag 0 (aDat (dVar 3) aNil))) (dVar 3))) :
    ∀ (m k : Nat) (acc : List Int) (x3 : Option SV), k + m ≤ 1000 → acc.Perm (seqI k) → (∀ (acc' : List Int) (x3 : Option SV), acc'.Perm (seqI (k + m)) → D.nx [some .bag, x1, some (.own (acc'.map .int)), x3]) →
      dForL g tb ((List.range' k m).map fun i => .int ((1 : Int) + (i : Nat))) D [some .bag, x1, some (.own (acc.map .int)), x3]
  | 0, k, acc, x3, _, hp, h => h acc x3 hp
  | m + 1, k, acc, x3, hk, hp, h => by
    have next : ∀ (acc' : List Int) (x3 : Option SV), acc'.Perm (seqI (k + 1)) → dForL g tb ((List.range' (k + 1) m).map fun i => .int ((1 : Int) + (i : Nat))) D [some .bag, x1, some (.own (acc'.map .int)), x3] := fun acc' x3 hp' => mixed_loop hg htb m (k + 1) acc' x3 (by omega) hp' fun acc2 y3 h2 => h acc2 y3 (by rw [show k + (m + 1) = k + 1 + m by omega]; exact h2)
    have hl : acc.length = k := by
      rw [hp.length_eq]
      simp [seqI]
    rw [List.range'_succ, List.map_cons, dForL_cons]
    generalize dForL g tb ((List.range' (k + 1) m).map fun i => .int ((1 : Int) + (i : Nat))) D = rest at *
    rw [hg, htb]
    clear htb hg
    simp only [show (0 : Int) < 1 + (k : Int) by omega, List.length_map, show acc.length < 1000000 by omega, dSeq, dAsgG, dAsgN, dRet, dRetN, dRetO, dRet0, dDrop, dIfS, dNext, dApp, dInsert, q_setI, q_setQ, q_take, dFor, dFreeze, dNever, q_par, q_parQ, q_par3, q_parQ3, dParNE, dParDE, gdName, q_gnil, q_gcons, q_gtup, dVar, dOwn, dC, d1, d2, n2, nCons, nNil, nLst, dTup, dFr, dTest, dAnd, dOr, dNot, dAndV, dOrV, dNotV, dIf, dChain, dCB, nCB, dCall, nCall, aDat, aBag, aNil, q_neg, q_add, q_addl, q_addt, q_sub, q_mul, q_mull, q_mult, q_fdiv, q_mod, q_pow, q_lt, q_le, q_gt, q_ge, eqD, neD, isD, isntD, q_isnn, q_isni, q_isnb, q_isnt, q_isnl, q_lenl, q_lent, q_inti, q_intb, q_max2, q_min2, q_listl, q_listt, q_tuplel, q_tuplet, q_sum, q_min, q_max, allD, itSeq, itR1, q_itR2, q_rng2, q_en, q_en1, q_zip, q_zipQ, q_seqr, q_lenr, q_ixr, q_seql, q_seqt, q_rvd, q_rvn, q_catn, q_ixl, q_ixt, q_sl, q_sll, q_slt, q_slr, nSlL, oNone, oSome, nLc, wipeD, q_dropc, q_dropxd, q_dropxb, q_dropxo, q_dropxn, q_drope, dYes, dCnt, q_revl, q_revt, q_revr, nListRg, dTupRg, exInts, exOpt, q_addr1, q_addrr, q_ixk0, q_ixk1, exRow, exTk, cntL, cntQ_some, cntQ_none, List.getElem?_cons_zero, List.getElem?_cons_succ, List.getElem?_nil, Option.some.injEq, SV.dat.injEq, SV.own.injEq, PyData.int.injEq, PyData.bool.injEq, PyData.tuple.injEq, PyData.list.injEq, PyData.str.injEq, RVd.new.injEq, RVd.dat.injEq, exists_eq_left, exists_eq_left', exists_eq_right, List.cons.injEq, List.set_cons_zero, List.set_cons_succ, reduceCtorEq, and_true, true_and, false_and, and_false, not_true_eq_false, not_false_eq_true, if_true, if_false, ite_true, ite_false, decide_eq_true_eq, Bool.not_eq_true', decide_eq_false_iff_not, Bool.and_true, Bool.true_and, Bool.and_false, Bool.false_and, Bool.not_true, Bool.not_false, Bool.false_eq_true, List.map_cons, List.map_nil, List.length_cons, List.length_nil, Nat.zero_add, Nat.reduceAdd, Nat.reduceLeDiff, startd, List.replicate_succ, List.replicate_zero, List.nil_append, List.cons_append, Nat.reduceSub, exists_const, and_self, shp_int, shp_none, shp_bool, eqv_int, dForL_nil, lcL_nil]
    intro r r0 r1
    refine ⟨⟨r0, by omega⟩, ?_⟩
    have e : (acc.map PyData.int).take r.toNat ++ [.int (1 + (k : Int))] ++ (acc.map PyData.int).drop r.toNat = (acc.take r.toNat ++ [1 + (k : Int)] ++ acc.drop r.toNat).map PyData.int := by
      rw [List.map_append, List.map_append, List.map_take, List.map_drop]
      rfl
    rw [e]
    refine next _ _ ?_
    rw [seqI_succ, List.append_assoc]
    have h1 : (acc.take r.toNat ++ ([1 + (k : Int)] ++ acc.drop r.toNat)).Perm ([1 + (k : Int)] ++ (acc.take r.toNat ++ acc.drop r.toNat)) := List.perm_append_comm_assoc ..
    rw [List.take_append_drop] at h1
    exact h1.trans ((List.perm_append_comm).trans (hp.append_right _))
theorem rd_law_mixed (svs : List SV) (R : RVd → Prop) (h : sp_law_mixed svs R) : b_law_mixed { nx := fun _ => R (.dat .none), rt := R } (startd 4 svs) := by
  unfold sp_law_mixed at h
  split at h
  · rename_i n
    obtain ⟨n0, n1, h⟩ := h
    simp only [b_law_mixed, dSeq, dAsgG, dAsgN, dRet, dRetN, dRetO, dRet0, dDrop, dIfS, dNext, dApp, dInsert, q_setI, q_setQ, q_take, dFor, dFreeze, dNever, q_par, q_parQ, q_par3, q_parQ3, dParNE, dParDE, gdName, q_gnil, q_gcons, q_gtup, dVar, dOwn, dC, d1, d2, n2, nCons, nNil, nLst, dTup, dFr, dTest, dAnd, dOr, dNot, dAndV, dOrV, dNotV, dIf, dChain, dCB, nCB, dCall, nCall, aDat, aBag, aNil, q_neg, q_add, q_addl, q_addt, q_sub, q_mul, q_mull, q_mult, q_fdiv, q_mod, q_pow, q_lt, q_le, q_gt, q_ge, eqD, neD, isD, isntD, q_isnn, q_isni, q_isnb, q_isnt, q_isnl, q_lenl, q_lent, q_inti, q_intb, q_max2, q_min2, q_listl, q_listt, q_tuplel, q_tuplet, q_sum, q_min, q_max, allD, itSeq, itR1, q_itR2, q_rng2, q_en, q_en1, q_zip, q_zipQ, q_seqr, q_lenr, q_ixr, q_seql, q_seqt, q_rvd, q_rvn, q_catn, q_ixl, q_ixt, q_sl, q_sll, q_slt, q_slr, nSlL, oNone, oSome, nLc, wipeD, q_dropc, q_dropxd, q_dropxb, q_dropxo, q_dropxn, q_drope, dYes, dCnt, q_revl, q_revt, q_revr, nListRg, dTupRg, exInts, exOpt, q_addr1, q_addrr, q_ixk0, q_ixk1, exRow, exTk, cntL, cntQ_some, cntQ_none, List.getElem?_cons_zero, List.getElem?_cons_succ, List.getElem?_nil, Option.some.injEq, SV.dat.injEq, SV.own.injEq, PyData.int.injEq, PyData.bool.injEq, PyData.tuple.injEq, PyData.list.injEq, PyData.str.injEq, RVd.new.injEq, RVd.dat.injEq, exists_eq_left, exists_eq_left', exists_eq_right, List.cons.injEq, List.set_cons_zero, List.set_cons_succ, reduceCtorEq, and_true, true_and, false_and, and_false, not_true_eq_false, not_false_eq_true, if_true, if_false, ite_true, ite_false, decide_eq_true_eq, Bool.not_eq_true', decide_eq_false_iff_not, Bool.and_true, Bool.true_and, Bool.and_false, Bool.false_and, Bool.not_true, Bool.not_false, Bool.false_eq_true, List.map_cons, List.map_nil, List.length_cons, List.length_nil, Nat.zero_add, Nat.reduceAdd, Nat.reduceLeDiff, startd, List.replicate_succ, List.replicate_zero, List.nil_append, List.cons_append, Nat.reduceSub, exists_const, and_self, shp_int, shp_none, shp_bool, eqv_int, dForL_nil, lcL_nil]
    refine ⟨⟨by decide, by decide, by omega, by omega⟩, ?_⟩
    unfold rngD
    rw [show (n + 1 - 1).toNat = n.toNat by omega, List.range_eq_range']
    refine mixed_loop rfl rfl n.toNat 0 [] _ (by omega) (List.Perm.refl _) fun acc' x3 hp => ?_
    simp only [dSeq, dAsgG, dAsgN, dRet, dRetN, dRetO, dRet0, dDrop, dIfS, dNext, dApp, dInsert, q_setI, q_setQ, q_take, dFor, dFreeze, dNever, q_par, q_parQ, q_par3, q_parQ3, dParNE, dParDE, gdName, q_gnil, q_gcons, q_gtup, dVar, dOwn, dC, d1, d2, n2, nCons, nNil, nLst, dTup, dFr, dTest, dAnd, dOr, dNot, dAndV, dOrV, dNotV, dIf, dChain, dCB, nCB, dCall, nCall, aDat, aBag, aNil, q_neg, q_add, q_addl, q_addt, q_sub, q_mul, q_mull, q_mult, q_fdiv, q_mod, q_pow, q_lt, q_le, q_gt, q_ge, eqD, neD, isD, isntD, q_isnn, q_isni, q_isnb, q_isnt, q_isnl, q_lenl, q_lent, q_inti, q_intb, q_max2, q_min2, q_listl, q_listt, q_tuplel, q_tuplet, q_sum, q_min, q_max, allD, itSeq, itR1, q_itR2, q_rng2, q_en, q_en1, q_zip, q_zipQ, q_seqr, q_lenr, q_ixr, q_seql, q_seqt, q_rvd, q_rvn, q_catn, q_ixl, q_ixt, q_sl, q_sll, q_slt, q_slr, nSlL, oNone, oSome, nLc, wipeD, q_dropc, q_dropxd, q_dropxb, q_dropxo, q_dropxn, q_drope, dYes, dCnt, q_revl, q_revt, q_revr, nListRg, dTupRg, exInts, exOpt, q_addr1, q_addrr, q_ixk0, q_ixk1, exRow, exTk, cntL, cntQ_some, cntQ_none, List.getElem?_cons_zero, List.getElem?_cons_succ, List.getElem?_nil, Option.some.injEq, SV.dat.injEq, SV.own.injEq, PyData.int.injEq, PyData.bool.injEq, PyData.tuple.injEq, PyData.list.injEq, PyData.str.injEq, RVd.new.injEq, RVd.dat.injEq, exists_eq_left, exists_eq_left', exists_eq_right, List.cons.injEq, List.set_cons_zero, List.set_cons_succ, reduceCtorEq, and_true, true_and, false_and, and_false, not_true_eq_false, not_false_eq_true, if_true, if_false, ite_true, ite_false, decide_eq_true_eq, Bool.not_eq_true', decide_eq_false_iff_not, Bool.and_true, Bool.true_and, Bool.and_false, Bool.false_and, Bool.not_true, Bool.not_false, Bool.false_eq_true, List.map_cons, List.map_nil, List.length_cons, List.length_nil, Nat.zero_add, Nat.reduceAdd, Nat.reduceLeDiff, startd, List.replicate_succ, List.replicate_zero, List.nil_append, List.cons_append, Nat.reduceSub, exists_const, and_self, shp_int, shp_none, shp_bool, eqv_int, dForL_nil, lcL_nil]
    rw [Nat.zero_add] at hp
    exact h acc' hp
  · exact h.elim
theorem len_law_mixed (svs : List SV) (R : RVd → Prop) (h : sp_law_mixed svs R) : svs.length = 2 := by
  unfold sp_law_mixed at h
  split at h
  · rfl
  · exact h.elim
end Pd

set_option maxRecDepth 100000
set_option maxHeartbeats 4000000
/-! orders of places; in which orders takers take told numbers -/
namespace Pd
open PySem L2
def ordD (o : List Int) : PyData := .tuple (o.map .int)
def rngI (n : Nat) : List Int := (List.range n).map fun (i : Nat) => ((i : Nat) : Int)
def moreG (n : Nat) (o : List Int) : List (List Int) := ((rngI n).filter fun p => !decide (p ∈ o)).map fun p => o ++ [p]
def stepG (n : Nat) (os : List (List Int)) : List (List Int) := (os.map (moreG n)).flatten
def ordsG (n : Nat) : Nat → List (List Int) → List (List Int)
  | 0, os => os
  | k + 1, os => ordsG n k (stepG n os)
def ordersG (n : Nat) : List (List Int) := ordsG n n [[]]
theorem rng_eq (n : Nat) : rngD 0 n = (rngI n).map .int := by
  unfold rngD rngI
  rw [List.map_map]
  refine List.map_congr_left fun i _ => ?_
  show PyData.int (0 + (i : Nat)) = .int ((i : Nat) : Int)
  rw [Int.zero_add]
theorem rngI_len (n : Nat) : (rngI n).length = n := by simp [rngI]
theorem more_len (n : Nat) (o : List Int) : (moreG n o).length ≤ n := by
  unfold moreG
  rw [List.length_map]
  have := List.length_filter_le (fun p => !decide (p ∈ o)) (rngI n)
  rw [rngI_len] at this
  exact this
theorem step_len (n : Nat) : ∀ os : List (List Int), (stepG n os).length ≤ os.length * n
  | [] => by simp [stepG]
  | o :: os => by
    show (moreG n o ++ stepG n os).length ≤ (os.length + 1) * n
    rw [List.length_append, Nat.add_mul, Nat.one_mul]
    have := step_len n os
    have := more_len n o
    omega
/-- a comprehension with a test over ints -/
theorem lc_ints {g : DG} {tt : DT} {te : DE} {env : Denv} {c : Int → Bool} {f : Int → PyData} (ht : ∀ (p : Int) (Q : Bool → Denv → Prop), (g (.int p) env fun env' => tt env' fun b => Q b env') = (g (.int p) env fun env' => Q (c p) env'))
    (he : ∀ (p : Int) (Q : PyData → Prop), (g (.int p) env fun env' => te env' Q) = Q (f p)) (hf : ∀ (p : Int) (P : Prop), (g (.int p) env fun _ => P) = P) :
    ∀ (ps : List Int) (Q : List PyData → Prop), lcL g tt te env (ps.map .int) Q = Q ((ps.filter c).map f)
  | [], Q => rfl
  | p :: ps, Q => by
    show (g (.int p) env fun env' => tt env' fun b => if b = true then te env' fun y => lcL g tt te env (ps.map .int) fun ys => Q (y :: ys) else lcL g tt te env (ps.map .int) Q) = _
    rw [ht p (fun b env' => if b = true then te env' fun y => lcL g tt te env (ps.map .int) fun ys => Q (y :: ys) else lcL g tt te env (ps.map .int) Q)]
    cases hc : c p with
    | true =>
      simp only [if_true]
      rw [he, lc_ints ht he hf ps, List.filter_cons_of_pos hc]
      rfl
    | false =>
      simp only [if_false, Bool.false_eq_true]
      rw [hf, lc_ints ht he hf ps, List.filter_cons_of_neg (by rw [hc]; exact Bool.false_ne_true)]
theorem ord_in {D : DEnds} {n : Nat} {x1 x2 : Option SV} {g : DG} {tb : DS} (hn : n ≤ 6) (hg : g = gdName 4)
    (htb : tb = (dAsgG (d2 addD (dVar 3) (dFr (nLc (itR1 (nCons (dVar 0) nNil)) (gdName 5) (dTest (d2 (inD true) (dVar 5) (dVar 4))) (d2 addD (dVar 4) (dTup (nCons (dVar 5) nNil))) [5]))) (gdName 3))) :
    ∀ (os acc : List (List Int)) (x4 x5 : Option SV), acc.length + os.length * n ≤ 100000 → (∀ o ∈ os, o.length ≤ 6) → (∀ x4 x5, D.nx [some (.dat (.int (n : Nat))), x1, x2, some (.dat (.list ((acc ++ stepG n os).map ordD))), x4, x5]) →
      dForL g tb (os.map ordD) D [some (.dat (.int (n : Nat))), x1, x2, some (.dat (.list (acc.map ordD))), x4, x5]
  | [], acc, x4, x5, _, _, h => by
    have := h x4 x5
    rw [show stepG n [] = [] from rfl, List.append_nil] at this
    exact this
  | o :: os, acc, x4, x5, hl, ho, h => by
    have hlo := ho o List.mem_cons_self
    have hl' : acc.length + (os.length + 1) * n ≤ 100000 := hl
    rw [Nat.add_mul, Nat.one_mul] at hl'
    have hm := more_len n o
    have next := fun x4 x5 => ord_in (D := D) (x1 := x1) (x2 := x2) hn hg htb os (acc ++ moreG n o) x4 x5 (by rw [List.length_append]; omega) (fun o h => ho o (List.mem_cons_of_mem _ h)) (fun x4 x5 => by
      have := h x4 x5
      rw [show stepG n (o :: os) = moreG n o ++ stepG n os from rfl, ← List.append_assoc] at this
      exact this)
    rw [List.map_cons, dForL_cons]
    generalize dForL g tb (os.map ordD) D = rest at *
    rw [hg, htb]
    simp only [ordD, show -(2 : Int) ^ 62 ≤ ((n : Nat) : Int) by omega, show ((n : Nat) : Int) < 2 ^ 62 by omega, Int.toNat_natCast, rngD_len, show n ≤ 1000000 by omega, dSeq, dAsgG, dAsgN, dRet, dRetN, dRetO, dRet0, dDrop, dIfS, dNext, dApp, dInsert, q_setI, q_setQ, q_take, dFor, dFreeze, dNever, q_par, q_parQ, q_par3, q_parQ3, dParNE, dParDE, gdName, q_gnil, q_gcons, q_gtup, dVar, dOwn, dC, d1, d2, n2, nCons, nNil, nLst, dTup, dFr, dTest, dAnd, dOr, dNot, dAndV, dOrV, dNotV, dIf, dChain, dCB, nCB, dCall, nCall, aDat, aBag, aNil, q_neg, q_add, q_addl, q_addt, q_sub, q_mul, q_mull, q_mult, q_fdiv, q_mod, q_pow, q_lt, q_le, q_gt, q_ge, eqD, neD, isD, isntD, q_isnn, q_isni, q_isnb, q_isnt, q_isnl, q_lenl, q_lent, q_inti, q_intb, q_max2, q_min2, q_listl, q_listt, q_tuplel, q_tuplet, q_sum, q_min, q_max, allD, itSeq, itR1, q_itR2, q_rng2, q_en, q_en1, q_zip, q_zipQ, q_seqr, q_lenr, q_ixr, q_seql, q_seqt, q_rvd, q_rvn, q_catn, q_ixl, q_ixt, q_sl, q_sll, q_slt, q_slr, nSlL, oNone, oSome, nLc, wipeD, q_dropc, q_dropxd, q_dropxb, q_dropxo, q_dropxn, q_drope, dYes, dCnt, q_revl, q_revt, q_revr, nListRg, dTupRg, exInts, exOpt, q_addr1, q_addrr, q_ixk0, q_ixk1, exRow, exTk, cntL, cntQ_some, cntQ_none, List.getElem?_cons_zero, List.getElem?_cons_succ, List.getElem?_nil, Option.some.injEq, SV.dat.injEq, SV.own.injEq, PyData.int.injEq, PyData.bool.injEq, PyData.tuple.injEq, PyData.list.injEq, PyData.str.injEq, RVd.new.injEq, RVd.dat.injEq, exists_eq_left, exists_eq_left', exists_eq_right, List.cons.injEq, List.set_cons_zero, List.set_cons_succ, reduceCtorEq, and_true, true_and, false_and, and_false, not_true_eq_false, not_false_eq_true, if_true, if_false, ite_true, ite_false, decide_eq_true_eq, Bool.not_eq_true', decide_eq_false_iff_not, Bool.and_true, Bool.true_and, Bool.and_false, Bool.false_and, Bool.not_true, Bool.not_false, Bool.false_eq_true, List.map_cons, List.map_nil, List.length_cons, List.length_nil, Nat.zero_add, Nat.reduceAdd, Nat.reduceLeDiff, startd, List.replicate_succ, List.replicate_zero, List.nil_append, List.cons_append, Nat.reduceSub, exists_const, and_self, shp_int, shp_none, shp_bool, eqv_int, dForL_nil, lcL_nil]
    rw [rng_eq, lc_ints (c := fun p => !decide (p ∈ o)) (f := fun p => ordD (o ++ [p])) (fun p Q => by simp only [inD, exInts, if_true, dSeq, dAsgG, dAsgN, dRet, dRetN, dRetO, dRet0, dDrop, dIfS, dNext, dApp, dInsert, q_setI, q_setQ, q_take, dFor, dFreeze, dNever, q_par, q_parQ, q_par3, q_parQ3, dParNE, dParDE, gdName, q_gnil, q_gcons, q_gtup, dVar, dOwn, dC, d1, d2, n2, nCons, nNil, nLst, dTup, dFr, dTest, dAnd, dOr, dNot, dAndV, dOrV, dNotV, dIf, dChain, dCB, nCB, dCall, nCall, aDat, aBag, aNil, q_neg, q_add, q_addl, q_addt, q_sub, q_mul, q_mull, q_mult, q_fdiv, q_mod, q_pow, q_lt, q_le, q_gt, q_ge, eqD, neD, isD, isntD, q_isnn, q_isni, q_isnb, q_isnt, q_isnl, q_lenl, q_lent, q_inti, q_intb, q_max2, q_min2, q_listl, q_listt, q_tuplel, q_tuplet, q_sum, q_min, q_max, allD, itSeq, itR1, q_itR2, q_rng2, q_en, q_en1, q_zip, q_zipQ, q_seqr, q_lenr, q_ixr, q_seql, q_seqt, q_rvd, q_rvn, q_catn, q_ixl, q_ixt, q_sl, q_sll, q_slt, q_slr, nSlL, oNone, oSome, nLc, wipeD, q_dropc, q_dropxd, q_dropxb, q_dropxo, q_dropxn, q_drope, dYes, dCnt, q_revl, q_revt, q_revr, nListRg, dTupRg, exInts, exOpt, q_addr1, q_addrr, q_ixk0, q_ixk1, exRow, exTk, cntL, cntQ_some, cntQ_none, List.getElem?_cons_zero, List.getElem?_cons_succ, List.getElem?_nil, Option.some.injEq, SV.dat.injEq, SV.own.injEq, PyData.int.injEq, PyData.bool.injEq, PyData.tuple.injEq, PyData.list.injEq, PyData.str.injEq, RVd.new.injEq, RVd.dat.injEq, exists_eq_left, exists_eq_left', exists_eq_right, List.cons.injEq, List.set_cons_zero, List.set_cons_succ, reduceCtorEq, and_true, true_and, false_and, and_false, not_true_eq_false, not_false_eq_true, if_true, if_false, ite_true, ite_false, decide_eq_true_eq, Bool.not_eq_true', decide_eq_false_iff_not, Bool.and_true, Bool.true_and, Bool.and_false, Bool.false_and, Bool.not_true, Bool.not_false, Bool.false_eq_true, List.map_cons, List.map_nil, List.length_cons, List.length_nil, Nat.zero_add, Nat.reduceAdd, Nat.reduceLeDiff, startd, List.replicate_succ, List.replicate_zero, List.nil_append, List.cons_append, Nat.reduceSub, exists_const, and_self, shp_int, shp_none, shp_bool, eqv_int, dForL_nil, lcL_nil]) (fun p Q => by
      simp only [List.length_map, show o.length + 1 ≤ 1000000 by omega, ordD, List.map_append, dSeq, dAsgG, dAsgN, dRet, dRetN, dRetO, dRet0, dDrop, dIfS, dNext, dApp, dInsert, q_setI, q_setQ, q_take, dFor, dFreeze, dNever, q_par, q_parQ, q_par3, q_parQ3, dParNE, dParDE, gdName, q_gnil, q_gcons, q_gtup, dVar, dOwn, dC, d1, d2, n2, nCons, nNil, nLst, dTup, dFr, dTest, dAnd, dOr, dNot, dAndV, dOrV, dNotV, dIf, dChain, dCB, nCB, dCall, nCall, aDat, aBag, aNil, q_neg, q_add, q_addl, q_addt, q_sub, q_mul, q_mull, q_mult, q_fdiv, q_mod, q_pow, q_lt, q_le, q_gt, q_ge, eqD, neD, isD, isntD, q_isnn, q_isni, q_isnb, q_isnt, q_isnl, q_lenl, q_lent, q_inti, q_intb, q_max2, q_min2, q_listl, q_listt, q_tuplel, q_tuplet, q_sum, q_min, q_max, allD, itSeq, itR1, q_itR2, q_rng2, q_en, q_en1, q_zip, q_zipQ, q_seqr, q_lenr, q_ixr, q_seql, q_seqt, q_rvd, q_rvn, q_catn, q_ixl, q_ixt, q_sl, q_sll, q_slt, q_slr, nSlL, oNone, oSome, nLc, wipeD, q_dropc, q_dropxd, q_dropxb, q_dropxo, q_dropxn, q_drope, dYes, dCnt, q_revl, q_revt, q_revr, nListRg, dTupRg, exInts, exOpt, q_addr1, q_addrr, q_ixk0, q_ixk1, exRow, exTk, cntL, cntQ_some, cntQ_none, List.getElem?_cons_zero, List.getElem?_cons_succ, List.getElem?_nil, Option.some.injEq, SV.dat.injEq, SV.own.injEq, PyData.int.injEq, PyData.bool.injEq, PyData.tuple.injEq, PyData.list.injEq, PyData.str.injEq, RVd.new.injEq, RVd.dat.injEq, exists_eq_left, exists_eq_left', exists_eq_right, List.cons.injEq, List.set_cons_zero, List.set_cons_succ, reduceCtorEq, and_true, true_and, false_and, and_false, not_true_eq_false, not_false_eq_true, if_true, if_false, ite_true, ite_false, decide_eq_true_eq, Bool.not_eq_true', decide_eq_false_iff_not, Bool.and_true, Bool.true_and, Bool.and_false, Bool.false_and, Bool.not_true, Bool.not_false, Bool.false_eq_true, List.map_cons, List.map_nil, List.length_cons, List.length_nil, Nat.zero_add, Nat.reduceAdd, Nat.reduceLeDiff, startd, List.replicate_succ, List.replicate_zero, List.nil_append, List.cons_append, Nat.reduceSub, exists_const, and_self, shp_int, shp_none, shp_bool, eqv_int, dForL_nil, lcL_nil]) (fun p P => by simp only [dSeq, dAsgG, dAsgN, dRet, dRetN, dRetO, dRet0, dDrop, dIfS, dNext, dApp, dInsert, q_setI, q_setQ, q_take, dFor, dFreeze, dNever, q_par, q_parQ, q_par3, q_parQ3, dParNE, dParDE, gdName, q_gnil, q_gcons, q_gtup, dVar, dOwn, dC, d1, d2, n2, nCons, nNil, nLst, dTup, dFr, dTest, dAnd, dOr, dNot, dAndV, dOrV, dNotV, dIf, dChain, dCB, nCB, dCall, nCall, aDat, aBag, aNil, q_neg, q_add, q_addl, q_addt, q_sub, q_mul, q_mull, q_mult, q_fdiv, q_mod, q_pow, q_lt, q_le, q_gt, q_ge, eqD, neD, isD, isntD, q_isnn, q_isni, q_isnb, q_isnt, q_isnl, q_lenl, q_lent, q_inti, q_intb, q_max2, q_min2, q_listl, q_listt, q_tuplel, q_tuplet, q_sum, q_min, q_max, allD, itSeq, itR1, q_itR2, q_rng2, q_en, q_en1, q_zip, q_zipQ, q_seqr, q_lenr, q_ixr, q_seql, q_seqt, q_rvd, q_rvn, q_catn, q_ixl, q_ixt, q_sl, q_sll, q_slt, q_slr, nSlL, oNone, oSome, nLc, wipeD, q_dropc, q_dropxd, q_dropxb, q_dropxo, q_dropxn, q_drope, dYes, dCnt, q_revl, q_revt, q_revr, nListRg, dTupRg, exInts, exOpt, q_addr1, q_addrr, q_ixk0, q_ixk1, exRow, exTk, cntL, cntQ_some, cntQ_none, List.getElem?_cons_zero, List.getElem?_cons_succ, List.getElem?_nil, Option.some.injEq, SV.dat.injEq, SV.own.injEq, PyData.int.injEq, PyData.bool.injEq, PyData.tuple.injEq, PyData.list.injEq, PyData.str.injEq, RVd.new.injEq, RVd.dat.injEq, exists_eq_left, exists_eq_left', exists_eq_right, List.cons.injEq, List.set_cons_zero, List.set_cons_succ, reduceCtorEq, and_true, true_and, false_and, and_false, not_true_eq_false, not_false_eq_true, if_true, if_false, ite_true, ite_false, decide_eq_true_eq, Bool.not_eq_true', decide_eq_false_iff_not, Bool.and_true, Bool.true_and, Bool.and_false, Bool.false_and, Bool.not_true, Bool.not_false, Bool.false_eq_true, List.map_cons, List.map_nil, List.length_cons, List.length_nil, Nat.zero_add, Nat.reduceAdd, Nat.reduceLeDiff, startd, List.replicate_succ, List.replicate_zero, List.nil_append, List.cons_append, Nat.reduceSub, exists_const, and_self, shp_int, shp_none, shp_bool, eqv_int, dForL_nil, lcL_nil])]
    have e1 : ((rngI n).filter fun p => !decide (p ∈ o)).map (fun p => ordD (o ++ [p])) = (moreG n o).map ordD := by
      unfold moreG
      rw [List.map_map]
      rfl
    rw [e1]
    simp only [List.length_map, show acc.length + (moreG n o).length ≤ 1000000 by omega, ← List.map_append, dSeq, dAsgG, dAsgN, dRet, dRetN, dRetO, dRet0, dDrop, dIfS, dNext, dApp, dInsert, q_setI, q_setQ, q_take, dFor, dFreeze, dNever, q_par, q_parQ, q_par3, q_parQ3, dParNE, dParDE, gdName, q_gnil, q_gcons, q_gtup, dVar, dOwn, dC, d1, d2, n2, nCons, nNil, nLst, dTup, dFr, dTest, dAnd, dOr, dNot, dAndV, dOrV, dNotV, dIf, dChain, dCB, nCB, dCall, nCall, aDat, aBag, aNil, q_neg, q_add, q_addl, q_addt, q_sub, q_mul, q_mull, q_mult, q_fdiv, q_mod, q_pow, q_lt, q_le, q_gt, q_ge, eqD, neD, isD, isntD, q_isnn, q_isni, q_isnb, q_isnt, q_isnl, q_lenl, q_lent, q_inti, q_intb, q_max2, q_min2, q_listl, q_listt, q_tuplel, q_tuplet, q_sum, q_min, q_max, allD, itSeq, itR1, q_itR2, q_rng2, q_en, q_en1, q_zip, q_zipQ, q_seqr, q_lenr, q_ixr, q_seql, q_seqt, q_rvd, q_rvn, q_catn, q_ixl, q_ixt, q_sl, q_sll, q_slt, q_slr, nSlL, oNone, oSome, nLc, wipeD, q_dropc, q_dropxd, q_dropxb, q_dropxo, q_dropxn, q_drope, dYes, dCnt, q_revl, q_revt, q_revr, nListRg, dTupRg, exInts, exOpt, q_addr1, q_addrr, q_ixk0, q_ixk1, exRow, exTk, cntL, cntQ_some, cntQ_none, List.getElem?_cons_zero, List.getElem?_cons_succ, List.getElem?_nil, Option.some.injEq, SV.dat.injEq, SV.own.injEq, PyData.int.injEq, PyData.bool.injEq, PyData.tuple.injEq, PyData.list.injEq, PyData.str.injEq, RVd.new.injEq, RVd.dat.injEq, exists_eq_left, exists_eq_left', exists_eq_right, List.cons.injEq, List.set_cons_zero, List.set_cons_succ, reduceCtorEq, and_true, true_and, false_and, and_false, not_true_eq_false, not_false_eq_true, if_true, if_false, ite_true, ite_false, decide_eq_true_eq, Bool.not_eq_true', decide_eq_false_iff_not, Bool.and_true, Bool.true_and, Bool.and_false, Bool.false_and, Bool.not_true, Bool.not_false, Bool.false_eq_true, List.map_cons, List.map_nil, List.length_cons, List.length_nil, Nat.zero_add, Nat.reduceAdd, Nat.reduceLeDiff, startd, List.replicate_succ, List.replicate_zero, List.nil_append, List.cons_append, Nat.reduceSub, exists_const, and_self, shp_int, shp_none, shp_bool, eqv_int, dForL_nil, lcL_nil]
    exact next _ _
theorem ord_len (n : Nat) : ∀ (os : List (List Int)) (k : Nat), (∀ o ∈ os, o.length ≤ k) → ∀ o ∈ stepG n os, o.length ≤ k + 1
  | [], k, _, o, h => by simp [stepG] at h
  | q :: os, k, hq, o, h => by
    rcases List.mem_append.mp (show o ∈ moreG n q ++ stepG n os from h) with h | h
    · unfold moreG at h
      obtain ⟨p, _, rfl⟩ := List.mem_map.mp h
      have := hq q List.mem_cons_self
      simp
      omega
    · exact ord_len n os k (fun o h => hq o (List.mem_cons_of_mem _ h)) o h
theorem ord_out {D : DEnds} {n : Nat} {g gi : DG} {tb tbi : DS} (hn : n ≤ 6) (hgi : gi = gdName 4)
    (htbi : tbi = (dAsgG (d2 addD (dVar 3) (dFr (nLc (itR1 (nCons (dVar 0) nNil)) (gdName 5) (dTest (d2 (inD true) (dVar 5) (dVar 4))) (d2 addD (dVar 4) (dTup (nCons (dVar 5) nNil))) [5]))) (gdName 3)))
    (hg : g = gdName 2) (htb : tb = (dSeq (dAsgG (dFr (nLst nNil)) (gdName 3))
  (dSeq (dFor (itSeq (dVar 1)) gi tbi)
  (dAsgG (dVar 3) (gdName 1))))) :
    ∀ (ds : List PyData) (k : Nat) (os : List (List Int)) (x2 x3 x4 x5 : Option SV), ds.length + k ≤ 6 → os.length ≤ 6 ^ k → (∀ o ∈ os, o.length ≤ k) → (∀ x2 x3 x4 x5, D.nx [some (.dat (.int (n : Nat))), some (.dat (.list ((ordsG n ds.length os).map ordD))), x2, x3, x4, x5]) →
      dForL g tb ds D [some (.dat (.int (n : Nat))), some (.dat (.list (os.map ordD))), x2, x3, x4, x5]
  | [], k, os, x2, x3, x4, x5, _, _, _, h => h x2 x3 x4 x5
  | d :: ds, k, os, x2, x3, x4, x5, hk, hl, ho, h => by
    have hk' : ds.length + 1 + k ≤ 6 := hk
    have sl := step_len n os
    have s2 : os.length * n ≤ 6 ^ k * 6 := Nat.mul_le_mul hl hn
    have s3 : (6 : Nat) ^ k ≤ 6 ^ 5 := Nat.pow_le_pow_right (by decide) (by omega)
    have s4 : (6 : Nat) ^ 5 = 7776 := by decide
    have next := fun x2 x3 x4 x5 => ord_out (D := D) hn hgi htbi hg htb ds (k + 1) (stepG n os) x2 x3 x4 x5 (by omega) (by rw [Nat.pow_succ]; omega) (ord_len n os k ho) h
    rw [dForL_cons]
    generalize dForL g tb ds D = rest at *
    rw [hg, htb]
    simp only [dSeq, dAsgG, dAsgN, dRet, dRetN, dRetO, dRet0, dDrop, dIfS, dNext, dApp, dInsert, q_setI, q_setQ, q_take, dFor, dFreeze, dNever, q_par, q_parQ, q_par3, q_parQ3, dParNE, dParDE, gdName, q_gnil, q_gcons, q_gtup, dVar, dOwn, dC, d1, d2, n2, nCons, nNil, nLst, dTup, dFr, dTest, dAnd, dOr, dNot, dAndV, dOrV, dNotV, dIf, dChain, dCB, nCB, dCall, nCall, aDat, aBag, aNil, q_neg, q_add, q_addl, q_addt, q_sub, q_mul, q_mull, q_mult, q_fdiv, q_mod, q_pow, q_lt, q_le, q_gt, q_ge, eqD, neD, isD, isntD, q_isnn, q_isni, q_isnb, q_isnt, q_isnl, q_lenl, q_lent, q_inti, q_intb, q_max2, q_min2, q_listl, q_listt, q_tuplel, q_tuplet, q_sum, q_min, q_max, allD, itSeq, itR1, q_itR2, q_rng2, q_en, q_en1, q_zip, q_zipQ, q_seqr, q_lenr, q_ixr, q_seql, q_seqt, q_rvd, q_rvn, q_catn, q_ixl, q_ixt, q_sl, q_sll, q_slt, q_slr, nSlL, oNone, oSome, nLc, wipeD, q_dropc, q_dropxd, q_dropxb, q_dropxo, q_dropxn, q_drope, dYes, dCnt, q_revl, q_revt, q_revr, nListRg, dTupRg, exInts, exOpt, q_addr1, q_addrr, q_ixk0, q_ixk1, exRow, exTk, cntL, cntQ_some, cntQ_none, List.getElem?_cons_zero, List.getElem?_cons_succ, List.getElem?_nil, Option.some.injEq, SV.dat.injEq, SV.own.injEq, PyData.int.injEq, PyData.bool.injEq, PyData.tuple.injEq, PyData.list.injEq, PyData.str.injEq, RVd.new.injEq, RVd.dat.injEq, exists_eq_left, exists_eq_left', exists_eq_right, List.cons.injEq, List.set_cons_zero, List.set_cons_succ, reduceCtorEq, and_true, true_and, false_and, and_false, not_true_eq_false, not_false_eq_true, if_true, if_false, ite_true, ite_false, decide_eq_true_eq, Bool.not_eq_true', decide_eq_false_iff_not, Bool.and_true, Bool.true_and, Bool.and_false, Bool.false_and, Bool.not_true, Bool.not_false, Bool.false_eq_true, List.map_cons, List.map_nil, List.length_cons, List.length_nil, Nat.zero_add, Nat.reduceAdd, Nat.reduceLeDiff, startd, List.replicate_succ, List.replicate_zero, List.nil_append, List.cons_append, Nat.reduceSub, exists_const, and_self, shp_int, shp_none, shp_bool, eqv_int, dForL_nil, lcL_nil]
    refine ord_in (acc := []) hn hgi htbi os _ _ (by simp; omega) (fun o h => Nat.le_trans (ho o h) (by omega)) fun x4 x5 => ?_
    simp only [List.nil_append, dSeq, dAsgG, dAsgN, dRet, dRetN, dRetO, dRet0, dDrop, dIfS, dNext, dApp, dInsert, q_setI, q_setQ, q_take, dFor, dFreeze, dNever, q_par, q_parQ, q_par3, q_parQ3, dParNE, dParDE, gdName, q_gnil, q_gcons, q_gtup, dVar, dOwn, dC, d1, d2, n2, nCons, nNil, nLst, dTup, dFr, dTest, dAnd, dOr, dNot, dAndV, dOrV, dNotV, dIf, dChain, dCB, nCB, dCall, nCall, aDat, aBag, aNil, q_neg, q_add, q_addl, q_addt, q_sub, q_mul, q_mull, q_mult, q_fdiv, q_mod, q_pow, q_lt, q_le, q_gt, q_ge, eqD, neD, isD, isntD, q_isnn, q_isni, q_isnb, q_isnt, q_isnl, q_lenl, q_lent, q_inti, q_intb, q_max2, q_min2, q_listl, q_listt, q_tuplel, q_tuplet, q_sum, q_min, q_max, allD, itSeq, itR1, q_itR2, q_rng2, q_en, q_en1, q_zip, q_zipQ, q_seqr, q_lenr, q_ixr, q_seql, q_seqt, q_rvd, q_rvn, q_catn, q_ixl, q_ixt, q_sl, q_sll, q_slt, q_slr, nSlL, oNone, oSome, nLc, wipeD, q_dropc, q_dropxd, q_dropxb, q_dropxo, q_dropxn, q_drope, dYes, dCnt, q_revl, q_revt, q_revr, nListRg, dTupRg, exInts, exOpt, q_addr1, q_addrr, q_ixk0, q_ixk1, exRow, exTk, cntL, cntQ_some, cntQ_none, List.getElem?_cons_zero, List.getElem?_cons_succ, List.getElem?_nil, Option.some.injEq, SV.dat.injEq, SV.own.injEq, PyData.int.injEq, PyData.bool.injEq, PyData.tuple.injEq, PyData.list.injEq, PyData.str.injEq, RVd.new.injEq, RVd.dat.injEq, exists_eq_left, exists_eq_left', exists_eq_right, List.cons.injEq, List.set_cons_zero, List.set_cons_succ, reduceCtorEq, and_true, true_and, false_and, and_false, not_true_eq_false, not_false_eq_true, if_true, if_false, ite_true, ite_false, decide_eq_true_eq, Bool.not_eq_true', decide_eq_false_iff_not, Bool.and_true, Bool.true_and, Bool.and_false, Bool.false_and, Bool.not_true, Bool.not_false, Bool.false_eq_true, List.map_cons, List.map_nil, List.length_cons, List.length_nil, Nat.zero_add, Nat.reduceAdd, Nat.reduceLeDiff, startd, List.replicate_succ, List.replicate_zero, List.nil_append, List.cons_append, Nat.reduceSub, exists_const, and_self, shp_int, shp_none, shp_bool, eqv_int, dForL_nil, lcL_nil]
    exact next _ _ _ _
def sp_all_orders : DSp
  | [.dat (.int n)], R => 0 ≤ n ∧ n ≤ 6 ∧ R (.dat (.list ((ordersG n.toNat).map ordD)))
  | _, _ => False
/-- all_orders: 0 many, 1 found, 2 turn, 3 longer, 4 order, 5 place -/
abbrev b_all_orders : DS := (dSeq (dAsgG (dFr (nLst (nCons (dTup nNil) nNil))) (gdName 1))
  (dSeq (dFor (itR1 (nCons (dVar 0) nNil)) (gdName 2)
  (dSeq (dAsgG (dFr (nLst nNil)) (gdName 3))
  (dSeq (dFor (itSeq (dVar 1)) (gdName 4)
  (dAsgG (d2 addD (dVar 3) (dFr (nLc (itR1 (nCons (dVar 0) nNil)) (gdName 5) (dTest (d2 (inD true) (dVar 5) (dVar 4))) (d2 addD (dVar 4) (dTup (nCons (dVar 5) nNil))) [5]))) (gdName 3)))
  (dAsgG (dVar 3) (gdName 1)))))
  (dRet (dVar 1))))
theorem rd_all_orders (svs : List SV) (R : RVd → Prop) (h : sp_all_orders svs R) : b_all_orders { nx := fun _ => R (.dat .none), rt := R } (startd 6 svs) := by
  unfold sp_all_orders at h
  split at h
  · rename_i n
    obtain ⟨n0, n6, h⟩ := h
    obtain ⟨m, rfl⟩ : ∃ m : Nat, n = m := ⟨n.toNat, by omega⟩
    rw [Int.toNat_natCast] at h
    simp only [b_all_orders, show -(2 : Int) ^ 62 ≤ ((m : Nat) : Int) by omega, show ((m : Nat) : Int) < 2 ^ 62 by omega, Int.toNat_natCast, show (0 : Nat) ≤ 1000 by decide, dSeq, dAsgG, dAsgN, dRet, dRetN, dRetO, dRet0, dDrop, dIfS, dNext, dApp, dInsert, q_setI, q_setQ, q_take, dFor, dFreeze, dNever, q_par, q_parQ, q_par3, q_parQ3, dParNE, dParDE, gdName, q_gnil, q_gcons, q_gtup, dVar, dOwn, dC, d1, d2, n2, nCons, nNil, nLst, dTup, dFr, dTest, dAnd, dOr, dNot, dAndV, dOrV, dNotV, dIf, dChain, dCB, nCB, dCall, nCall, aDat, aBag, aNil, q_neg, q_add, q_addl, q_addt, q_sub, q_mul, q_mull, q_mult, q_fdiv, q_mod, q_pow, q_lt, q_le, q_gt, q_ge, eqD, neD, isD, isntD, q_isnn, q_isni, q_isnb, q_isnt, q_isnl, q_lenl, q_lent, q_inti, q_intb, q_max2, q_min2, q_listl, q_listt, q_tuplel, q_tuplet, q_sum, q_min, q_max, allD, itSeq, itR1, q_itR2, q_rng2, q_en, q_en1, q_zip, q_zipQ, q_seqr, q_lenr, q_ixr, q_seql, q_seqt, q_rvd, q_rvn, q_catn, q_ixl, q_ixt, q_sl, q_sll, q_slt, q_slr, nSlL, oNone, oSome, nLc, wipeD, q_dropc, q_dropxd, q_dropxb, q_dropxo, q_dropxn, q_drope, dYes, dCnt, q_revl, q_revt, q_revr, nListRg, dTupRg, exInts, exOpt, q_addr1, q_addrr, q_ixk0, q_ixk1, exRow, exTk, cntL, cntQ_some, cntQ_none, List.getElem?_cons_zero, List.getElem?_cons_succ, List.getElem?_nil, Option.some.injEq, SV.dat.injEq, SV.own.injEq, PyData.int.injEq, PyData.bool.injEq, PyData.tuple.injEq, PyData.list.injEq, PyData.str.injEq, RVd.new.injEq, RVd.dat.injEq, exists_eq_left, exists_eq_left', exists_eq_right, List.cons.injEq, List.set_cons_zero, List.set_cons_succ, reduceCtorEq, and_true, true_and, false_and, and_false, not_true_eq_false, not_false_eq_true, if_true, if_false, ite_true, ite_false, decide_eq_true_eq, Bool.not_eq_true', decide_eq_false_iff_not, Bool.and_true, Bool.true_and, Bool.and_false, Bool.false_and, Bool.not_true, Bool.not_false, Bool.false_eq_true, List.map_cons, List.map_nil, List.length_cons, List.length_nil, Nat.zero_add, Nat.reduceAdd, Nat.reduceLeDiff, startd, List.replicate_succ, List.replicate_zero, List.nil_append, List.cons_append, Nat.reduceSub, exists_const, and_self, shp_int, shp_none, shp_bool, eqv_int, dForL_nil, lcL_nil]
    refine ord_out (n := m) (by omega) rfl rfl rfl rfl _ 0 [[]] _ _ _ _ (by rw [rngD_len]; omega) (by decide) (by simp) fun x2 x3 x4 x5 => ?_
    rw [rngD_len]
    simp only [dSeq, dAsgG, dAsgN, dRet, dRetN, dRetO, dRet0, dDrop, dIfS, dNext, dApp, dInsert, q_setI, q_setQ, q_take, dFor, dFreeze, dNever, q_par, q_parQ, q_par3, q_parQ3, dParNE, dParDE, gdName, q_gnil, q_gcons, q_gtup, dVar, dOwn, dC, d1, d2, n2, nCons, nNil, nLst, dTup, dFr, dTest, dAnd, dOr, dNot, dAndV, dOrV, dNotV, dIf, dChain, dCB, nCB, dCall, nCall, aDat, aBag, aNil, q_neg, q_add, q_addl, q_addt, q_sub, q_mul, q_mull, q_mult, q_fdiv, q_mod, q_pow, q_lt, q_le, q_gt, q_ge, eqD, neD, isD, isntD, q_isnn, q_isni, q_isnb, q_isnt, q_isnl, q_lenl, q_lent, q_inti, q_intb, q_max2, q_min2, q_listl, q_listt, q_tuplel, q_tuplet, q_sum, q_min, q_max, allD, itSeq, itR1, q_itR2, q_rng2, q_en, q_en1, q_zip, q_zipQ, q_seqr, q_lenr, q_ixr, q_seql, q_seqt, q_rvd, q_rvn, q_catn, q_ixl, q_ixt, q_sl, q_sll, q_slt, q_slr, nSlL, oNone, oSome, nLc, wipeD, q_dropc, q_dropxd, q_dropxb, q_dropxo, q_dropxn, q_drope, dYes, dCnt, q_revl, q_revt, q_revr, nListRg, dTupRg, exInts, exOpt, q_addr1, q_addrr, q_ixk0, q_ixk1, exRow, exTk, cntL, cntQ_some, cntQ_none, List.getElem?_cons_zero, List.getElem?_cons_succ, List.getElem?_nil, Option.some.injEq, SV.dat.injEq, SV.own.injEq, PyData.int.injEq, PyData.bool.injEq, PyData.tuple.injEq, PyData.list.injEq, PyData.str.injEq, RVd.new.injEq, RVd.dat.injEq, exists_eq_left, exists_eq_left', exists_eq_right, List.cons.injEq, List.set_cons_zero, List.set_cons_succ, reduceCtorEq, and_true, true_and, false_and, and_false, not_true_eq_false, not_false_eq_true, if_true, if_false, ite_true, ite_false, decide_eq_true_eq, Bool.not_eq_true', decide_eq_false_iff_not, Bool.and_true, Bool.true_and, Bool.and_false, Bool.false_and, Bool.not_true, Bool.not_false, Bool.false_eq_true, List.map_cons, List.map_nil, List.length_cons, List.length_nil, Nat.zero_add, Nat.reduceAdd, Nat.reduceLeDiff, startd, List.replicate_succ, List.replicate_zero, List.nil_append, List.cons_append, Nat.reduceSub, exists_const, and_self, shp_int, shp_none, shp_bool, eqv_int, dForL_nil, lcL_nil]
    exact h
  · exact h.elim
theorem len_all_orders (svs : List SV) (R : RVd → Prop) (h : sp_all_orders svs R) : svs.length = 1 := by
  unfold sp_all_orders at h
  split at h
  · rfl
  · exact h.elim
def sp_law_all_orders : DSp := sp_all_orders
theorem q_lorders {n : Int} {R : RVd → Prop} : sp_law_all_orders [.dat (.int n)] R = (0 ≤ n ∧ n ≤ 6 ∧ R (.dat (.list ((ordersG n.toNat).map ordD)))) := rfl
/-- _law_all_orders: 0 many, 1 found, 2 turn, 3 longer, 4 order, 5 place -/
abbrev b_law_all_orders : DS := (dSeq (dAsgG (dFr (nLst (nCons (dTup nNil) nNil))) (gdName 1))
  (dSeq (dFor (itR1 (nCons (dVar 0) nNil)) (gdName 2)
  (dSeq (dAsgG (dFr (nLst nNil)) (gdName 3))
  (dSeq (dFor (itSeq (dVar 1)) (gdName 4)
  (dAsgG (d2 addD (dVar 3) (dFr (nLc (itR1 (nCons (dVar 0) nNil)) (gdName 5) (dTest (d2 (inD true) (dVar 5) (dVar 4))) (d2 addD (dVar 4) (dTup (nCons (dVar 5) nNil))) [5]))) (gdName 3)))
  (dAsgG (dVar 3) (gdName 1)))))
  (dRet (dVar 1))))
theorem rd_law_all_orders (svs : List SV) (R : RVd → Prop) (h : sp_law_all_orders svs R) : b_law_all_orders { nx := fun _ => R (.dat .none), rt := R } (startd 6 svs) := rd_all_orders svs R h
theorem len_law_all_orders (svs : List SV) (R : RVd → Prop) (h : sp_law_all_orders svs R) : svs.length = 1 := len_all_orders svs R h
/-! ### takers in an order -/
def dflt : Int × Int := (2, 0)
def permG (rs : List (Int × Int)) (o : List Int) : List (Int × Int) := o.map fun p => rs.getD p.toNat dflt
/-- an order of n places -/
def OrdIn (n : Nat) (o : List Int) : Prop := ∀ p ∈ o, 0 ≤ p ∧ p < ((n : Nat) : Int)
theorem at_getD {α : Type} {xs : List α} {p : Int} {d : α} (h0 : 0 ≤ p) (h1 : p < ((xs.length : Nat) : Int)) : atI xs p = some (xs.getD p.toNat d) := by
  obtain ⟨m, rfl⟩ : ∃ m : Nat, p = m := ⟨p.toNat, by omega⟩
  rw [Int.toNat_natCast]
  refine atI_nat ?_
  have hm : m < xs.length := by omega
  rw [List.getD_eq_getElem?_getD, List.getElem?_eq_getElem hm]
  rfl
theorem getD_mem {α : Type} {xs : List α} {m : Nat} {d : α} (h : m < xs.length) : xs.getD m d ∈ xs := by
  rw [List.getD_eq_getElem?_getD, List.getElem?_eq_getElem h]
  exact List.getElem_mem h
theorem perm_ok {rs : List (Int × Int)} (ok : RowOk rs) {o : List Int} (ho : OrdIn rs.length o) (hl : o.length ≤ 8) : RowOk (permG rs o) := ⟨by rw [permG, List.length_map]; exact hl, fun t ht => by
  obtain ⟨p, hp, rfl⟩ := List.mem_map.mp ht
  obtain ⟨h0, h1⟩ := ho p hp
  exact ok.2 _ (getD_mem (by omega))⟩
/-- each takes just what is told of them -/
def fitO (rs : List (Int × Int)) (num : Int) (told : List Int) (o : List Int) : Bool := (List.range o.length).all fun i => decide ((countsG (permG rs o) num).getD i 0 = told.getD (o.getD i 0).toNat 0)
theorem enum_ords {f : Int → Int → Bool} : ∀ (o : List Int) (k : Nat), ((enumD k (o.map .int)).map fun d => match d with | .tuple [.int a, .int p] => PyData.bool (f a p) | _ => .none) = ((List.range o.length).map fun i => PyData.bool (f ((k + i : Nat) : Int) (o.getD i 0)))
  | [], k => rfl
  | p :: o, k => by
    rw [List.length_cons, List.range_succ_eq_map, List.map_cons (l := List.map Nat.succ (List.range o.length)), List.map_map (l := List.range o.length)]
    show PyData.bool (f (k : Nat) p) :: ((enumD (k + 1) (o.map .int)).map _) = _
    rw [enum_ords o (k + 1)]
    congr 1
    refine List.map_congr_left fun i _ => ?_
    show PyData.bool (f ((k + 1 + i : Nat) : Int) (o.getD i 0)) = PyData.bool (f ((k + (i + 1) : Nat) : Int) ((p :: o).getD (i + 1) 0))
    rw [show k + 1 + i = k + (i + 1) by omega]
    rfl
theorem enum_at : ∀ (o : List Int) (k : Nat) (d : PyData), d ∈ enumD k (o.map .int) → ∃ (i : Nat) (p : Int), d = .tuple [.int ((k + i : Nat) : Int), .int p] ∧ i < o.length ∧ p ∈ o
  | [], k, d, h => by simp [enumD] at h
  | x :: xs, k, d, h => by
    rcases List.mem_cons.mp (show d ∈ PyData.tuple [.int (k : Nat), .int x] :: enumD (k + 1) (xs.map .int) from h) with rfl | h
    · exact ⟨0, x, rfl, by simp, by simp⟩
    · obtain ⟨i, p, h1, h2, h3⟩ := enum_at xs (k + 1) d h
      exact ⟨i + 1, p, by rw [h1, show k + 1 + i = k + (i + 1) by omega], by simp; omega, List.mem_cons_of_mem _ h3⟩
theorem ords_in (n : Nat) : ∀ (k : Nat) (os : List (List Int)) (j : Nat), (∀ o ∈ os, OrdIn n o ∧ o.length = j) → ∀ o ∈ ordsG n k os, OrdIn n o ∧ o.length = j + k
  | 0, os, j, h, o, ho => h o ho
  | k + 1, os, j, h, o, ho => by
    have := ords_in n k (stepG n os) (j + 1) (fun q hq => by
      unfold stepG at hq
      obtain ⟨l, hl, hq⟩ := List.mem_flatten.mp hq
      obtain ⟨q0, hq0, rfl⟩ := List.mem_map.mp hl
      unfold moreG at hq
      obtain ⟨p, hp, rfl⟩ := List.mem_map.mp hq
      obtain ⟨h1, h2⟩ := h q0 hq0
      have hp2 := (List.mem_filter.mp hp).1
      unfold rngI at hp2
      obtain ⟨i, hi, rfl⟩ := List.mem_map.mp hp2
      have := List.mem_range.mp hi
      refine ⟨fun x hx => ?_, by simp [h2]⟩
      rcases List.mem_append.mp hx with hx | hx
      · exact h1 x hx
      · have : x = ((i : Nat) : Int) := by simpa using hx
        omega) o ho
    exact ⟨this.1, by rw [this.2]; omega⟩
theorem orders_in {n : Nat} {o : List Int} (h : o ∈ ordersG n) : OrdIn n o ∧ o.length = n := by
  have := ords_in n n [[]] 0 (fun q hq => by
    have : q = [] := by simpa using hq
    subst this
    exact ⟨fun p hp => by simp at hp, rfl⟩) o h
  simpa using this
theorem ords_len (n : Nat) : ∀ (k : Nat) (os : List (List Int)), (ordsG n k os).length ≤ os.length * n ^ k
  | 0, os => by simp [ordsG]
  | k + 1, os => by
    have := ords_len n k (stepG n os)
    have h2 := Nat.mul_le_mul_right (n ^ k) (step_len n os)
    rw [Nat.pow_succ, Nat.mul_comm (n ^ k) n, ← Nat.mul_assoc]
    exact Nat.le_trans this h2
theorem orders_len {n : Nat} (h : n ≤ 6) : (ordersG n).length ≤ 46656 := by
  have h1 := ords_len n n [[]]
  have h2 : n ^ n ≤ 6 ^ 6 := Nat.le_trans (Nat.pow_le_pow_left h n) (Nat.pow_le_pow_right (by decide) h)
  have h3 : (6 : Nat) ^ 6 = 46656 := by decide
  unfold ordersG
  simp at h1
  omega
def sp_orders_for : DSp
  | [.dat d, .dat (.int num), .dat t], R => ∃ rs, d = rowD rs ∧ RowOk rs ∧ rs.length ≤ 6 ∧ 0 ≤ num ∧ num ≤ 1000000000000000000 ∧ ∃ told : List Int, t = .list (told.map .int) ∧ told.length = rs.length ∧ (∀ x ∈ told, 0 ≤ x ∧ x ≤ 1000000000000000000) ∧ R (.new (((ordersG rs.length).filter (fitO rs num told)).map ordD))
  | _, _ => False
/-- orders_for: 0 row, 1 number, 2 told, 3 found, 4 order, 5 some, 6 one, 7 place, 8 at -/
abbrev b_orders_for : DS := (dSeq (dDrop (dCall sp_need_row (aDat (dVar 0) aNil)))
  (dSeq (dDrop (dCall sp_need_number (aDat (dVar 1) (aDat (dC (.int 0)) (aDat (dC (.int 1000000000000000000)) aNil)))))
  (dSeq (dIfS (dOr (dNot (dTest (d1 (isiD "list") (dVar 2)))) (dOr (dTest (d2 neD (dCB lenD (nCons (dVar 2) nNil)) (dCB lenD (nCons (dVar 0) nNil)))) (dNot (dTest (dCB allD (nCons (dFr (nLc (itSeq (dVar 2)) (gdName 6) dYes (dCall sp_is_within (aDat (dVar 6) (aDat (dC (.int 0)) (aDat (dC (.int 1000000000000000000)) aNil)))) [6])) nNil)))))) dNever dNext)
  (dSeq (dIfS (dTest (d2 gtD (dCB lenD (nCons (dVar 0) nNil)) (dC (.int 6)))) dNever dNext)
  (dSeq (dAsgN (nLst nNil) 3)
  (dSeq (dFor (itSeq (dCall sp_all_orders (aDat (dCB lenD (nCons (dVar 0) nNil)) aNil))) (gdName 4)
  (dSeq (dAsgG (dCall sp_counts (aDat (dCB tupleD (nCons (dFr (nLc (itSeq (dVar 4)) (gdName 7) dYes (d2 ixD (dVar 0) (dVar 7)) [7])) nNil)) (aDat (dVar 1) aNil))) (gdName 5))
  (dIfS (dTest (dCB allD (nCons (dFr (nLc (itEn (nCons (dVar 4) nNil)) (gdTup 2 (gdCons (gdName 8) (gdCons (gdName 7) gdNil))) dYes (d2 eqD (d2 ixD (dVar 5) (dVar 8)) (d2 ixD (dVar 2) (dVar 7))) [8, 7])) nNil))) (dApp 3 (dVar 4)) dNext)))
  (dRetO 3)))))))
theorem for_loop {D : DEnds} {rs : List (Int × Int)} {num : Int} {told : List Int} {x6 : Option SV} {g : DG} {tb : DS} (ok : RowOk rs) (ht : told.length = rs.length) (hg : g = gdName 4)
    (htb : tb = (dSeq (dAsgG (dCall sp_counts (aDat (dCB tupleD (nCons (dFr (nLc (itSeq (dVar 4)) (gdName 7) dYes (d2 ixD (dVar 0) (dVar 7)) [7])) nNil)) (aDat (dVar 1) aNil))) (gdName 5))
  (dIfS (dTest (dCB allD (nCons (dFr (nLc (itEn (nCons (dVar 4) nNil)) (gdTup 2 (gdCons (gdName 8) (gdCons (gdName 7) gdNil))) dYes (d2 eqD (d2 ixD (dVar 5) (dVar 8)) (d2 ixD (dVar 2) (dVar 7))) [8, 7])) nNil))) (dApp 3 (dVar 4)) dNext))) :
    ∀ (os acc : List (List Int)) (x4 x5 x7 x8 : Option SV), (∀ o ∈ os, OrdIn rs.length o ∧ o.length = rs.length) → acc.length + os.length ≤ 100000 →
      (∀ x4 x5 x7 x8, D.nx [some (.dat (rowD rs)), some (.dat (.int num)), some (.dat (.list (told.map .int))), some (.own ((acc ++ os.filter (fitO rs num told)).map ordD)), x4, x5, x6, x7, x8]) →
      dForL g tb (os.map ordD) D [some (.dat (rowD rs)), some (.dat (.int num)), some (.dat (.list (told.map .int))), some (.own (acc.map ordD)), x4, x5, x6, x7, x8]
  | [], acc, x4, x5, x7, x8, _, _, h => by
    have := h x4 x5 x7 x8
    rw [List.filter_nil, List.append_nil] at this
    exact this
  | o :: os, acc, x4, x5, x7, x8, ho, hl, h => by
    obtain ⟨o1, o2⟩ := ho o List.mem_cons_self
    have l8 := ok.1
    have pk := perm_ok ok o1 (by omega)
    have hl' : acc.length + (os.length + 1) ≤ 100000 := hl
    have next := fun acc hl h x4 x5 x7 x8 => for_loop (D := D) (num := num) (x6 := x6) ok ht hg htb os acc x4 x5 x7 x8 (fun o h => ho o (List.mem_cons_of_mem _ h)) hl h
    rw [List.map_cons, dForL_cons]
    generalize dForL g tb (os.map ordD) D = rest at *
    rw [hg, htb]
    simp only [ordD, List.length_map, show o.length ≤ 1000000 by omega, dSeq, dAsgG, dAsgN, dRet, dRetN, dRetO, dRet0, dDrop, dIfS, dNext, dApp, dInsert, q_setI, q_setQ, q_take, dFor, dFreeze, dNever, q_par, q_parQ, q_par3, q_parQ3, dParNE, dParDE, gdName, q_gnil, q_gcons, q_gtup, dVar, dOwn, dC, d1, d2, n2, nCons, nNil, nLst, dTup, dFr, dTest, dAnd, dOr, dNot, dAndV, dOrV, dNotV, dIf, dChain, dCB, nCB, dCall, nCall, aDat, aBag, aNil, q_neg, q_add, q_addl, q_addt, q_sub, q_mul, q_mull, q_mult, q_fdiv, q_mod, q_pow, q_lt, q_le, q_gt, q_ge, eqD, neD, isD, isntD, q_isnn, q_isni, q_isnb, q_isnt, q_isnl, q_lenl, q_lent, q_inti, q_intb, q_max2, q_min2, q_listl, q_listt, q_tuplel, q_tuplet, q_sum, q_min, q_max, allD, itSeq, itR1, q_itR2, q_rng2, q_en, q_en1, q_zip, q_zipQ, q_seqr, q_lenr, q_ixr, q_seql, q_seqt, q_rvd, q_rvn, q_catn, q_ixl, q_ixt, q_sl, q_sll, q_slt, q_slr, nSlL, oNone, oSome, nLc, wipeD, q_dropc, q_dropxd, q_dropxb, q_dropxo, q_dropxn, q_drope, dYes, dCnt, q_revl, q_revt, q_revr, nListRg, dTupRg, exInts, exOpt, q_addr1, q_addrr, q_ixk0, q_ixk1, exRow, exTk, cntL, cntQ_some, cntQ_none, List.getElem?_cons_zero, List.getElem?_cons_succ, List.getElem?_nil, Option.some.injEq, SV.dat.injEq, SV.own.injEq, PyData.int.injEq, PyData.bool.injEq, PyData.tuple.injEq, PyData.list.injEq, PyData.str.injEq, RVd.new.injEq, RVd.dat.injEq, exists_eq_left, exists_eq_left', exists_eq_right, List.cons.injEq, List.set_cons_zero, List.set_cons_succ, reduceCtorEq, and_true, true_and, false_and, and_false, not_true_eq_false, not_false_eq_true, if_true, if_false, ite_true, ite_false, decide_eq_true_eq, Bool.not_eq_true', decide_eq_false_iff_not, Bool.and_true, Bool.true_and, Bool.and_false, Bool.false_and, Bool.not_true, Bool.not_false, Bool.false_eq_true, List.map_cons, List.map_nil, List.length_cons, List.length_nil, Nat.zero_add, Nat.reduceAdd, Nat.reduceLeDiff, startd, List.replicate_succ, List.replicate_zero, List.nil_append, List.cons_append, Nat.reduceSub, exists_const, and_self, shp_int, shp_none, shp_bool, eqv_int, dForL_nil, lcL_nil]
    rw [lcL_mapOn (f := fun d => match d with | .int p => tkD (rs.getD p.toNat dflt) | _ => .none) (fun d hd Q => by
      obtain ⟨p, hp, rfl⟩ := List.mem_map.mp hd
      obtain ⟨p0, p1⟩ := o1 p hp
      simp only [exAt, at_getD (d := dflt) p0 p1, rowD, dSeq, dAsgG, dAsgN, dRet, dRetN, dRetO, dRet0, dDrop, dIfS, dNext, dApp, dInsert, q_setI, q_setQ, q_take, dFor, dFreeze, dNever, q_par, q_parQ, q_par3, q_parQ3, dParNE, dParDE, gdName, q_gnil, q_gcons, q_gtup, dVar, dOwn, dC, d1, d2, n2, nCons, nNil, nLst, dTup, dFr, dTest, dAnd, dOr, dNot, dAndV, dOrV, dNotV, dIf, dChain, dCB, nCB, dCall, nCall, aDat, aBag, aNil, q_neg, q_add, q_addl, q_addt, q_sub, q_mul, q_mull, q_mult, q_fdiv, q_mod, q_pow, q_lt, q_le, q_gt, q_ge, eqD, neD, isD, isntD, q_isnn, q_isni, q_isnb, q_isnt, q_isnl, q_lenl, q_lent, q_inti, q_intb, q_max2, q_min2, q_listl, q_listt, q_tuplel, q_tuplet, q_sum, q_min, q_max, allD, itSeq, itR1, q_itR2, q_rng2, q_en, q_en1, q_zip, q_zipQ, q_seqr, q_lenr, q_ixr, q_seql, q_seqt, q_rvd, q_rvn, q_catn, q_ixl, q_ixt, q_sl, q_sll, q_slt, q_slr, nSlL, oNone, oSome, nLc, wipeD, q_dropc, q_dropxd, q_dropxb, q_dropxo, q_dropxn, q_drope, dYes, dCnt, q_revl, q_revt, q_revr, nListRg, dTupRg, exInts, exOpt, q_addr1, q_addrr, q_ixk0, q_ixk1, exRow, exTk, cntL, cntQ_some, cntQ_none, List.getElem?_cons_zero, List.getElem?_cons_succ, List.getElem?_nil, Option.some.injEq, SV.dat.injEq, SV.own.injEq, PyData.int.injEq, PyData.bool.injEq, PyData.tuple.injEq, PyData.list.injEq, PyData.str.injEq, RVd.new.injEq, RVd.dat.injEq, exists_eq_left, exists_eq_left', exists_eq_right, List.cons.injEq, List.set_cons_zero, List.set_cons_succ, reduceCtorEq, and_true, true_and, false_and, and_false, not_true_eq_false, not_false_eq_true, if_true, if_false, ite_true, ite_false, decide_eq_true_eq, Bool.not_eq_true', decide_eq_false_iff_not, Bool.and_true, Bool.true_and, Bool.and_false, Bool.false_and, Bool.not_true, Bool.not_false, Bool.false_eq_true, List.map_cons, List.map_nil, List.length_cons, List.length_nil, Nat.zero_add, Nat.reduceAdd, Nat.reduceLeDiff, startd, List.replicate_succ, List.replicate_zero, List.nil_append, List.cons_append, Nat.reduceSub, exists_const, and_self, shp_int, shp_none, shp_bool, eqv_int, dForL_nil, lcL_nil])]
    have e1 : (o.map PyData.int).map (fun d => match d with | .int p => tkD (rs.getD p.toNat dflt) | _ => .none) = (permG rs o).map tkD := by
      unfold permG
      rw [List.map_map, List.map_map]
      rfl
    rw [e1]
    simp only [rowD_fold, sp_counts, pk, exRow, enumD_len, List.length_map, show o.length ≤ 1000000 by omega, dSeq, dAsgG, dAsgN, dRet, dRetN, dRetO, dRet0, dDrop, dIfS, dNext, dApp, dInsert, q_setI, q_setQ, q_take, dFor, dFreeze, dNever, q_par, q_parQ, q_par3, q_parQ3, dParNE, dParDE, gdName, q_gnil, q_gcons, q_gtup, dVar, dOwn, dC, d1, d2, n2, nCons, nNil, nLst, dTup, dFr, dTest, dAnd, dOr, dNot, dAndV, dOrV, dNotV, dIf, dChain, dCB, nCB, dCall, nCall, aDat, aBag, aNil, q_neg, q_add, q_addl, q_addt, q_sub, q_mul, q_mull, q_mult, q_fdiv, q_mod, q_pow, q_lt, q_le, q_gt, q_ge, eqD, neD, isD, isntD, q_isnn, q_isni, q_isnb, q_isnt, q_isnl, q_lenl, q_lent, q_inti, q_intb, q_max2, q_min2, q_listl, q_listt, q_tuplel, q_tuplet, q_sum, q_min, q_max, allD, itSeq, itR1, q_itR2, q_rng2, q_en, q_en1, q_zip, q_zipQ, q_seqr, q_lenr, q_ixr, q_seql, q_seqt, q_rvd, q_rvn, q_catn, q_ixl, q_ixt, q_sl, q_sll, q_slt, q_slr, nSlL, oNone, oSome, nLc, wipeD, q_dropc, q_dropxd, q_dropxb, q_dropxo, q_dropxn, q_drope, dYes, dCnt, q_revl, q_revt, q_revr, nListRg, dTupRg, exInts, exOpt, q_addr1, q_addrr, q_ixk0, q_ixk1, exRow, exTk, cntL, cntQ_some, cntQ_none, List.getElem?_cons_zero, List.getElem?_cons_succ, List.getElem?_nil, Option.some.injEq, SV.dat.injEq, SV.own.injEq, PyData.int.injEq, PyData.bool.injEq, PyData.tuple.injEq, PyData.list.injEq, PyData.str.injEq, RVd.new.injEq, RVd.dat.injEq, exists_eq_left, exists_eq_left', exists_eq_right, List.cons.injEq, List.set_cons_zero, List.set_cons_succ, reduceCtorEq, and_true, true_and, false_and, and_false, not_true_eq_false, not_false_eq_true, if_true, if_false, ite_true, ite_false, decide_eq_true_eq, Bool.not_eq_true', decide_eq_false_iff_not, Bool.and_true, Bool.true_and, Bool.and_false, Bool.false_and, Bool.not_true, Bool.not_false, Bool.false_eq_true, List.map_cons, List.map_nil, List.length_cons, List.length_nil, Nat.zero_add, Nat.reduceAdd, Nat.reduceLeDiff, startd, List.replicate_succ, List.replicate_zero, List.nil_append, List.cons_append, Nat.reduceSub, exists_const, and_self, shp_int, shp_none, shp_bool, eqv_int, dForL_nil, lcL_nil]
    rw [lcL_mapOn (f := fun d => match d with | .tuple [.int a, .int p] => .bool (decide ((countsG (permG rs o) num).getD a.toNat 0 = told.getD p.toNat 0)) | _ => .none) (fun d hd Q => by
      obtain ⟨i, p, rfl, hi, hp⟩ := enum_at o 0 d hd
      obtain ⟨p0, p1⟩ := o1 p hp
      have ca : atI (countsG (permG rs o) num) ((i : Nat) : Int) = some ((countsG (permG rs o) num).getD ((i : Nat) : Int).toNat 0) := at_getD (by omega) (by rw [countsG_len, permG, List.length_map]; omega)
      have ta : atI told p = some (told.getD p.toNat 0) := at_getD p0 (by omega)
      simp only [exAt, ca, ta, dSeq, dAsgG, dAsgN, dRet, dRetN, dRetO, dRet0, dDrop, dIfS, dNext, dApp, dInsert, q_setI, q_setQ, q_take, dFor, dFreeze, dNever, q_par, q_parQ, q_par3, q_parQ3, dParNE, dParDE, gdName, q_gnil, q_gcons, q_gtup, dVar, dOwn, dC, d1, d2, n2, nCons, nNil, nLst, dTup, dFr, dTest, dAnd, dOr, dNot, dAndV, dOrV, dNotV, dIf, dChain, dCB, nCB, dCall, nCall, aDat, aBag, aNil, q_neg, q_add, q_addl, q_addt, q_sub, q_mul, q_mull, q_mult, q_fdiv, q_mod, q_pow, q_lt, q_le, q_gt, q_ge, eqD, neD, isD, isntD, q_isnn, q_isni, q_isnb, q_isnt, q_isnl, q_lenl, q_lent, q_inti, q_intb, q_max2, q_min2, q_listl, q_listt, q_tuplel, q_tuplet, q_sum, q_min, q_max, allD, itSeq, itR1, q_itR2, q_rng2, q_en, q_en1, q_zip, q_zipQ, q_seqr, q_lenr, q_ixr, q_seql, q_seqt, q_rvd, q_rvn, q_catn, q_ixl, q_ixt, q_sl, q_sll, q_slt, q_slr, nSlL, oNone, oSome, nLc, wipeD, q_dropc, q_dropxd, q_dropxb, q_dropxo, q_dropxn, q_drope, dYes, dCnt, q_revl, q_revt, q_revr, nListRg, dTupRg, exInts, exOpt, q_addr1, q_addrr, q_ixk0, q_ixk1, exRow, exTk, cntL, cntQ_some, cntQ_none, List.getElem?_cons_zero, List.getElem?_cons_succ, List.getElem?_nil, Option.some.injEq, SV.dat.injEq, SV.own.injEq, PyData.int.injEq, PyData.bool.injEq, PyData.tuple.injEq, PyData.list.injEq, PyData.str.injEq, RVd.new.injEq, RVd.dat.injEq, exists_eq_left, exists_eq_left', exists_eq_right, List.cons.injEq, List.set_cons_zero, List.set_cons_succ, reduceCtorEq, and_true, true_and, false_and, and_false, not_true_eq_false, not_false_eq_true, if_true, if_false, ite_true, ite_false, decide_eq_true_eq, Bool.not_eq_true', decide_eq_false_iff_not, Bool.and_true, Bool.true_and, Bool.and_false, Bool.false_and, Bool.not_true, Bool.not_false, Bool.false_eq_true, List.map_cons, List.map_nil, List.length_cons, List.length_nil, Nat.zero_add, Nat.reduceAdd, Nat.reduceLeDiff, startd, List.replicate_succ, List.replicate_zero, List.nil_append, List.cons_append, Nat.reduceSub, exists_const, and_self, shp_int, shp_none, shp_bool, eqv_int, dForL_nil, lcL_nil])]
    rw [enum_ords (f := fun a p => decide ((countsG (permG rs o) num).getD a.toNat 0 = told.getD p.toNat 0))]
    refine ⟨(List.range o.length).map fun i => decide ((countsG (permG rs o) num).getD (((0 + i : Nat) : Int)).toNat 0 = told.getD (o.getD i 0).toNat 0), by rw [List.map_map]; rfl, ?_⟩
    have e2 : ((List.range o.length).map fun i => decide ((countsG (permG rs o) num).getD (((0 + i : Nat) : Int)).toNat 0 = told.getD (o.getD i 0).toNat 0)).all id = fitO rs num told o := by
      rw [List.all_map]
      unfold fitO
      congr 1
      funext i
      show decide ((countsG (permG rs o) num).getD (((0 + i : Nat) : Int)).toNat 0 = _) = _
      rw [Int.toNat_natCast, Nat.zero_add]
    rw [e2]
    cases hf : fitO rs num told o with
    | true =>
      simp only [List.length_map, show acc.length < 1000000 by omega, dSeq, dAsgG, dAsgN, dRet, dRetN, dRetO, dRet0, dDrop, dIfS, dNext, dApp, dInsert, q_setI, q_setQ, q_take, dFor, dFreeze, dNever, q_par, q_parQ, q_par3, q_parQ3, dParNE, dParDE, gdName, q_gnil, q_gcons, q_gtup, dVar, dOwn, dC, d1, d2, n2, nCons, nNil, nLst, dTup, dFr, dTest, dAnd, dOr, dNot, dAndV, dOrV, dNotV, dIf, dChain, dCB, nCB, dCall, nCall, aDat, aBag, aNil, q_neg, q_add, q_addl, q_addt, q_sub, q_mul, q_mull, q_mult, q_fdiv, q_mod, q_pow, q_lt, q_le, q_gt, q_ge, eqD, neD, isD, isntD, q_isnn, q_isni, q_isnb, q_isnt, q_isnl, q_lenl, q_lent, q_inti, q_intb, q_max2, q_min2, q_listl, q_listt, q_tuplel, q_tuplet, q_sum, q_min, q_max, allD, itSeq, itR1, q_itR2, q_rng2, q_en, q_en1, q_zip, q_zipQ, q_seqr, q_lenr, q_ixr, q_seql, q_seqt, q_rvd, q_rvn, q_catn, q_ixl, q_ixt, q_sl, q_sll, q_slt, q_slr, nSlL, oNone, oSome, nLc, wipeD, q_dropc, q_dropxd, q_dropxb, q_dropxo, q_dropxn, q_drope, dYes, dCnt, q_revl, q_revt, q_revr, nListRg, dTupRg, exInts, exOpt, q_addr1, q_addrr, q_ixk0, q_ixk1, exRow, exTk, cntL, cntQ_some, cntQ_none, List.getElem?_cons_zero, List.getElem?_cons_succ, List.getElem?_nil, Option.some.injEq, SV.dat.injEq, SV.own.injEq, PyData.int.injEq, PyData.bool.injEq, PyData.tuple.injEq, PyData.list.injEq, PyData.str.injEq, RVd.new.injEq, RVd.dat.injEq, exists_eq_left, exists_eq_left', exists_eq_right, List.cons.injEq, List.set_cons_zero, List.set_cons_succ, reduceCtorEq, and_true, true_and, false_and, and_false, not_true_eq_false, not_false_eq_true, if_true, if_false, ite_true, ite_false, decide_eq_true_eq, Bool.not_eq_true', decide_eq_false_iff_not, Bool.and_true, Bool.true_and, Bool.and_false, Bool.false_and, Bool.not_true, Bool.not_false, Bool.false_eq_true, List.map_cons, List.map_nil, List.length_cons, List.length_nil, Nat.zero_add, Nat.reduceAdd, Nat.reduceLeDiff, startd, List.replicate_succ, List.replicate_zero, List.nil_append, List.cons_append, Nat.reduceSub, exists_const, and_self, shp_int, shp_none, shp_bool, eqv_int, dForL_nil, lcL_nil]
      have := next (acc ++ [o]) (by simp; omega) (fun x4 x5 x7 x8 => by
        have := h x4 x5 x7 x8
        rw [List.filter_cons_of_pos hf] at this
        simpa using this)
      have := this (some (.dat (.tuple (o.map .int)))) (some (.dat (.list ((countsG (permG rs o) num).map .int)))) x7 x8
      rw [List.map_append] at this
      exact this
    | false =>
      simp only [dSeq, dAsgG, dAsgN, dRet, dRetN, dRetO, dRet0, dDrop, dIfS, dNext, dApp, dInsert, q_setI, q_setQ, q_take, dFor, dFreeze, dNever, q_par, q_parQ, q_par3, q_parQ3, dParNE, dParDE, gdName, q_gnil, q_gcons, q_gtup, dVar, dOwn, dC, d1, d2, n2, nCons, nNil, nLst, dTup, dFr, dTest, dAnd, dOr, dNot, dAndV, dOrV, dNotV, dIf, dChain, dCB, nCB, dCall, nCall, aDat, aBag, aNil, q_neg, q_add, q_addl, q_addt, q_sub, q_mul, q_mull, q_mult, q_fdiv, q_mod, q_pow, q_lt, q_le, q_gt, q_ge, eqD, neD, isD, isntD, q_isnn, q_isni, q_isnb, q_isnt, q_isnl, q_lenl, q_lent, q_inti, q_intb, q_max2, q_min2, q_listl, q_listt, q_tuplel, q_tuplet, q_sum, q_min, q_max, allD, itSeq, itR1, q_itR2, q_rng2, q_en, q_en1, q_zip, q_zipQ, q_seqr, q_lenr, q_ixr, q_seql, q_seqt, q_rvd, q_rvn, q_catn, q_ixl, q_ixt, q_sl, q_sll, q_slt, q_slr, nSlL, oNone, oSome, nLc, wipeD, q_dropc, q_dropxd, q_dropxb, q_dropxo, q_dropxn, q_drope, dYes, dCnt, q_revl, q_revt, q_revr, nListRg, dTupRg, exInts, exOpt, q_addr1, q_addrr, q_ixk0, q_ixk1, exRow, exTk, cntL, cntQ_some, cntQ_none, List.getElem?_cons_zero, List.getElem?_cons_succ, List.getElem?_nil, Option.some.injEq, SV.dat.injEq, SV.own.injEq, PyData.int.injEq, PyData.bool.injEq, PyData.tuple.injEq, PyData.list.injEq, PyData.str.injEq, RVd.new.injEq, RVd.dat.injEq, exists_eq_left, exists_eq_left', exists_eq_right, List.cons.injEq, List.set_cons_zero, List.set_cons_succ, reduceCtorEq, and_true, true_and, false_and, and_false, not_true_eq_false, not_false_eq_true, if_true, if_false, ite_true, ite_false, decide_eq_true_eq, Bool.not_eq_true', decide_eq_false_iff_not, Bool.and_true, Bool.true_and, Bool.and_false, Bool.false_and, Bool.not_true, Bool.not_false, Bool.false_eq_true, List.map_cons, List.map_nil, List.length_cons, List.length_nil, Nat.zero_add, Nat.reduceAdd, Nat.reduceLeDiff, startd, List.replicate_succ, List.replicate_zero, List.nil_append, List.cons_append, Nat.reduceSub, exists_const, and_self, shp_int, shp_none, shp_bool, eqv_int, dForL_nil, lcL_nil]
      exact next acc (by omega) (fun x4 x5 x7 x8 => by
        have := h x4 x5 x7 x8
        rw [List.filter_cons_of_neg (by rw [hf]; exact Bool.false_ne_true)] at this
        exact this) _ _ _ _
theorem rd_orders_for (svs : List SV) (R : RVd → Prop) (h : sp_orders_for svs R) : b_orders_for { nx := fun _ => R (.dat .none), rt := R } (startd 9 svs) := by
  unfold sp_orders_for at h
  split at h
  · rename_i num t
    obtain ⟨rs, rfl, ok, l6, n0, n1, told, rfl, ht, hb, h⟩ := h
    have ol := orders_len l6
    simp only [b_orders_for, sp_need_row, sp_need_number, rowB_ok ok, within_ok n0 n1, isi_lst, isLstB, ht, List.length_map, q_lenr, decide_true, show rs.length ≤ 1000000 by omega, dSeq, dAsgG, dAsgN, dRet, dRetN, dRetO, dRet0, dDrop, dIfS, dNext, dApp, dInsert, q_setI, q_setQ, q_take, dFor, dFreeze, dNever, q_par, q_parQ, q_par3, q_parQ3, dParNE, dParDE, gdName, q_gnil, q_gcons, q_gtup, dVar, dOwn, dC, d1, d2, n2, nCons, nNil, nLst, dTup, dFr, dTest, dAnd, dOr, dNot, dAndV, dOrV, dNotV, dIf, dChain, dCB, nCB, dCall, nCall, aDat, aBag, aNil, q_neg, q_add, q_addl, q_addt, q_sub, q_mul, q_mull, q_mult, q_fdiv, q_mod, q_pow, q_lt, q_le, q_gt, q_ge, eqD, neD, isD, isntD, q_isnn, q_isni, q_isnb, q_isnt, q_isnl, q_lenl, q_lent, q_inti, q_intb, q_max2, q_min2, q_listl, q_listt, q_tuplel, q_tuplet, q_sum, q_min, q_max, allD, itSeq, itR1, q_itR2, q_rng2, q_en, q_en1, q_zip, q_zipQ, q_seqr, q_lenr, q_ixr, q_seql, q_seqt, q_rvd, q_rvn, q_catn, q_ixl, q_ixt, q_sl, q_sll, q_slt, q_slr, nSlL, oNone, oSome, nLc, wipeD, q_dropc, q_dropxd, q_dropxb, q_dropxo, q_dropxn, q_drope, dYes, dCnt, q_revl, q_revt, q_revr, nListRg, dTupRg, exInts, exOpt, q_addr1, q_addrr, q_ixk0, q_ixk1, exRow, exTk, cntL, cntQ_some, cntQ_none, List.getElem?_cons_zero, List.getElem?_cons_succ, List.getElem?_nil, Option.some.injEq, SV.dat.injEq, SV.own.injEq, PyData.int.injEq, PyData.bool.injEq, PyData.tuple.injEq, PyData.list.injEq, PyData.str.injEq, RVd.new.injEq, RVd.dat.injEq, exists_eq_left, exists_eq_left', exists_eq_right, List.cons.injEq, List.set_cons_zero, List.set_cons_succ, reduceCtorEq, and_true, true_and, false_and, and_false, not_true_eq_false, not_false_eq_true, if_true, if_false, ite_true, ite_false, decide_eq_true_eq, Bool.not_eq_true', decide_eq_false_iff_not, Bool.and_true, Bool.true_and, Bool.and_false, Bool.false_and, Bool.not_true, Bool.not_false, Bool.false_eq_true, List.map_cons, List.map_nil, List.length_cons, List.length_nil, Nat.zero_add, Nat.reduceAdd, Nat.reduceLeDiff, startd, List.replicate_succ, List.replicate_zero, List.nil_append, List.cons_append, Nat.reduceSub, exists_const, and_self, shp_int, shp_none, shp_bool, eqv_int, dForL_nil, lcL_nil]
    rw [lcL_mapOn (f := fun d => .bool (withinB d 0 1000000000000000000)) (fun d hd Q => by simp only [sp_is_within, dSeq, dAsgG, dAsgN, dRet, dRetN, dRetO, dRet0, dDrop, dIfS, dNext, dApp, dInsert, q_setI, q_setQ, q_take, dFor, dFreeze, dNever, q_par, q_parQ, q_par3, q_parQ3, dParNE, dParDE, gdName, q_gnil, q_gcons, q_gtup, dVar, dOwn, dC, d1, d2, n2, nCons, nNil, nLst, dTup, dFr, dTest, dAnd, dOr, dNot, dAndV, dOrV, dNotV, dIf, dChain, dCB, nCB, dCall, nCall, aDat, aBag, aNil, q_neg, q_add, q_addl, q_addt, q_sub, q_mul, q_mull, q_mult, q_fdiv, q_mod, q_pow, q_lt, q_le, q_gt, q_ge, eqD, neD, isD, isntD, q_isnn, q_isni, q_isnb, q_isnt, q_isnl, q_lenl, q_lent, q_inti, q_intb, q_max2, q_min2, q_listl, q_listt, q_tuplel, q_tuplet, q_sum, q_min, q_max, allD, itSeq, itR1, q_itR2, q_rng2, q_en, q_en1, q_zip, q_zipQ, q_seqr, q_lenr, q_ixr, q_seql, q_seqt, q_rvd, q_rvn, q_catn, q_ixl, q_ixt, q_sl, q_sll, q_slt, q_slr, nSlL, oNone, oSome, nLc, wipeD, q_dropc, q_dropxd, q_dropxb, q_dropxo, q_dropxn, q_drope, dYes, dCnt, q_revl, q_revt, q_revr, nListRg, dTupRg, exInts, exOpt, q_addr1, q_addrr, q_ixk0, q_ixk1, exRow, exTk, cntL, cntQ_some, cntQ_none, List.getElem?_cons_zero, List.getElem?_cons_succ, List.getElem?_nil, Option.some.injEq, SV.dat.injEq, SV.own.injEq, PyData.int.injEq, PyData.bool.injEq, PyData.tuple.injEq, PyData.list.injEq, PyData.str.injEq, RVd.new.injEq, RVd.dat.injEq, exists_eq_left, exists_eq_left', exists_eq_right, List.cons.injEq, List.set_cons_zero, List.set_cons_succ, reduceCtorEq, and_true, true_and, false_and, and_false, not_true_eq_false, not_false_eq_true, if_true, if_false, ite_true, ite_false, decide_eq_true_eq, Bool.not_eq_true', decide_eq_false_iff_not, Bool.and_true, Bool.true_and, Bool.and_false, Bool.false_and, Bool.not_true, Bool.not_false, Bool.false_eq_true, List.map_cons, List.map_nil, List.length_cons, List.length_nil, Nat.zero_add, Nat.reduceAdd, Nat.reduceLeDiff, startd, List.replicate_succ, List.replicate_zero, List.nil_append, List.cons_append, Nat.reduceSub, exists_const, and_self, shp_int, shp_none, shp_bool, eqv_int, dForL_nil, lcL_nil])]
    refine ⟨(told.map PyData.int).map fun d => withinB d 0 1000000000000000000, by rw [List.map_map (l := told.map PyData.int)]; rfl, ?_⟩
    have e1 : ((told.map PyData.int).map fun d => withinB d 0 1000000000000000000).all id = true := by
      rw [List.map_map, List.all_map]
      refine List.all_eq_true.mpr fun x hx => ?_
      obtain ⟨h0, h1⟩ := hb x hx
      exact within_ok h0 h1
    rw [e1]
    have l6' : ¬ (6 : Int) < (rs.length : Nat) := by omega
    simp only [l6', decide_false, sp_all_orders, show (0 : Int) ≤ (rs.length : Nat) by omega, show ((rs.length : Nat) : Int) ≤ 6 by omega, Int.toNat_natCast, dSeq, dAsgG, dAsgN, dRet, dRetN, dRetO, dRet0, dDrop, dIfS, dNext, dApp, dInsert, q_setI, q_setQ, q_take, dFor, dFreeze, dNever, q_par, q_parQ, q_par3, q_parQ3, dParNE, dParDE, gdName, q_gnil, q_gcons, q_gtup, dVar, dOwn, dC, d1, d2, n2, nCons, nNil, nLst, dTup, dFr, dTest, dAnd, dOr, dNot, dAndV, dOrV, dNotV, dIf, dChain, dCB, nCB, dCall, nCall, aDat, aBag, aNil, q_neg, q_add, q_addl, q_addt, q_sub, q_mul, q_mull, q_mult, q_fdiv, q_mod, q_pow, q_lt, q_le, q_gt, q_ge, eqD, neD, isD, isntD, q_isnn, q_isni, q_isnb, q_isnt, q_isnl, q_lenl, q_lent, q_inti, q_intb, q_max2, q_min2, q_listl, q_listt, q_tuplel, q_tuplet, q_sum, q_min, q_max, allD, itSeq, itR1, q_itR2, q_rng2, q_en, q_en1, q_zip, q_zipQ, q_seqr, q_lenr, q_ixr, q_seql, q_seqt, q_rvd, q_rvn, q_catn, q_ixl, q_ixt, q_sl, q_sll, q_slt, q_slr, nSlL, oNone, oSome, nLc, wipeD, q_dropc, q_dropxd, q_dropxb, q_dropxo, q_dropxn, q_drope, dYes, dCnt, q_revl, q_revt, q_revr, nListRg, dTupRg, exInts, exOpt, q_addr1, q_addrr, q_ixk0, q_ixk1, exRow, exTk, cntL, cntQ_some, cntQ_none, List.getElem?_cons_zero, List.getElem?_cons_succ, List.getElem?_nil, Option.some.injEq, SV.dat.injEq, SV.own.injEq, PyData.int.injEq, PyData.bool.injEq, PyData.tuple.injEq, PyData.list.injEq, PyData.str.injEq, RVd.new.injEq, RVd.dat.injEq, exists_eq_left, exists_eq_left', exists_eq_right, List.cons.injEq, List.set_cons_zero, List.set_cons_succ, reduceCtorEq, and_true, true_and, false_and, and_false, not_true_eq_false, not_false_eq_true, if_true, if_false, ite_true, ite_false, decide_eq_true_eq, Bool.not_eq_true', decide_eq_false_iff_not, Bool.and_true, Bool.true_and, Bool.and_false, Bool.false_and, Bool.not_true, Bool.not_false, Bool.false_eq_true, List.map_cons, List.map_nil, List.length_cons, List.length_nil, Nat.zero_add, Nat.reduceAdd, Nat.reduceLeDiff, startd, List.replicate_succ, List.replicate_zero, List.nil_append, List.cons_append, Nat.reduceSub, exists_const, and_self, shp_int, shp_none, shp_bool, eqv_int, dForL_nil, lcL_nil]
    refine for_loop (acc := []) ok ht rfl rfl _ _ _ _ _ (fun o ho => orders_in ho) (by simp; omega) fun x4 x5 x7 x8 => ?_
    simp only [List.nil_append, dSeq, dAsgG, dAsgN, dRet, dRetN, dRetO, dRet0, dDrop, dIfS, dNext, dApp, dInsert, q_setI, q_setQ, q_take, dFor, dFreeze, dNever, q_par, q_parQ, q_par3, q_parQ3, dParNE, dParDE, gdName, q_gnil, q_gcons, q_gtup, dVar, dOwn, dC, d1, d2, n2, nCons, nNil, nLst, dTup, dFr, dTest, dAnd, dOr, dNot, dAndV, dOrV, dNotV, dIf, dChain, dCB, nCB, dCall, nCall, aDat, aBag, aNil, q_neg, q_add, q_addl, q_addt, q_sub, q_mul, q_mull, q_mult, q_fdiv, q_mod, q_pow, q_lt, q_le, q_gt, q_ge, eqD, neD, isD, isntD, q_isnn, q_isni, q_isnb, q_isnt, q_isnl, q_lenl, q_lent, q_inti, q_intb, q_max2, q_min2, q_listl, q_listt, q_tuplel, q_tuplet, q_sum, q_min, q_max, allD, itSeq, itR1, q_itR2, q_rng2, q_en, q_en1, q_zip, q_zipQ, q_seqr, q_lenr, q_ixr, q_seql, q_seqt, q_rvd, q_rvn, q_catn, q_ixl, q_ixt, q_sl, q_sll, q_slt, q_slr, nSlL, oNone, oSome, nLc, wipeD, q_dropc, q_dropxd, q_dropxb, q_dropxo, q_dropxn, q_drope, dYes, dCnt, q_revl, q_revt, q_revr, nListRg, dTupRg, exInts, exOpt, q_addr1, q_addrr, q_ixk0, q_ixk1, exRow, exTk, cntL, cntQ_some, cntQ_none, List.getElem?_cons_zero, List.getElem?_cons_succ, List.getElem?_nil, Option.some.injEq, SV.dat.injEq, SV.own.injEq, PyData.int.injEq, PyData.bool.injEq, PyData.tuple.injEq, PyData.list.injEq, PyData.str.injEq, RVd.new.injEq, RVd.dat.injEq, exists_eq_left, exists_eq_left', exists_eq_right, List.cons.injEq, List.set_cons_zero, List.set_cons_succ, reduceCtorEq, and_true, true_and, false_and, and_false, not_true_eq_false, not_false_eq_true, if_true, if_false, ite_true, ite_false, decide_eq_true_eq, Bool.not_eq_true', decide_eq_false_iff_not, Bool.and_true, Bool.true_and, Bool.and_false, Bool.false_and, Bool.not_true, Bool.not_false, Bool.false_eq_true, List.map_cons, List.map_nil, List.length_cons, List.length_nil, Nat.zero_add, Nat.reduceAdd, Nat.reduceLeDiff, startd, List.replicate_succ, List.replicate_zero, List.nil_append, List.cons_append, Nat.reduceSub, exists_const, and_self, shp_int, shp_none, shp_bool, eqv_int, dForL_nil, lcL_nil]
    exact h
  · exact h.elim
theorem len_orders_for (svs : List SV) (R : RVd → Prop) (h : sp_orders_for svs R) : svs.length = 3 := by
  unfold sp_orders_for at h
  split at h
  · rfl
  · exact h.elim
end Pd

set_option maxRecDepth 100000
set_option maxHeartbeats 4000000
/-! orders: all of them, rising; what is left over in any order -/
namespace Pd
open PySem L2
theorem eqv_ord (a b : List Int) : PyData.eqv (ordD a) (ordD b) = decide (a = b) := by
  rw [ordD, ordD, PyData.eqv, eqvAll_ints]
theorem eqvAll_ords : ∀ ns ms : List (List Int), PyData.eqvAll (ns.map ordD) (ms.map ordD) = decide (ns = ms)
  | [], [] => by simp [PyData.eqvAll]
  | [], m :: ms => by simp [PyData.eqvAll]
  | n :: ns, [] => by simp [PyData.eqvAll]
  | n :: ns, m :: ms => by
    rw [List.map_cons, List.map_cons, PyData.eqvAll, eqvAll_ords ns ms, eqv_ord, Bool.eq_iff_iff]
    simp
theorem eqv_ords (ns ms : List (List Int)) : PyData.eqv (.list (ns.map ordD)) (.list (ms.map ordD)) = decide (ns = ms) := by
  rw [PyData.eqv, eqvAll_ords]
theorem plainA_ints : ∀ (n : Nat) (ns : List Int), plainA (n + 1) (ns.map .int) = true
  | n, [] => rfl
  | n, x :: xs => by
    have := plainA_ints n xs
    simp [plainA, plainN, this]
theorem plain_ord (n : Nat) (o : List Int) : plainN (n + 2) (ordD o) = true := by
  have := plainA_ints n o
  simp [ordD, plainN, this]
theorem shp_ords (ns : List (List Int)) : SeqAt.shaped (.list (ns.map ordD)) = true := shp_list fun d hd => by
  obtain ⟨n, _, rfl⟩ := List.mem_map.mp hd
  exact plain_ord 57 n
/-! ### orders of up to five places -/
def ordB (n : Nat) (o : List Int) : Bool := ((rngI n).all fun p => decide (p ∈ o)) && ((List.range n).all fun i => ixOf (o.getD i 0) o == i)
theorem ords_b {n : Nat} (h : n ≤ 5) : (ordersG n).all (ordB n) = true ∧ 0 < (ordersG n).length := by
  have : n = 0 ∨ n = 1 ∨ n = 2 ∨ n = 3 ∨ n = 4 ∨ n = 5 := by omega
  rcases this with rfl | rfl | rfl | rfl | rfl | rfl <;> decide +kernel
def rowO (n : Nat) (rs : List (Int × Int)) (num : Int) (o : List Int) : List Int := (rngI n).map fun p => (countsG (permG rs o) num).getD (ixOf p o) 0
theorem row_fit {rs : List (Int × Int)} (h5 : rs.length ≤ 5) {num : Int} {told o : List Int} (ho : o ∈ ordersG rs.length) (ht : told.length = rs.length) : decide (rowO rs.length rs num o = told) = fitO rs num told o := by
  obtain ⟨o1, o2⟩ := orders_in ho
  have hb := List.all_eq_true.mp (ords_b h5).1 o ho
  unfold ordB at hb
  rw [Bool.and_eq_true] at hb
  have hall : ∀ p : Nat, p < rs.length → ((p : Nat) : Int) ∈ o := fun p hp => by
    have := List.all_eq_true.mp hb.1 ((p : Nat) : Int) (by
      unfold rngI
      exact List.mem_map.mpr ⟨p, List.mem_range.mpr hp, rfl⟩)
    simpa using this
  have hix : ∀ i : Nat, i < rs.length → ixOf (o.getD i 0) o = i := fun i hi => by
    have := List.all_eq_true.mp hb.2 i (List.mem_range.mpr hi)
    simpa using this
  have hin : ∀ i : Nat, i < rs.length → 0 ≤ o.getD i 0 ∧ o.getD i 0 < (rs.length : Nat) := fun i hi => o1 _ (getD_mem (by omega))
  rw [Bool.eq_iff_iff, decide_eq_true_iff]
  unfold fitO
  rw [List.all_eq_true]
  constructor
  · intro h i hi
    have hi' : i < rs.length := by
      have := List.mem_range.mp hi
      omega
    obtain ⟨p0, p1⟩ := hin i hi'
    rw [decide_eq_true_iff, ← h]
    unfold rowO
    rw [List.getD_eq_getElem?_getD (l := List.map _ _), List.getElem?_map]
    unfold rngI
    rw [List.getElem?_map, List.getElem?_range (by omega)]
    show _ = (countsG (permG rs o) num).getD (ixOf (((o.getD i 0).toNat : Nat) : Int) o) 0
    rw [Int.toNat_of_nonneg p0, hix i hi']
  · intro h
    unfold rowO
    refine List.ext_getElem? fun j => ?_
    rw [List.getElem?_map]
    by_cases hj : j < rs.length
    · unfold rngI
      rw [List.getElem?_map, List.getElem?_range hj]
      obtain ⟨a1, _⟩ := ixOf_at (hall j hj)
      have hi : ixOf ((j : Nat) : Int) o < o.length := (List.getElem?_eq_some_iff.mp a1).1
      have := h (ixOf ((j : Nat) : Int) o) (List.mem_range.mpr hi)
      rw [decide_eq_true_iff] at this
      show some ((countsG (permG rs o) num).getD (ixOf ((j : Nat) : Int) o) 0) = _
      rw [this, List.getD_eq_getElem?_getD (l := o), a1]
      show some (told.getD ((j : Nat) : Int).toNat 0) = _
      rw [Int.toNat_natCast, List.getD_eq_getElem?_getD, List.getElem?_eq_getElem (by omega)]
      rfl
    · rw [List.getElem?_eq_none (by rw [rngI_len]; omega), List.getElem?_eq_none (by omega)]
      rfl
theorem counts_le {rs : List (Int × Int)} (ht : ∀ t ∈ rs, TkOk t) {n : Int} (hn : 0 ≤ n) : ∀ {m : Nat}, 0 ≤ (countsG rs n).getD m 0 ∧ (countsG rs n).getD m 0 ≤ n := fun {m} => by
  have key : ∀ (rs : List (Int × Int)) (n : Int), (∀ t ∈ rs, TkOk t) → 0 ≤ n → ∀ m, 0 ≤ (countsG rs n).getD m 0 ∧ (countsG rs n).getD m 0 ≤ n := by
    intro rs
    induction rs with
    | nil =>
      intro n _ hn m
      cases m with
      | zero => exact ⟨hn, Int.le_refl _⟩
      | succ m => exact ⟨by simp [countsG], by simpa [countsG] using hn⟩
    | cons t rs ih =>
      intro n ht hn m
      obtain ⟨e, c⟩ := t
      obtain ⟨t1, t2, t3, t4⟩ := ht (e, c) List.mem_cons_self
      dsimp only at t1 t2 t3 t4
      have q0 : 0 ≤ (n + c) / e := Int.ediv_nonneg (by omega) (by omega)
      have q1 : (n + c) / e ≤ n := by
        have h1 := Int.ediv_mul_le (n + c) (show e ≠ 0 by omega)
        have h2 : (n + c) / e * 2 ≤ (n + c) / e * e := Int.mul_le_mul_of_nonneg_left t1 q0
        rcases Int.lt_or_le n ((n + c) / e) with z | z
        · exfalso
          have h3 : (n + 1) * e ≤ (n + c) / e * e := Int.mul_le_mul_of_nonneg_right (by omega) (by omega)
          have h4 : (n + 1) * e = n * e + e := by rw [Int.add_mul, Int.one_mul]
          have h5 : n * 1 ≤ n * e := Int.mul_le_mul_of_nonneg_left (by omega) hn
          omega
        · exact z
      cases m with
      | zero => exact ⟨q0, q1⟩
      | succ m =>
        have := ih (n - (n + c) / e) (fun t h => ht t (List.mem_cons_of_mem _ h)) (by omega) m
        exact ⟨this.1, Int.le_trans this.2 (by omega)⟩
  exact key rs n ht hn m
/-- a comprehension with a test -/
theorem lc_flt {α : Type} {g : DG} {tt : DT} {te : DE} {env : Denv} {h : α → PyData} {c : α → Bool} {f : α → PyData} (ht : ∀ (x : α) (Q : Bool → Denv → Prop), (g (h x) env fun env' => tt env' fun b => Q b env') = (g (h x) env fun env' => Q (c x) env'))
    (he : ∀ (x : α) (Q : PyData → Prop), (g (h x) env fun env' => te env' Q) = Q (f x)) (hf : ∀ (x : α) (P : Prop), (g (h x) env fun _ => P) = P) :
    ∀ (xs : List α) (Q : List PyData → Prop), lcL g tt te env (xs.map h) Q = Q ((xs.filter c).map f)
  | [], Q => rfl
  | p :: ps, Q => by
    show (g (h p) env fun env' => tt env' fun b => if b = true then te env' fun y => lcL g tt te env (ps.map h) fun ys => Q (y :: ys) else lcL g tt te env (ps.map h) Q) = _
    rw [ht p (fun b env' => if b = true then te env' fun y => lcL g tt te env (ps.map h) fun ys => Q (y :: ys) else lcL g tt te env (ps.map h) Q)]
    cases hc : c p with
    | true =>
      simp only [if_true]
      rw [he, lc_flt ht he hf ps, List.filter_cons_of_pos hc]
      rfl
    | false =>
      simp only [if_false, Bool.false_eq_true]
      rw [hf, lc_flt ht he hf ps, List.filter_cons_of_neg (by rw [hc]; exact Bool.false_ne_true)]
/-! ### all orders -/
theorem ord_all (n : Nat) : ∀ (r q : List Int) (os : List (List Int)), q ∈ os → (q ++ r).Nodup → OrdIn n r → q ++ r ∈ ordsG n r.length os
  | [], q, os, hq, _, _ => by
    rw [List.append_nil]
    exact hq
  | p :: r, q, os, hq, nd, ho => by
    have e : q ++ p :: r = (q ++ [p]) ++ r := by simp
    rw [e] at nd ⊢
    refine ord_all n r (q ++ [p]) (stepG n os) ?_ nd fun x hx => ho x (List.mem_cons_of_mem _ hx)
    obtain ⟨p0, p1⟩ := ho p List.mem_cons_self
    have pq : p ∉ q := fun z => by
      have := (List.nodup_append.mp (List.nodup_append.mp nd).1).2.2 p z p (by simp)
      exact this rfl
    unfold stepG
    refine List.mem_flatten.mpr ⟨moreG n q, List.mem_map.mpr ⟨q, hq, rfl⟩, ?_⟩
    unfold moreG
    refine List.mem_map.mpr ⟨p, List.mem_filter.mpr ⟨?_, by simpa using pq⟩, rfl⟩
    unfold rngI
    exact List.mem_map.mpr ⟨p.toNat, List.mem_range.mpr (by omega), by omega⟩
theorem rngI_nd (n : Nat) : (rngI n).Nodup := by
  unfold rngI
  exact List.pairwise_map.mpr (List.nodup_range.imp fun h e => h (by omega))
theorem perm_in {n : Nat} {o : List Int} (h : o.Perm (rngI n)) : o ∈ ordersG n := by
  have hl : o.length = n := by rw [h.length_eq, rngI_len]
  have := ord_all n o [] [[]] (by simp) (by rw [List.nil_append]; exact h.nodup_iff.mpr (rngI_nd n)) fun p hp => by
    have := h.mem_iff.mp hp
    unfold rngI at this
    obtain ⟨i, hi, rfl⟩ := List.mem_map.mp this
    have := List.mem_range.mp hi
    omega
  rw [List.nil_append, hl] at this
  exact this
theorem seq_perm {n : Nat} {l : List Int} (h : l.Perm (seqI n)) : (l.map fun x => x - 1).Perm (rngI n) := by
  have := h.map fun x => x - 1
  have e : (seqI n).map (fun x => x - 1) = rngI n := by
    unfold seqI rngI
    rw [List.map_map]
    refine List.map_congr_left fun i _ => ?_
    show (1 + ((i : Nat) : Int)) - 1 = ((i : Nat) : Int)
    omega
  rw [e] at this
  exact this
/-! ### rising -/
def upB : List Int → Bool
  | x :: y :: r => decide (x < y) && upB (y :: r)
  | _ => true
theorem up_pw : ∀ l : List Int, upB l = true → l.Pairwise (· < ·)
  | [], _ => .nil
  | [x], _ => List.pairwise_singleton _ _
  | x :: y :: r, h => by
    have h' : x < y ∧ upB (y :: r) = true := by simpa [upB] using h
    have ih := up_pw (y :: r) h'.2
    refine List.pairwise_cons.mpr ⟨fun z hz => ?_, ih⟩
    rcases List.mem_cons.mp hz with rfl | hz
    · exact h'.1
    · have := (List.pairwise_cons.mp ih).1 z hz
      omega
theorem codes {n : Nat} (h : n ≤ 5) : (ordersG n).Pairwise (fun a b => TS.code 6 a < TS.code 6 b) := by
  have : n = 0 ∨ n = 1 ∨ n = 2 ∨ n = 3 ∨ n = 4 ∨ n = 5 := by omega
  have key : ∀ n, upB ((ordersG n).map (TS.code 6)) = true → (ordersG n).Pairwise (fun a b => TS.code 6 a < TS.code 6 b) := fun n z => List.pairwise_map.mp (up_pw _ z)
  rcases this with rfl | rfl | rfl | rfl | rfl | rfl
  · exact key 0 (by decide +kernel)
  · exact key 1 (by decide +kernel)
  · exact key 2 (by decide +kernel)
  · exact key 3 (by decide +kernel)
  · exact key 4 (by decide +kernel)
  · exact key 5 (by decide +kernel)
theorem orders_few {n : Nat} (h : n ≤ 5) : (ordersG n).length ≤ 120 := by
  have : n = 0 ∨ n = 1 ∨ n = 2 ∨ n = 3 ∨ n = 4 ∨ n = 5 := by omega
  rcases this with rfl | rfl | rfl | rfl | rfl | rfl <;> decide +kernel
/-! ### each order has each place once -/
theorem ords_nd (n : Nat) : ∀ (k : Nat) (os : List (List Int)), (∀ q ∈ os, q.Nodup) → ∀ o ∈ ordsG n k os, o.Nodup
  | 0, os, h, o, ho => h o ho
  | k + 1, os, h, o, ho => ords_nd n k (stepG n os) (fun q hq => by
    unfold stepG at hq
    obtain ⟨l, hl, hq⟩ := List.mem_flatten.mp hq
    obtain ⟨q0, hq0, rfl⟩ := List.mem_map.mp hl
    unfold moreG at hq
    obtain ⟨p, hp, rfl⟩ := List.mem_map.mp hq
    have pn : p ∉ q0 := by simpa using (List.mem_filter.mp hp).2
    exact List.nodup_append.mpr ⟨h q0 hq0, by simp, fun a ha b hb => by
      have : b = p := by simpa using hb
      intro e
      exact pn (by rw [← this, ← e]; exact ha)⟩) o ho
theorem ord_perm {n : Nat} (h5 : n ≤ 5) {o : List Int} (ho : o ∈ ordersG n) : o.Perm (rngI n) := by
  obtain ⟨o1, o2⟩ := orders_in ho
  have nd := ords_nd n n [[]] (fun q hq => by
    have : q = [] := by simpa using hq
    rw [this]
    exact List.nodup_nil) o ho
  have hb := List.all_eq_true.mp (ords_b h5).1 o ho
  unfold ordB at hb
  rw [Bool.and_eq_true] at hb
  refine (List.perm_ext_iff_of_nodup nd (rngI_nd n)).mpr fun a => ⟨fun ha => ?_, fun ha => ?_⟩
  · obtain ⟨a0, a1⟩ := o1 a ha
    unfold rngI
    exact List.mem_map.mpr ⟨a.toNat, List.mem_range.mpr (by omega), by omega⟩
  · have := List.all_eq_true.mp hb.1 a ha
    simpa using this
theorem getD_rng {α : Type} (xs : List α) (d : α) : (rngI xs.length).map (fun p => xs.getD p.toNat d) = xs := by
  unfold rngI
  rw [List.map_map]
  refine List.ext_getElem? fun i => ?_
  rw [List.getElem?_map]
  by_cases hi : i < xs.length
  · rw [List.getElem?_range hi, List.getElem?_eq_getElem hi]
    show some (xs.getD ((i : Nat) : Int).toNat d) = _
    rw [Int.toNat_natCast, List.getD_eq_getElem?_getD, List.getElem?_eq_getElem hi]
    rfl
  · rw [List.getElem?_eq_none (by rw [List.length_range]; omega), List.getElem?_eq_none (by omega)]
    rfl
theorem row_perm {rs : List (Int × Int)} (h5 : rs.length ≤ 5) {o : List Int} (ho : o ∈ ordersG rs.length) : (permG rs o).Perm rs := by
  have := (ord_perm h5 ho).map fun p => rs.getD p.toNat dflt
  rw [getD_rng] at this
  exact this
/-! ### what is left over -/
theorem sum_perm : ∀ {l m : List Int}, l.Perm m → l.sum = m.sum := fun h => by
  induction h with
  | nil => rfl
  | cons x _ ih => rw [List.sum_cons, List.sum_cons, ih]
  | swap x y l =>
    rw [List.sum_cons, List.sum_cons, List.sum_cons, List.sum_cons]
    omega
  | trans _ _ h1 h2 => rw [h1, h2]
theorem counts_split (rs : List (Int × Int)) (n : Int) : ∃ xs z, countsG rs n = xs ++ [z] ∧ xs.length = rs.length ∧ z = n - xs.sum ∧ z = leftG rs n := by
  have e := counts_end rs n
  have hl := countsG_len rs n
  refine ⟨(countsG rs n).take rs.length, leftG rs n, ?_, ?_, ?_, rfl⟩
  · have : (countsG rs n).drop rs.length = [leftG rs n] := by
      rw [List.drop_eq_getElem_cons (by omega), List.drop_eq_nil_of_le (by omega)]
      rw [List.getElem?_eq_getElem (by omega)] at e
      rw [Option.some.inj e]
    rw [← this, List.take_append_drop]
  · rw [List.length_take]
    omega
  · have s := counts_sum rs n
    have : countsG rs n = (countsG rs n).take rs.length ++ [leftG rs n] := by
      have : (countsG rs n).drop rs.length = [leftG rs n] := by
        rw [List.drop_eq_getElem_cons (by omega), List.drop_eq_nil_of_le (by omega)]
        rw [List.getElem?_eq_getElem (by omega)] at e
        rw [Option.some.inj e]
      rw [← this, List.take_append_drop]
    rw [this, List.sum_append] at s
    simp at s
    omega
theorem fit_left {rs : List (Int × Int)} (h5 : rs.length ≤ 5) {num : Int} {o xs : List Int} {z : Int} (ho : o ∈ ordersG rs.length) (e : countsG rs num = xs ++ [z]) (hl : xs.length = rs.length) (hz : z = num - xs.sum) (hf : fitO rs num xs o = true) : ∃ ys, countsG (permG rs o) num = ys ++ [z] := by
  obtain ⟨ys, z', e1, l1, s1, _⟩ := counts_split (permG rs o) num
  obtain ⟨o1, o2⟩ := orders_in ho
  have pl : (permG rs o).length = rs.length := by rw [permG, List.length_map, o2]
  have ey : ys = o.map fun p => xs.getD p.toNat 0 := by
    refine List.ext_getElem? fun i => ?_
    rw [List.getElem?_map]
    by_cases hi : i < rs.length
    · have := List.all_eq_true.mp hf i (List.mem_range.mpr (by omega))
      rw [decide_eq_true_iff, e1] at this
      rw [List.getElem?_eq_getElem (by omega), List.getElem?_eq_getElem (l := o) (by omega)]
      rw [List.getD_eq_getElem?_getD, List.getElem?_append_left (by omega), List.getElem?_eq_getElem (by omega)] at this
      rw [List.getD_eq_getElem?_getD (l := o), List.getElem?_eq_getElem (by omega)] at this
      exact congrArg some this
    · rw [List.getElem?_eq_none (by omega), List.getElem?_eq_none (l := o) (by omega)]
      rfl
  have sy : ys.sum = xs.sum := by
    rw [ey, sum_perm ((ord_perm h5 ho).map fun p => xs.getD p.toNat 0), ← hl, getD_rng]
  exact ⟨ys, by rw [e1, show z' = z by omega]⟩
def prodE : List (Int × Int) → Int
  | [] => 1
  | t :: rs => t.1 * prodE rs
def prodM : List (Int × Int) → Int
  | [] => 1
  | t :: rs => (t.1 - 1) * prodM rs
theorem prod_perm {l m : List (Int × Int)} (h : l.Perm m) : prodE l = prodE m ∧ prodM l = prodM m := by
  induction h with
  | nil => exact ⟨rfl, rfl⟩
  | cons x _ ih => exact ⟨by show x.1 * _ = x.1 * _; rw [ih.1], by show (x.1 - 1) * _ = (x.1 - 1) * _; rw [ih.2]⟩
  | swap x y l => exact ⟨by show y.1 * (x.1 * prodE l) = x.1 * (y.1 * prodE l); rw [← Int.mul_assoc, ← Int.mul_assoc, Int.mul_comm y.1], by show (y.1 - 1) * ((x.1 - 1) * prodM l) = (x.1 - 1) * ((y.1 - 1) * prodM l); rw [← Int.mul_assoc, ← Int.mul_assoc, Int.mul_comm (y.1 - 1)]⟩
  | trans _ _ h1 h2 => exact ⟨h1.1.trans h2.1, h1.2.trans h2.2⟩
theorem prod_pos : ∀ (rs : List (Int × Int)), (∀ t ∈ rs, TkOk t) → 0 < prodE rs
  | [], _ => by decide
  | t :: rs, ht => Int.mul_pos (by have := (ht t List.mem_cons_self).1; omega) (prod_pos rs fun t h => ht t (List.mem_cons_of_mem _ h))
theorem prod_le : ∀ (rs : List (Int × Int)), (∀ t ∈ rs, TkOk t) → prodE rs ≤ 1000 ^ rs.length
  | [], _ => by decide
  | t :: rs, ht => by
    have h1 := (ht t List.mem_cons_self)
    have ih := prod_le rs fun t h => ht t (List.mem_cons_of_mem _ h)
    have p := prod_pos rs fun t h => ht t (List.mem_cons_of_mem _ h)
    show t.1 * prodE rs ≤ 1000 ^ (rs.length + 1)
    rw [Int.pow_succ, Int.mul_comm (1000 ^ rs.length)]
    exact Int.mul_le_mul h1.2.1 ih (by omega) (by decide)
theorem left_prod : ∀ (rs : List (Int × Int)) (k : Int), (∀ t ∈ rs, TkOk t) → leftG rs (k * prodE rs) = k * prodM rs
  | [], k, _ => rfl
  | (e, c) :: rs, k, ht => by
    obtain ⟨t1, t2, t3, t4⟩ := ht (e, c) List.mem_cons_self
    dsimp only at t1 t2 t3 t4
    show leftG rs (k * (e * prodE rs) - (k * (e * prodE rs) + c) / e) = k * ((e - 1) * prodM rs)
    have q1 : (k * (e * prodE rs) + c) / e = k * prodE rs := (ediv_of (x := k * (e * prodE rs) + c) (e := e) (q := k * prodE rs) (s := c) (by omega) (by rw [← Int.mul_assoc, Int.mul_comm k e, Int.mul_assoc]) t3 t4).1
    have q2 : k * (e * prodE rs) - k * prodE rs = (k * (e - 1)) * prodE rs := by
      rw [Int.mul_sub, Int.mul_one, Int.sub_mul, Int.mul_assoc]
    rw [q1, q2, left_prod rs _ fun t h => ht t (List.mem_cons_of_mem _ h), Int.mul_assoc]
theorem per_prod : ∀ (rs : List (Int × Int)) (k : Int), (∀ t ∈ rs, TkOk t) → PerG rs (k * prodE rs)
  | [], k, _ => trivial
  | (e, c) :: rs, k, ht => by
    obtain ⟨t1, t2, t3, t4⟩ := ht (e, c) List.mem_cons_self
    dsimp only at t1 t2 t3 t4
    show e ∣ k * (e * prodE rs) ∧ PerG rs (k * (e * prodE rs) - k * (e * prodE rs) / e)
    have q0 : k * (e * prodE rs) = e * (k * prodE rs) := by rw [← Int.mul_assoc, Int.mul_comm k e, Int.mul_assoc]
    have q1 : k * (e * prodE rs) / e = k * prodE rs := by rw [q0]; exact Int.mul_ediv_cancel_left _ (by omega)
    have q2 : k * (e * prodE rs) - k * prodE rs = (k * (e - 1)) * prodE rs := by
      rw [Int.mul_sub, Int.mul_one, Int.sub_mul, Int.mul_assoc]
    rw [q1, q2]
    exact ⟨⟨_, q0⟩, per_prod rs _ fun t h => ht t (List.mem_cons_of_mem _ h)⟩
end Pd

set_option maxRecDepth 100000
set_option maxHeartbeats 4000000
namespace Pd
open PySem L2
theorem un64 {k : Nat} {A : Around} (r : Room k A) : A.units + 64 < cLine := by
  have := un65 r
  omega
/-! ### statements -/
theorem st_asg1 {t : DE} {i : Nat} {rest : DS} {D : DEnds} {env : Denv} (d : PyData) (h : ∀ Q : PyData → Prop, Q d → t env Q) (hr : rest D (env.set i (some (.dat d)))) : dSeq (dAsgG t (gdName i)) rest D env := h _ hr
theorem st_pick {t : DE} {i : Nat} {rest : DS} {D : DEnds} {env : Denv} (P : PyData → Prop) (h : ∀ Q : PyData → Prop, (∀ d, P d → Q d) → t env Q) (hr : ∀ d, P d → rest D (env.set i (some (.dat d)))) : dSeq (dAsgG t (gdName i)) rest D env := h _ hr
theorem st_if {c : DT} {t rest : DS} {D : DEnds} {env : Denv} (h : ∀ Q : Bool → Prop, Q false → c env Q) (hr : rest D env) : dSeq (dIfS c t dNext) rest D env := h _ (iteF hr)
theorem st_ifE {c : DT} {t : DS} {D : DEnds} {env : Denv} (h : ∀ Q : Bool → Prop, Q false → c env Q) (hr : D.nx env) : dIfS c t dNext D env := h _ (iteF hr)
theorem st_for {it : DN} {g : DG} {tb rest : DS} {D : DEnds} {env : Denv} (ds : List PyData) (h : ∀ Q : List PyData → Prop, Q ds → it env Q) (hr : dForL g tb ds { D with nx := rest D } env) : dSeq (dFor it g tb) rest D env := h _ hr
/-! ### _law_stood -/
def sp_law_stood : DSp := fun svs R => ∃ rs o, svs = [.dat (rowD rs), .dat (ordD o)] ∧ OrdIn rs.length o ∧ o.length ≤ 8 ∧ R (.dat (rowD (permG rs o)))
/-- _law_stood: 0 house, 1 order, 2 place -/
abbrev b_law_stood : DS := (dRet (dCB tupleD (nCons (dFr (nLc (itSeq (dVar 1)) (gdName 2) dYes (d2 ixD (dVar 0) (dVar 2)) [2])) nNil)))
theorem len_law_stood (svs : List SV) (R : RVd → Prop) (h : sp_law_stood svs R) : svs.length = 2 := by
  obtain ⟨_, _, rfl, _⟩ := h
  rfl
theorem rd_law_stood (svs : List SV) (R : RVd → Prop) (h : sp_law_stood svs R) : b_law_stood { nx := fun _ => R (.dat .none), rt := R } (startd 3 svs) := by
  obtain ⟨rs, o, rfl, o1, o2, h⟩ := h
  simp only [b_law_stood, ordD, List.length_map, show o.length ≤ 1000000 by omega, dSeq, dAsgG, dAsgN, dRet, dRetN, dRetO, dRet0, dDrop, dIfS, dNext, dApp, dInsert, q_setI, q_setQ, q_take, dFor, dFreeze, dNever, q_par, q_parQ, q_par3, q_parQ3, dParNE, dParDE, gdName, q_gnil, q_gcons, q_gtup, dVar, dOwn, dC, d1, d2, n2, nCons, nNil, nLst, dTup, dFr, dTest, dAnd, dOr, dNot, dAndV, dOrV, dNotV, dIf, dChain, dCB, nCB, dCall, nCall, aDat, aBag, aNil, q_neg, q_add, q_addl, q_addt, q_sub, q_mul, q_mull, q_mult, q_fdiv, q_mod, q_pow, q_lt, q_le, q_gt, q_ge, eqD, neD, isD, isntD, q_isnn, q_isni, q_isnb, q_isnt, q_isnl, q_lenl, q_lent, q_inti, q_intb, q_max2, q_min2, q_listl, q_listt, q_tuplel, q_tuplet, q_sum, q_min, q_max, allD, itSeq, itR1, q_itR2, q_rng2, q_en, q_en1, q_zip, q_zipQ, q_seqr, q_lenr, q_ixr, q_seql, q_seqt, q_rvd, q_rvn, q_catn, q_ixl, q_ixt, q_sl, q_sll, q_slt, q_slr, nSlL, oNone, oSome, nLc, wipeD, q_dropc, q_dropxd, q_dropxb, q_dropxo, q_dropxn, q_drope, dYes, dCnt, q_revl, q_revt, q_revr, nListRg, dTupRg, exInts, exOpt, q_addr1, q_addrr, q_ixk0, q_ixk1, exRow, exTk, cntL, cntQ_some, cntQ_none, List.getElem?_cons_zero, List.getElem?_cons_succ, List.getElem?_nil, Option.some.injEq, SV.dat.injEq, SV.own.injEq, PyData.int.injEq, PyData.bool.injEq, PyData.tuple.injEq, PyData.list.injEq, PyData.str.injEq, RVd.new.injEq, RVd.dat.injEq, exists_eq_left, exists_eq_left', exists_eq_right, List.cons.injEq, List.set_cons_zero, List.set_cons_succ, reduceCtorEq, and_true, true_and, false_and, and_false, not_true_eq_false, not_false_eq_true, if_true, if_false, ite_true, ite_false, decide_eq_true_eq, Bool.not_eq_true', decide_eq_false_iff_not, Bool.and_true, Bool.true_and, Bool.and_false, Bool.false_and, Bool.not_true, Bool.not_false, Bool.false_eq_true, List.map_cons, List.map_nil, List.length_cons, List.length_nil, Nat.zero_add, Nat.reduceAdd, Nat.reduceLeDiff, startd, List.replicate_succ, List.replicate_zero, List.nil_append, List.cons_append, Nat.reduceSub, exists_const, and_self, shp_int, shp_none, shp_bool, eqv_int, dForL_nil, lcL_nil]
  rw [lcL_mapOn (f := fun d => match d with | .int p => tkD (rs.getD p.toNat dflt) | _ => .none) (fun d hd Q => by
    obtain ⟨p, hp, rfl⟩ := List.mem_map.mp hd
    obtain ⟨p0, p1⟩ := o1 p hp
    simp only [exAt, at_getD (d := dflt) p0 p1, rowD, dSeq, dAsgG, dAsgN, dRet, dRetN, dRetO, dRet0, dDrop, dIfS, dNext, dApp, dInsert, q_setI, q_setQ, q_take, dFor, dFreeze, dNever, q_par, q_parQ, q_par3, q_parQ3, dParNE, dParDE, gdName, q_gnil, q_gcons, q_gtup, dVar, dOwn, dC, d1, d2, n2, nCons, nNil, nLst, dTup, dFr, dTest, dAnd, dOr, dNot, dAndV, dOrV, dNotV, dIf, dChain, dCB, nCB, dCall, nCall, aDat, aBag, aNil, q_neg, q_add, q_addl, q_addt, q_sub, q_mul, q_mull, q_mult, q_fdiv, q_mod, q_pow, q_lt, q_le, q_gt, q_ge, eqD, neD, isD, isntD, q_isnn, q_isni, q_isnb, q_isnt, q_isnl, q_lenl, q_lent, q_inti, q_intb, q_max2, q_min2, q_listl, q_listt, q_tuplel, q_tuplet, q_sum, q_min, q_max, allD, itSeq, itR1, q_itR2, q_rng2, q_en, q_en1, q_zip, q_zipQ, q_seqr, q_lenr, q_ixr, q_seql, q_seqt, q_rvd, q_rvn, q_catn, q_ixl, q_ixt, q_sl, q_sll, q_slt, q_slr, nSlL, oNone, oSome, nLc, wipeD, q_dropc, q_dropxd, q_dropxb, q_dropxo, q_dropxn, q_drope, dYes, dCnt, q_revl, q_revt, q_revr, nListRg, dTupRg, exInts, exOpt, q_addr1, q_addrr, q_ixk0, q_ixk1, exRow, exTk, cntL, cntQ_some, cntQ_none, List.getElem?_cons_zero, List.getElem?_cons_succ, List.getElem?_nil, Option.some.injEq, SV.dat.injEq, SV.own.injEq, PyData.int.injEq, PyData.bool.injEq, PyData.tuple.injEq, PyData.list.injEq, PyData.str.injEq, RVd.new.injEq, RVd.dat.injEq, exists_eq_left, exists_eq_left', exists_eq_right, List.cons.injEq, List.set_cons_zero, List.set_cons_succ, reduceCtorEq, and_true, true_and, false_and, and_false, not_true_eq_false, not_false_eq_true, if_true, if_false, ite_true, ite_false, decide_eq_true_eq, Bool.not_eq_true', decide_eq_false_iff_not, Bool.and_true, Bool.true_and, Bool.and_false, Bool.false_and, Bool.not_true, Bool.not_false, Bool.false_eq_true, List.map_cons, List.map_nil, List.length_cons, List.length_nil, Nat.zero_add, Nat.reduceAdd, Nat.reduceLeDiff, startd, List.replicate_succ, List.replicate_zero, List.nil_append, List.cons_append, Nat.reduceSub, exists_const, and_self, shp_int, shp_none, shp_bool, eqv_int, dForL_nil, lcL_nil])]
  have e1 : (o.map PyData.int).map (fun d => match d with | .int p => tkD (rs.getD p.toNat dflt) | _ => .none) = (permG rs o).map tkD := by
    unfold permG
    rw [List.map_map, List.map_map]
    rfl
  rw [e1]
  exact h
/-! ### in a list of orders -/
theorem any_ord (o : List Int) : ∀ os : List (List Int), ((os.map ordD).any fun z => PyData.eqv z (ordD o)) = decide (o ∈ os)
  | [] => rfl
  | q :: os => by
    rw [List.map_cons, List.any_cons, any_ord o os, eqv_ord, Bool.eq_iff_iff, Bool.or_eq_true, decide_eq_true_iff, decide_eq_true_iff, decide_eq_true_iff, List.mem_cons]
    exact ⟨fun z => z.imp (fun e => e.symm) id, fun z => z.imp (fun e => e.symm) id⟩
theorem shp_ord (o : List Int) : SeqAt.shaped (ordD o) = true := shp_of (plain_ord 58 o)
theorem q_in {o : List Int} {os : List (List Int)} {Q : PyData → Prop} : inD false (ordD o) (.list (os.map ordD)) Q = Q (.bool (decide (o ∈ os))) := by
  show (SeqAt.shaped (ordD o) = true ∧ SeqAt.shaped (.list (os.map ordD)) = true ∧ Q (.bool ((os.map ordD).any fun z => PyData.eqv z (ordD o)))) = _
  rw [any_ord, shp_ord, shp_ords]
  simp
theorem q_ni {o : List Int} {os : List (List Int)} {Q : PyData → Prop} : inD true (ordD o) (.list (os.map ordD)) Q = Q (.bool (!decide (o ∈ os))) := by
  show (SeqAt.shaped (ordD o) = true ∧ SeqAt.shaped (.list (os.map ordD)) = true ∧ Q (.bool (!((os.map ordD).any fun z => PyData.eqv z (ordD o))))) = _
  rw [any_ord, shp_ord, shp_ords]
  simp
/-! ### the law -/
/-- law: 0 script, 1 bag, 2 house, 3 number, 4 own, 5 told, 6 turn, 7 order, 8 some, 9 whole, 10 every, 11 counted, 12 left, 13 place, 14 one -/
abbrev b_law_loop : DS := (dSeq (dAsgG (dCall sp_law_drawn_row (aBag 1 (aDat (dC (.int 5)) (aDat (d2 ixD (dFr (nLst (nCons (dC (.int 5)) (nCons (dC (.int 60)) (nCons (dC (.int 1000)) nNil))))) (dCall sp_law_take (aBag 1 (aDat (dC (.int 3)) aNil)))) aNil)))) (gdName 2))
  (dSeq (dAsgG (d2 ixD (dFr (nLst (nCons (dCall sp_law_take (aBag 1 (aDat (dC (.int 300)) aNil))) (nCons (dCall sp_law_far_draw (aBag 1 (aDat (d2 powD (dC (.int 10)) (dC (.int 18))) aNil))) nNil)))) (dCall sp_law_take (aBag 1 (aDat (dC (.int 2)) aNil)))) (gdName 3))
  (dSeq (dAsgG (dCall sp_taken (aDat (dVar 2) (aDat (dVar 3) aNil))) (gdName 4))
  (dSeq (dAsgG (dCall sp_orders_for (aDat (dVar 2) (aDat (dVar 3) (aDat (dSl (dVar 4) oNone (oSome (d1 negD (dC (.int 1))))) aNil)))) (gdName 5))
  (dSeq (dIfS (dOr (dTest (d2 (inD true) (dTupRg (dCB lenD (nCons (dVar 2) nNil))) (dVar 5))) (dTest (d2 neD (dVar 5) (dFr (nSrtTup (dVar 5)))))) (dRet (dC (.bool false))) dNext)
  (dSeq (dFor (itR1 (nCons (dC (.int 6)) nNil)) (gdName 6)
  (dSeq (dAsgG (dCB tupleD (nCons (dFr (nLc (itSeq (dCall sp_law_mixed (aBag 1 (aDat (dCB lenD (nCons (dVar 2) nNil)) aNil)))) (gdName 13) dYes (d2 subD (dVar 13) (dC (.int 1))) [13])) nNil)) (gdName 7))
  (dSeq (dAsgG (dCall sp_taken (aDat (dCall sp_law_stood (aDat (dVar 2) (aDat (dVar 7) aNil))) (aDat (dVar 3) aNil))) (gdName 8))
  (dIfS (dTest (d2 neD (d2 eqD (dFr (nLc (itR1 (nCons (dCB lenD (nCons (dVar 2) nNil)) nNil)) (gdName 13) dYes (d2 ixD (dVar 8) (dIndex (dVar 7) (dVar 13))) [13])) (dSl (dVar 4) oNone (oSome (d1 negD (dC (.int 1)))))) (d2 (inD false) (dVar 7) (dVar 5)))) (dRet (dC (.bool false))) dNext))))
  (dSeq (dFor (itSeq (dSl (dVar 5) oNone (oSome (dC (.int 9))))) (gdName 7)
  (dIfS (dTest (d2 neD (d2 ixD (dCall sp_taken (aDat (dCall sp_law_stood (aDat (dVar 2) (aDat (dVar 7) aNil))) (aDat (dVar 3) aNil))) (d1 negD (dC (.int 1)))) (d2 ixD (dVar 4) (d1 negD (dC (.int 1)))))) (dRet (dC (.bool false))) dNext))
  (dSeq (dAsgG (dC (.int 1)) (gdName 9))
  (dSeq (dFor (itSeq (dVar 2)) (gdTup 2 (gdCons (gdName 10) (gdCons (gdName 11) gdNil)))
  (dAsgG (d2 mulD (dVar 9) (dVar 10)) (gdName 9)))
  (dSeq (dAsgG (dFr (nLc (itSeq (dSl (dCall sp_law_all_orders (aDat (dCB lenD (nCons (dVar 2) nNil)) aNil)) oNone (oSome (dC (.int 24))))) (gdName 7) dYes (d2 ixD (dCall sp_taken (aDat (dCall sp_law_stood (aDat (dVar 2) (aDat (dVar 7) aNil))) (aDat (dVar 9) aNil))) (d1 negD (dC (.int 1)))) [7])) (gdName 12))
  (dIfS (dOr (dTest (d2 neD (dFr (nLc (itSeq (dVar 12)) (gdName 14) (dTest (d2 neD (dVar 14) (d2 ixD (dVar 12) (dC (.int 0))))) (dC (.int 1)) [14])) (dFr (nLst nNil)))) (dTest (d2 neD (d2 modD (dVar 9) (dCall sp_round_of (aDat (dVar 2) aNil))) (dC (.int 0))))) (dRet (dC (.bool false))) dNext)))))))))))
abbrev b_law_rest : DS := (dRet (dC (.bool true)))
abbrev b_law_turn : DS := (dSeq (dAsgG (dCB tupleD (nCons (dFr (nLc (itSeq (dCall sp_law_mixed (aBag 1 (aDat (dCB lenD (nCons (dVar 2) nNil)) aNil)))) (gdName 13) dYes (d2 subD (dVar 13) (dC (.int 1))) [13])) nNil)) (gdName 7))
  (dSeq (dAsgG (dCall sp_taken (aDat (dCall sp_law_stood (aDat (dVar 2) (aDat (dVar 7) aNil))) (aDat (dVar 3) aNil))) (gdName 8))
  (dIfS (dTest (d2 neD (d2 eqD (dFr (nLc (itR1 (nCons (dCB lenD (nCons (dVar 2) nNil)) nNil)) (gdName 13) dYes (d2 ixD (dVar 8) (dIndex (dVar 7) (dVar 13))) [13])) (dSl (dVar 4) oNone (oSome (d1 negD (dC (.int 1)))))) (d2 (inD false) (dVar 7) (dVar 5)))) (dRet (dC (.bool false))) dNext)))
abbrev b_law_ord : DS := (dIfS (dTest (d2 neD (d2 ixD (dCall sp_taken (aDat (dCall sp_law_stood (aDat (dVar 2) (aDat (dVar 7) aNil))) (aDat (dVar 3) aNil))) (d1 negD (dC (.int 1)))) (d2 ixD (dVar 4) (d1 negD (dC (.int 1)))))) (dRet (dC (.bool false))) dNext)
abbrev b_law_whole : DS := (dAsgG (d2 mulD (dVar 9) (dVar 10)) (gdName 9))
abbrev toldO (rs : List (Int × Int)) (num : Int) (xs : List Int) : List (List Int) := (ordersG rs.length).filter (fitO rs num xs)
abbrev envK (rs : List (Int × Int)) (num : Int) (xs : List Int) (z : Int) (rest : List (Option SV)) : Denv := none :: some .bag :: some (.dat (rowD rs)) :: some (.dat (.int num)) :: some (.dat (.list ((xs ++ [z]).map .int))) :: some (.dat (.list ((toldO rs num xs).map ordD))) :: rest
structure Own14 (rs : List (Int × Int)) (num : Int) (xs : List Int) (z : Int) : Prop where
  ok : RowOk rs
  h5 : rs.length ≤ 5
  n0 : 0 ≤ num
  n1 : num ≤ 1000000000000000000
  e : countsG rs num = xs ++ [z]
  l : xs.length = rs.length
  s : z = num - xs.sum
section
variable {rs : List (Int × Int)} {num z : Int} {xs : List Int}
theorem cutL (xs : List Int) (z : Int) : cutD ((xs ++ [z]).map PyData.int) none (some (-1)) = xs.map .int := by
  rw [List.map_append]
  exact cut_last _ _
theorem Own14.pk (O : Own14 rs num xs z) {o : List Int} (ho : o ∈ ordersG rs.length) : RowOk (permG rs o) := by
  obtain ⟨o1, o2⟩ := orders_in ho
  exact perm_ok O.ok o1 (by have := O.h5; omega)
theorem turn14 (O : Own14 rs num xs z) {D : DEnds} (x6 x7 x8 x9 x10 x11 x12 x13 x14 : Option SV) (h : ∀ x7 x8, D.nx (envK rs num xs z [x6, x7, x8, x9, x10, x11, x12, x13, x14])) : b_law_turn D (envK rs num xs z [x6, x7, x8, x9, x10, x11, x12, x13, x14]) := by
  have h5 := O.h5
  refine st_pick (fun d => ∃ o, o ∈ ordersG rs.length ∧ d = ordD o) (fun Q qq => ?_) fun d hd => ?_
  · simp only [sp_law_mixed, q_lenr, dSeq, dAsgG, dAsgN, dRet, dRetN, dRetO, dRet0, dDrop, dIfS, dNext, dApp, dInsert, q_setI, q_setQ, q_take, dFor, dFreeze, dNever, q_par, q_parQ, q_par3, q_parQ3, dParNE, dParDE, gdName, q_gnil, q_gcons, q_gtup, dVar, dOwn, dC, d1, d2, n2, nCons, nNil, nLst, dTup, dFr, dTest, dAnd, dOr, dNot, dAndV, dOrV, dNotV, dIf, dChain, dCB, nCB, dCall, nCall, aDat, aBag, aNil, q_neg, q_add, q_addl, q_addt, q_sub, q_mul, q_mull, q_mult, q_fdiv, q_mod, q_pow, q_lt, q_le, q_gt, q_ge, eqD, neD, isD, isntD, q_isnn, q_isni, q_isnb, q_isnt, q_isnl, q_lenl, q_lent, q_inti, q_intb, q_max2, q_min2, q_listl, q_listt, q_tuplel, q_tuplet, q_sum, q_min, q_max, allD, itSeq, itR1, q_itR2, q_rng2, q_en, q_en1, q_zip, q_zipQ, q_seqr, q_lenr, q_ixr, q_seql, q_seqt, q_rvd, q_rvn, q_catn, q_ixl, q_ixt, q_sl, q_sll, q_slt, q_slr, nSlL, oNone, oSome, nLc, wipeD, q_dropc, q_dropxd, q_dropxb, q_dropxo, q_dropxn, q_drope, dYes, dCnt, q_revl, q_revt, q_revr, nListRg, dTupRg, exInts, exOpt, q_addr1, q_addrr, q_ixk0, q_ixk1, exRow, exTk, cntL, cntQ_some, cntQ_none, List.getElem?_cons_zero, List.getElem?_cons_succ, List.getElem?_nil, Option.some.injEq, SV.dat.injEq, SV.own.injEq, PyData.int.injEq, PyData.bool.injEq, PyData.tuple.injEq, PyData.list.injEq, PyData.str.injEq, RVd.new.injEq, RVd.dat.injEq, exists_eq_left, exists_eq_left', exists_eq_right, List.cons.injEq, List.set_cons_zero, List.set_cons_succ, reduceCtorEq, and_true, true_and, false_and, and_false, not_true_eq_false, not_false_eq_true, if_true, if_false, ite_true, ite_false, decide_eq_true_eq, Bool.not_eq_true', decide_eq_false_iff_not, Bool.and_true, Bool.true_and, Bool.and_false, Bool.false_and, Bool.not_true, Bool.not_false, Bool.false_eq_true, List.map_cons, List.map_nil, List.length_cons, List.length_nil, Nat.zero_add, Nat.reduceAdd, Nat.reduceLeDiff, startd, List.replicate_succ, List.replicate_zero, List.nil_append, List.cons_append, Nat.reduceSub, exists_const, and_self, shp_int, shp_none, shp_bool, eqv_int, dForL_nil, lcL_nil]
    refine ⟨by omega, by omega, fun l hl => ?_⟩
    rw [Int.toNat_natCast] at hl
    refine ⟨by rw [List.length_map, hl.length_eq]; simp [seqI]; omega, ?_⟩
    rw [lcL_mapOn (f := fun d => match d with | .int p => .int (p - 1) | _ => .none) (fun d hd Q => by
      obtain ⟨p, _, rfl⟩ := List.mem_map.mp hd
      simp only [dSeq, dAsgG, dAsgN, dRet, dRetN, dRetO, dRet0, dDrop, dIfS, dNext, dApp, dInsert, q_setI, q_setQ, q_take, dFor, dFreeze, dNever, q_par, q_parQ, q_par3, q_parQ3, dParNE, dParDE, gdName, q_gnil, q_gcons, q_gtup, dVar, dOwn, dC, d1, d2, n2, nCons, nNil, nLst, dTup, dFr, dTest, dAnd, dOr, dNot, dAndV, dOrV, dNotV, dIf, dChain, dCB, nCB, dCall, nCall, aDat, aBag, aNil, q_neg, q_add, q_addl, q_addt, q_sub, q_mul, q_mull, q_mult, q_fdiv, q_mod, q_pow, q_lt, q_le, q_gt, q_ge, eqD, neD, isD, isntD, q_isnn, q_isni, q_isnb, q_isnt, q_isnl, q_lenl, q_lent, q_inti, q_intb, q_max2, q_min2, q_listl, q_listt, q_tuplel, q_tuplet, q_sum, q_min, q_max, allD, itSeq, itR1, q_itR2, q_rng2, q_en, q_en1, q_zip, q_zipQ, q_seqr, q_lenr, q_ixr, q_seql, q_seqt, q_rvd, q_rvn, q_catn, q_ixl, q_ixt, q_sl, q_sll, q_slt, q_slr, nSlL, oNone, oSome, nLc, wipeD, q_dropc, q_dropxd, q_dropxb, q_dropxo, q_dropxn, q_drope, dYes, dCnt, q_revl, q_revt, q_revr, nListRg, dTupRg, exInts, exOpt, q_addr1, q_addrr, q_ixk0, q_ixk1, exRow, exTk, cntL, cntQ_some, cntQ_none, List.getElem?_cons_zero, List.getElem?_cons_succ, List.getElem?_nil, Option.some.injEq, SV.dat.injEq, SV.own.injEq, PyData.int.injEq, PyData.bool.injEq, PyData.tuple.injEq, PyData.list.injEq, PyData.str.injEq, RVd.new.injEq, RVd.dat.injEq, exists_eq_left, exists_eq_left', exists_eq_right, List.cons.injEq, List.set_cons_zero, List.set_cons_succ, reduceCtorEq, and_true, true_and, false_and, and_false, not_true_eq_false, not_false_eq_true, if_true, if_false, ite_true, ite_false, decide_eq_true_eq, Bool.not_eq_true', decide_eq_false_iff_not, Bool.and_true, Bool.true_and, Bool.and_false, Bool.false_and, Bool.not_true, Bool.not_false, Bool.false_eq_true, List.map_cons, List.map_nil, List.length_cons, List.length_nil, Nat.zero_add, Nat.reduceAdd, Nat.reduceLeDiff, startd, List.replicate_succ, List.replicate_zero, List.nil_append, List.cons_append, Nat.reduceSub, exists_const, and_self, shp_int, shp_none, shp_bool, eqv_int, dForL_nil, lcL_nil])]
    refine qq _ ⟨l.map fun x => x - 1, perm_in (seq_perm hl), ?_⟩
    unfold ordD
    rw [List.map_map, List.map_map]
    rfl
  obtain ⟨o, ho, rfl⟩ := hd
  obtain ⟨o1, o2⟩ := orders_in ho
  have pk := O.pk ho
  refine st_asg1 (.list ((countsG (permG rs o) num).map .int)) (fun Q qq => ?_) ?_
  · simp only [dSeq, dAsgG, dAsgN, dRet, dRetN, dRetO, dRet0, dDrop, dIfS, dNext, dApp, dInsert, q_setI, q_setQ, q_take, dFor, dFreeze, dNever, q_par, q_parQ, q_par3, q_parQ3, dParNE, dParDE, gdName, q_gnil, q_gcons, q_gtup, dVar, dOwn, dC, d1, d2, n2, nCons, nNil, nLst, dTup, dFr, dTest, dAnd, dOr, dNot, dAndV, dOrV, dNotV, dIf, dChain, dCB, nCB, dCall, nCall, aDat, aBag, aNil, q_neg, q_add, q_addl, q_addt, q_sub, q_mul, q_mull, q_mult, q_fdiv, q_mod, q_pow, q_lt, q_le, q_gt, q_ge, eqD, neD, isD, isntD, q_isnn, q_isni, q_isnb, q_isnt, q_isnl, q_lenl, q_lent, q_inti, q_intb, q_max2, q_min2, q_listl, q_listt, q_tuplel, q_tuplet, q_sum, q_min, q_max, allD, itSeq, itR1, q_itR2, q_rng2, q_en, q_en1, q_zip, q_zipQ, q_seqr, q_lenr, q_ixr, q_seql, q_seqt, q_rvd, q_rvn, q_catn, q_ixl, q_ixt, q_sl, q_sll, q_slt, q_slr, nSlL, oNone, oSome, nLc, wipeD, q_dropc, q_dropxd, q_dropxb, q_dropxo, q_dropxn, q_drope, dYes, dCnt, q_revl, q_revt, q_revr, nListRg, dTupRg, exInts, exOpt, q_addr1, q_addrr, q_ixk0, q_ixk1, exRow, exTk, cntL, cntQ_some, cntQ_none, List.getElem?_cons_zero, List.getElem?_cons_succ, List.getElem?_nil, Option.some.injEq, SV.dat.injEq, SV.own.injEq, PyData.int.injEq, PyData.bool.injEq, PyData.tuple.injEq, PyData.list.injEq, PyData.str.injEq, RVd.new.injEq, RVd.dat.injEq, exists_eq_left, exists_eq_left', exists_eq_right, List.cons.injEq, List.set_cons_zero, List.set_cons_succ, reduceCtorEq, and_true, true_and, false_and, and_false, not_true_eq_false, not_false_eq_true, if_true, if_false, ite_true, ite_false, decide_eq_true_eq, Bool.not_eq_true', decide_eq_false_iff_not, Bool.and_true, Bool.true_and, Bool.and_false, Bool.false_and, Bool.not_true, Bool.not_false, Bool.false_eq_true, List.map_cons, List.map_nil, List.length_cons, List.length_nil, Nat.zero_add, Nat.reduceAdd, Nat.reduceLeDiff, startd, List.replicate_succ, List.replicate_zero, List.nil_append, List.cons_append, Nat.reduceSub, exists_const, and_self, shp_int, shp_none, shp_bool, eqv_int, dForL_nil, lcL_nil]
    refine ⟨rs, o, rfl, o1, by omega, ?_⟩
    exact ⟨_, rfl, pk, O.n0, O.n1, qq⟩
  refine st_ifE (fun Q qq => ?_) (h _ _)
  have hb := List.all_eq_true.mp (ords_b h5).1 o ho
  unfold ordB at hb
  rw [Bool.and_eq_true] at hb
  simp only [q_lenr, show -(2 : Int) ^ 62 ≤ ((rs.length : Nat) : Int) by omega, show ((rs.length : Nat) : Int) < 2 ^ 62 by omega, Int.toNat_natCast, rngD_len, show rs.length ≤ 1000000 by omega, dSeq, dAsgG, dAsgN, dRet, dRetN, dRetO, dRet0, dDrop, dIfS, dNext, dApp, dInsert, q_setI, q_setQ, q_take, dFor, dFreeze, dNever, q_par, q_parQ, q_par3, q_parQ3, dParNE, dParDE, gdName, q_gnil, q_gcons, q_gtup, dVar, dOwn, dC, d1, d2, n2, nCons, nNil, nLst, dTup, dFr, dTest, dAnd, dOr, dNot, dAndV, dOrV, dNotV, dIf, dChain, dCB, nCB, dCall, nCall, aDat, aBag, aNil, q_neg, q_add, q_addl, q_addt, q_sub, q_mul, q_mull, q_mult, q_fdiv, q_mod, q_pow, q_lt, q_le, q_gt, q_ge, eqD, neD, isD, isntD, q_isnn, q_isni, q_isnb, q_isnt, q_isnl, q_lenl, q_lent, q_inti, q_intb, q_max2, q_min2, q_listl, q_listt, q_tuplel, q_tuplet, q_sum, q_min, q_max, allD, itSeq, itR1, q_itR2, q_rng2, q_en, q_en1, q_zip, q_zipQ, q_seqr, q_lenr, q_ixr, q_seql, q_seqt, q_rvd, q_rvn, q_catn, q_ixl, q_ixt, q_sl, q_sll, q_slt, q_slr, nSlL, oNone, oSome, nLc, wipeD, q_dropc, q_dropxd, q_dropxb, q_dropxo, q_dropxn, q_drope, dYes, dCnt, q_revl, q_revt, q_revr, nListRg, dTupRg, exInts, exOpt, q_addr1, q_addrr, q_ixk0, q_ixk1, exRow, exTk, cntL, cntQ_some, cntQ_none, List.getElem?_cons_zero, List.getElem?_cons_succ, List.getElem?_nil, Option.some.injEq, SV.dat.injEq, SV.own.injEq, PyData.int.injEq, PyData.bool.injEq, PyData.tuple.injEq, PyData.list.injEq, PyData.str.injEq, RVd.new.injEq, RVd.dat.injEq, exists_eq_left, exists_eq_left', exists_eq_right, List.cons.injEq, List.set_cons_zero, List.set_cons_succ, reduceCtorEq, and_true, true_and, false_and, and_false, not_true_eq_false, not_false_eq_true, if_true, if_false, ite_true, ite_false, decide_eq_true_eq, Bool.not_eq_true', decide_eq_false_iff_not, Bool.and_true, Bool.true_and, Bool.and_false, Bool.false_and, Bool.not_true, Bool.not_false, Bool.false_eq_true, List.map_cons, List.map_nil, List.length_cons, List.length_nil, Nat.zero_add, Nat.reduceAdd, Nat.reduceLeDiff, startd, List.replicate_succ, List.replicate_zero, List.nil_append, List.cons_append, Nat.reduceSub, exists_const, and_self, shp_int, shp_none, shp_bool, eqv_int, dForL_nil, lcL_nil]
  rw [rng_eq, lcL_mapOn (f := fun d => match d with | .int p => .int ((countsG (permG rs o) num).getD (ixOf p o) 0) | _ => .none) (fun d hd Q => by
    obtain ⟨p, hp, rfl⟩ := List.mem_map.mp hd
    have hpo : p ∈ o := by
      have := List.all_eq_true.mp hb.1 p hp
      simpa using this
    obtain ⟨a1, _⟩ := ixOf_at hpo
    have hi : ixOf p o < o.length := (List.getElem?_eq_some_iff.mp a1).1
    have ca : atI (countsG (permG rs o) num) ((ixOf p o : Nat) : Int) = some ((countsG (permG rs o) num).getD (ixOf p o) 0) := by
      have := at_getD (xs := countsG (permG rs o) num) (p := ((ixOf p o : Nat) : Int)) (d := 0) (by omega) (by rw [countsG_len, permG, List.length_map]; omega)
      rw [Int.toNat_natCast] at this
      exact this
    simp only [dIndex, ordD, exInts, hpo, exAt, ca, dSeq, dAsgG, dAsgN, dRet, dRetN, dRetO, dRet0, dDrop, dIfS, dNext, dApp, dInsert, q_setI, q_setQ, q_take, dFor, dFreeze, dNever, q_par, q_parQ, q_par3, q_parQ3, dParNE, dParDE, gdName, q_gnil, q_gcons, q_gtup, dVar, dOwn, dC, d1, d2, n2, nCons, nNil, nLst, dTup, dFr, dTest, dAnd, dOr, dNot, dAndV, dOrV, dNotV, dIf, dChain, dCB, nCB, dCall, nCall, aDat, aBag, aNil, q_neg, q_add, q_addl, q_addt, q_sub, q_mul, q_mull, q_mult, q_fdiv, q_mod, q_pow, q_lt, q_le, q_gt, q_ge, eqD, neD, isD, isntD, q_isnn, q_isni, q_isnb, q_isnt, q_isnl, q_lenl, q_lent, q_inti, q_intb, q_max2, q_min2, q_listl, q_listt, q_tuplel, q_tuplet, q_sum, q_min, q_max, allD, itSeq, itR1, q_itR2, q_rng2, q_en, q_en1, q_zip, q_zipQ, q_seqr, q_lenr, q_ixr, q_seql, q_seqt, q_rvd, q_rvn, q_catn, q_ixl, q_ixt, q_sl, q_sll, q_slt, q_slr, nSlL, oNone, oSome, nLc, wipeD, q_dropc, q_dropxd, q_dropxb, q_dropxo, q_dropxn, q_drope, dYes, dCnt, q_revl, q_revt, q_revr, nListRg, dTupRg, exInts, exOpt, q_addr1, q_addrr, q_ixk0, q_ixk1, exRow, exTk, cntL, cntQ_some, cntQ_none, List.getElem?_cons_zero, List.getElem?_cons_succ, List.getElem?_nil, Option.some.injEq, SV.dat.injEq, SV.own.injEq, PyData.int.injEq, PyData.bool.injEq, PyData.tuple.injEq, PyData.list.injEq, PyData.str.injEq, RVd.new.injEq, RVd.dat.injEq, exists_eq_left, exists_eq_left', exists_eq_right, List.cons.injEq, List.set_cons_zero, List.set_cons_succ, reduceCtorEq, and_true, true_and, false_and, and_false, not_true_eq_false, not_false_eq_true, if_true, if_false, ite_true, ite_false, decide_eq_true_eq, Bool.not_eq_true', decide_eq_false_iff_not, Bool.and_true, Bool.true_and, Bool.and_false, Bool.false_and, Bool.not_true, Bool.not_false, Bool.false_eq_true, List.map_cons, List.map_nil, List.length_cons, List.length_nil, Nat.zero_add, Nat.reduceAdd, Nat.reduceLeDiff, startd, List.replicate_succ, List.replicate_zero, List.nil_append, List.cons_append, Nat.reduceSub, exists_const, and_self, shp_int, shp_none, shp_bool, eqv_int, dForL_nil, lcL_nil])]
  have e3 : ((rngI rs.length).map PyData.int).map (fun d => match d with | .int p => PyData.int ((countsG (permG rs o) num).getD (ixOf p o) 0) | _ => .none) = (rowO rs.length rs num o).map .int := by
    unfold rowO
    rw [List.map_map, List.map_map]
    rfl
  rw [e3, cutL]
  have ef : decide (rowO rs.length rs num o = xs) = decide (o ∈ toldO rs num xs) := by
    rw [row_fit h5 ho O.l, Bool.eq_iff_iff, decide_eq_true_iff, List.mem_filter]
    exact ⟨fun z => ⟨ho, z⟩, fun z => z.2⟩
  refine ⟨shp_ints _, shp_ints _, ?_⟩
  rw [eqv_ints, q_in, ef]
  generalize decide (o ∈ toldO rs num xs) = b
  have eb : PyData.eqv (.bool b) (.bool b) = true := by cases b <;> rfl
  refine ⟨shp_bool _, ?_⟩
  rw [eb]
  exact qq
theorem loop14 (O : Own14 rs num xs z) {D : DEnds} {x9 x10 x11 x12 x13 x14 : Option SV} : ∀ (ds : List PyData) (x6 x7 x8 : Option SV), (∀ x6 x7 x8, D.nx (envK rs num xs z [x6, x7, x8, x9, x10, x11, x12, x13, x14])) → dForL (gdName 6) b_law_turn ds D (envK rs num xs z [x6, x7, x8, x9, x10, x11, x12, x13, x14])
  | [], x6, x7, x8, h => h x6 x7 x8
  | d :: ds, x6, x7, x8, h => by
    rw [dForL_cons]
    exact turn14 O (some (.dat d)) x7 x8 x9 x10 x11 x12 x13 x14 fun x7 x8 => loop14 O ds (some (.dat d)) x7 x8 h
theorem ords14 (O : Own14 rs num xs z) {D : DEnds} {x6 x8 x9 x10 x11 x12 x13 x14 : Option SV} : ∀ (os : List (List Int)) (x7 : Option SV), (∀ o ∈ os, o ∈ toldO rs num xs) → (∀ x7, D.nx (envK rs num xs z [x6, x7, x8, x9, x10, x11, x12, x13, x14])) → dForL (gdName 7) b_law_ord (os.map ordD) D (envK rs num xs z [x6, x7, x8, x9, x10, x11, x12, x13, x14])
  | [], x7, _, h => h x7
  | o :: os, x7, ho, h => by
    rw [List.map_cons, dForL_cons]
    obtain ⟨h1, h2⟩ := List.mem_filter.mp (ho o List.mem_cons_self)
    obtain ⟨o1, o2⟩ := orders_in h1
    have h5 := O.h5
    refine st_ifE (fun Q qq => ?_) (ords14 O os (some (.dat (ordD o))) (fun q hq => ho q (List.mem_cons_of_mem _ hq)) h)
    obtain ⟨ys, ey⟩ := fit_left O.h5 h1 O.e O.l O.s h2
    simp only [dSeq, dAsgG, dAsgN, dRet, dRetN, dRetO, dRet0, dDrop, dIfS, dNext, dApp, dInsert, q_setI, q_setQ, q_take, dFor, dFreeze, dNever, q_par, q_parQ, q_par3, q_parQ3, dParNE, dParDE, gdName, q_gnil, q_gcons, q_gtup, dVar, dOwn, dC, d1, d2, n2, nCons, nNil, nLst, dTup, dFr, dTest, dAnd, dOr, dNot, dAndV, dOrV, dNotV, dIf, dChain, dCB, nCB, dCall, nCall, aDat, aBag, aNil, q_neg, q_add, q_addl, q_addt, q_sub, q_mul, q_mull, q_mult, q_fdiv, q_mod, q_pow, q_lt, q_le, q_gt, q_ge, eqD, neD, isD, isntD, q_isnn, q_isni, q_isnb, q_isnt, q_isnl, q_lenl, q_lent, q_inti, q_intb, q_max2, q_min2, q_listl, q_listt, q_tuplel, q_tuplet, q_sum, q_min, q_max, allD, itSeq, itR1, q_itR2, q_rng2, q_en, q_en1, q_zip, q_zipQ, q_seqr, q_lenr, q_ixr, q_seql, q_seqt, q_rvd, q_rvn, q_catn, q_ixl, q_ixt, q_sl, q_sll, q_slt, q_slr, nSlL, oNone, oSome, nLc, wipeD, q_dropc, q_dropxd, q_dropxb, q_dropxo, q_dropxn, q_drope, dYes, dCnt, q_revl, q_revt, q_revr, nListRg, dTupRg, exInts, exOpt, q_addr1, q_addrr, q_ixk0, q_ixk1, exRow, exTk, cntL, cntQ_some, cntQ_none, List.getElem?_cons_zero, List.getElem?_cons_succ, List.getElem?_nil, Option.some.injEq, SV.dat.injEq, SV.own.injEq, PyData.int.injEq, PyData.bool.injEq, PyData.tuple.injEq, PyData.list.injEq, PyData.str.injEq, RVd.new.injEq, RVd.dat.injEq, exists_eq_left, exists_eq_left', exists_eq_right, List.cons.injEq, List.set_cons_zero, List.set_cons_succ, reduceCtorEq, and_true, true_and, false_and, and_false, not_true_eq_false, not_false_eq_true, if_true, if_false, ite_true, ite_false, decide_eq_true_eq, Bool.not_eq_true', decide_eq_false_iff_not, Bool.and_true, Bool.true_and, Bool.and_false, Bool.false_and, Bool.not_true, Bool.not_false, Bool.false_eq_true, List.map_cons, List.map_nil, List.length_cons, List.length_nil, Nat.zero_add, Nat.reduceAdd, Nat.reduceLeDiff, startd, List.replicate_succ, List.replicate_zero, List.nil_append, List.cons_append, Nat.reduceSub, exists_const, and_self, shp_int, shp_none, shp_bool, eqv_int, dForL_nil, lcL_nil]
    refine ⟨rs, o, rfl, o1, by omega, _, rfl, O.pk h1, O.n0, O.n1, ?_⟩
    have a1 : atI (List.map PyData.int (countsG (permG rs o) num)) (-1) = some (.int z) := by
      rw [ey, List.map_append]
      exact at_last _ _
    have a2 : atI ((xs ++ [z]).map PyData.int) (-1) = some (.int z) := by
      rw [List.map_append]
      exact at_last _ _
    refine ⟨_, a1, ?_⟩
    simp only [a2, shp_int, eqv_int, decide_true, dSeq, dAsgG, dAsgN, dRet, dRetN, dRetO, dRet0, dDrop, dIfS, dNext, dApp, dInsert, q_setI, q_setQ, q_take, dFor, dFreeze, dNever, q_par, q_parQ, q_par3, q_parQ3, dParNE, dParDE, gdName, q_gnil, q_gcons, q_gtup, dVar, dOwn, dC, d1, d2, n2, nCons, nNil, nLst, dTup, dFr, dTest, dAnd, dOr, dNot, dAndV, dOrV, dNotV, dIf, dChain, dCB, nCB, dCall, nCall, aDat, aBag, aNil, q_neg, q_add, q_addl, q_addt, q_sub, q_mul, q_mull, q_mult, q_fdiv, q_mod, q_pow, q_lt, q_le, q_gt, q_ge, eqD, neD, isD, isntD, q_isnn, q_isni, q_isnb, q_isnt, q_isnl, q_lenl, q_lent, q_inti, q_intb, q_max2, q_min2, q_listl, q_listt, q_tuplel, q_tuplet, q_sum, q_min, q_max, allD, itSeq, itR1, q_itR2, q_rng2, q_en, q_en1, q_zip, q_zipQ, q_seqr, q_lenr, q_ixr, q_seql, q_seqt, q_rvd, q_rvn, q_catn, q_ixl, q_ixt, q_sl, q_sll, q_slt, q_slr, nSlL, oNone, oSome, nLc, wipeD, q_dropc, q_dropxd, q_dropxb, q_dropxo, q_dropxn, q_drope, dYes, dCnt, q_revl, q_revt, q_revr, nListRg, dTupRg, exInts, exOpt, q_addr1, q_addrr, q_ixk0, q_ixk1, exRow, exTk, cntL, cntQ_some, cntQ_none, List.getElem?_cons_zero, List.getElem?_cons_succ, List.getElem?_nil, Option.some.injEq, SV.dat.injEq, SV.own.injEq, PyData.int.injEq, PyData.bool.injEq, PyData.tuple.injEq, PyData.list.injEq, PyData.str.injEq, RVd.new.injEq, RVd.dat.injEq, exists_eq_left, exists_eq_left', exists_eq_right, List.cons.injEq, List.set_cons_zero, List.set_cons_succ, reduceCtorEq, and_true, true_and, false_and, and_false, not_true_eq_false, not_false_eq_true, if_true, if_false, ite_true, ite_false, decide_eq_true_eq, Bool.not_eq_true', decide_eq_false_iff_not, Bool.and_true, Bool.true_and, Bool.and_false, Bool.false_and, Bool.not_true, Bool.not_false, Bool.false_eq_true, List.map_cons, List.map_nil, List.length_cons, List.length_nil, Nat.zero_add, Nat.reduceAdd, Nat.reduceLeDiff, startd, List.replicate_succ, List.replicate_zero, List.nil_append, List.cons_append, Nat.reduceSub, exists_const, and_self, shp_int, shp_none, shp_bool, eqv_int, dForL_nil, lcL_nil]
    exact qq
theorem whole14 {D : DEnds} {x0 x1 x2 x3 x4 x5 x6 x7 x8 x12 x13 x14 : Option SV} : ∀ (rs : List (Int × Int)) (w : Int) (x10 x11 : Option SV), (∀ t ∈ rs, TkOk t) → 0 ≤ w → w * 1000 ^ rs.length ≤ 1000000000000000000 →
    (∀ x10 x11, D.nx [x0, x1, x2, x3, x4, x5, x6, x7, x8, some (.dat (.int (w * prodE rs))), x10, x11, x12, x13, x14]) → dForL (gdTup 2 (gdCons (gdName 10) (gdCons (gdName 11) gdNil))) b_law_whole (rs.map tkD) D [x0, x1, x2, x3, x4, x5, x6, x7, x8, some (.dat (.int w)), x10, x11, x12, x13, x14]
  | [], w, x10, x11, _, _, _, h => by
    have := h x10 x11
    rw [show prodE [] = 1 from rfl, Int.mul_one] at this
    exact this
  | (e, c) :: rs, w, x10, x11, ht, w0, hw, h => by
    obtain ⟨t1, t2, t3, t4⟩ := ht (e, c) List.mem_cons_self
    dsimp only at t1 t2 t3 t4
    have hw' : w * (1000 ^ rs.length * 1000) ≤ 1000000000000000000 := hw
    have p1 : (1 : Int) ≤ 1000 ^ rs.length := by
      have : (0 : Int) < 1000 ^ rs.length := Int.pow_pos (by decide)
      omega
    have w1 : w * e * 1000 ^ rs.length ≤ w * (1000 ^ rs.length * 1000) := by
      rw [Int.mul_assoc, Int.mul_comm e]
      exact Int.mul_le_mul_of_nonneg_left (Int.mul_le_mul_of_nonneg_left t2 (by omega)) w0
    have w2 : w ≤ 1000000000000000000 := by
      have a : w * 1 ≤ w * (1000 ^ rs.length * 1000) := Int.mul_le_mul_of_nonneg_left (by omega) w0
      omega
    have mo : mulOk w e := .inl ⟨by omega, by omega⟩
    rw [List.map_cons, dForL_cons]
    simp only [tkD, mo, dSeq, dAsgG, dAsgN, dRet, dRetN, dRetO, dRet0, dDrop, dIfS, dNext, dApp, dInsert, q_setI, q_setQ, q_take, dFor, dFreeze, dNever, q_par, q_parQ, q_par3, q_parQ3, dParNE, dParDE, gdName, q_gnil, q_gcons, q_gtup, dVar, dOwn, dC, d1, d2, n2, nCons, nNil, nLst, dTup, dFr, dTest, dAnd, dOr, dNot, dAndV, dOrV, dNotV, dIf, dChain, dCB, nCB, dCall, nCall, aDat, aBag, aNil, q_neg, q_add, q_addl, q_addt, q_sub, q_mul, q_mull, q_mult, q_fdiv, q_mod, q_pow, q_lt, q_le, q_gt, q_ge, eqD, neD, isD, isntD, q_isnn, q_isni, q_isnb, q_isnt, q_isnl, q_lenl, q_lent, q_inti, q_intb, q_max2, q_min2, q_listl, q_listt, q_tuplel, q_tuplet, q_sum, q_min, q_max, allD, itSeq, itR1, q_itR2, q_rng2, q_en, q_en1, q_zip, q_zipQ, q_seqr, q_lenr, q_ixr, q_seql, q_seqt, q_rvd, q_rvn, q_catn, q_ixl, q_ixt, q_sl, q_sll, q_slt, q_slr, nSlL, oNone, oSome, nLc, wipeD, q_dropc, q_dropxd, q_dropxb, q_dropxo, q_dropxn, q_drope, dYes, dCnt, q_revl, q_revt, q_revr, nListRg, dTupRg, exInts, exOpt, q_addr1, q_addrr, q_ixk0, q_ixk1, exRow, exTk, cntL, cntQ_some, cntQ_none, List.getElem?_cons_zero, List.getElem?_cons_succ, List.getElem?_nil, Option.some.injEq, SV.dat.injEq, SV.own.injEq, PyData.int.injEq, PyData.bool.injEq, PyData.tuple.injEq, PyData.list.injEq, PyData.str.injEq, RVd.new.injEq, RVd.dat.injEq, exists_eq_left, exists_eq_left', exists_eq_right, List.cons.injEq, List.set_cons_zero, List.set_cons_succ, reduceCtorEq, and_true, true_and, false_and, and_false, not_true_eq_false, not_false_eq_true, if_true, if_false, ite_true, ite_false, decide_eq_true_eq, Bool.not_eq_true', decide_eq_false_iff_not, Bool.and_true, Bool.true_and, Bool.and_false, Bool.false_and, Bool.not_true, Bool.not_false, Bool.false_eq_true, List.map_cons, List.map_nil, List.length_cons, List.length_nil, Nat.zero_add, Nat.reduceAdd, Nat.reduceLeDiff, startd, List.replicate_succ, List.replicate_zero, List.nil_append, List.cons_append, Nat.reduceSub, exists_const, and_self, shp_int, shp_none, shp_bool, eqv_int, dForL_nil, lcL_nil]
    have ih := whole14 (D := D) (x0 := x0) (x1 := x1) (x2 := x2) (x3 := x3) (x4 := x4) (x5 := x5) (x6 := x6) (x7 := x7) (x8 := x8) (x12 := x12) (x13 := x13) (x14 := x14) rs (w * e) (some (.dat (.int e))) (some (.dat (.int c))) (fun t h => ht t (List.mem_cons_of_mem _ h)) (Int.mul_nonneg w0 (by omega)) (by omega) (fun x10 x11 => by
      have := h x10 x11
      rw [show prodE ((e, c) :: rs) = e * prodE rs from rfl, ← Int.mul_assoc] at this
      exact this)
    exact ih
end
theorem oD_eq : oD = ordD := rfl
theorem lcL_all {α : Type} {g : DG} {te : DE} {env : Denv} {f : α → PyData} {d0 : PyData} : ∀ (as : List α) (Q : List PyData → Prop), (∀ a ∈ as, ∀ Q : PyData → Prop, Q d0 → g (f a) env fun env' => te env' Q) → Q (List.replicate as.length d0) → lcL g dYes te env (as.map f) Q
  | [], Q, _, h => h
  | a :: as, Q, ha, h => by
    show g (f a) env fun env' => te env' fun y => lcL g dYes te env (as.map f) fun ys => Q (y :: ys)
    exact ha a List.mem_cons_self _ (lcL_all as _ (fun b hb => ha b (List.mem_cons_of_mem _ hb)) h)
theorem lc_same {x0 x1 x2 x3 x4 x5 x6 x7 x8 x9 x10 x11 x13 x14 : Option SV} {M : Int} {ds : List PyData} (h0 : atI ds 0 = some (.int M)) : ∀ (n : Nat) (Q : List PyData → Prop), Q [] → lcL (gdName 14) (dTest (d2 neD (dVar 14) (d2 ixD (dVar 12) (dC (.int 0))))) (dC (.int 1)) [x0, x1, x2, x3, x4, x5, x6, x7, x8, x9, x10, x11, some (.dat (.list ds)), x13, x14] (List.replicate n (.int M)) Q
  | 0, Q, h => h
  | n + 1, Q, h => by
    have ih := lc_same (x0 := x0) (x1 := x1) (x2 := x2) (x3 := x3) (x4 := x4) (x5 := x5) (x6 := x6) (x7 := x7) (x8 := x8) (x9 := x9) (x10 := x10) (x11 := x11) (x13 := x13) (x14 := x14) h0 n Q h
    rw [List.replicate_succ, lcL_cons]
    generalize lcL (gdName 14) (dTest (d2 neD (dVar 14) (d2 ixD (dVar 12) (dC (.int 0))))) (dC (.int 1)) [x0, x1, x2, x3, x4, x5, x6, x7, x8, x9, x10, x11, some (.dat (.list ds)), x13, x14] (List.replicate n (.int M)) = rest at *
    simp only [h0, shp_int, eqv_int, decide_true, dSeq, dAsgG, dAsgN, dRet, dRetN, dRetO, dRet0, dDrop, dIfS, dNext, dApp, dInsert, q_setI, q_setQ, q_take, dFor, dFreeze, dNever, q_par, q_parQ, q_par3, q_parQ3, dParNE, dParDE, gdName, q_gnil, q_gcons, q_gtup, dVar, dOwn, dC, d1, d2, n2, nCons, nNil, nLst, dTup, dFr, dTest, dAnd, dOr, dNot, dAndV, dOrV, dNotV, dIf, dChain, dCB, nCB, dCall, nCall, aDat, aBag, aNil, q_neg, q_add, q_addl, q_addt, q_sub, q_mul, q_mull, q_mult, q_fdiv, q_mod, q_pow, q_lt, q_le, q_gt, q_ge, eqD, neD, isD, isntD, q_isnn, q_isni, q_isnb, q_isnt, q_isnl, q_lenl, q_lent, q_inti, q_intb, q_max2, q_min2, q_listl, q_listt, q_tuplel, q_tuplet, q_sum, q_min, q_max, allD, itSeq, itR1, q_itR2, q_rng2, q_en, q_en1, q_zip, q_zipQ, q_seqr, q_lenr, q_ixr, q_seql, q_seqt, q_rvd, q_rvn, q_catn, q_ixl, q_ixt, q_sl, q_sll, q_slt, q_slr, nSlL, oNone, oSome, nLc, wipeD, q_dropc, q_dropxd, q_dropxb, q_dropxo, q_dropxn, q_drope, dYes, dCnt, q_revl, q_revt, q_revr, nListRg, dTupRg, exInts, exOpt, q_addr1, q_addrr, q_ixk0, q_ixk1, exRow, exTk, cntL, cntQ_some, cntQ_none, List.getElem?_cons_zero, List.getElem?_cons_succ, List.getElem?_nil, Option.some.injEq, SV.dat.injEq, SV.own.injEq, PyData.int.injEq, PyData.bool.injEq, PyData.tuple.injEq, PyData.list.injEq, PyData.str.injEq, RVd.new.injEq, RVd.dat.injEq, exists_eq_left, exists_eq_left', exists_eq_right, List.cons.injEq, List.set_cons_zero, List.set_cons_succ, reduceCtorEq, and_true, true_and, false_and, and_false, not_true_eq_false, not_false_eq_true, if_true, if_false, ite_true, ite_false, decide_eq_true_eq, Bool.not_eq_true', decide_eq_false_iff_not, Bool.and_true, Bool.true_and, Bool.and_false, Bool.false_and, Bool.not_true, Bool.not_false, Bool.false_eq_true, List.map_cons, List.map_nil, List.length_cons, List.length_nil, Nat.zero_add, Nat.reduceAdd, Nat.reduceLeDiff, startd, List.replicate_succ, List.replicate_zero, List.nil_append, List.cons_append, Nat.reduceSub, exists_const, and_self, shp_int, shp_none, shp_bool, eqv_int, dForL_nil, lcL_nil]
    exact ih
theorem rd_law_rest : b_law_rest { nx := fun _ => False, rt := isTrue' } (blank 15) := by
  simp only [b_law_rest, isTrue', dSeq, dAsgG, dAsgN, dRet, dRetN, dRetO, dRet0, dDrop, dIfS, dNext, dApp, dInsert, q_setI, q_setQ, q_take, dFor, dFreeze, dNever, q_par, q_parQ, q_par3, q_parQ3, dParNE, dParDE, gdName, q_gnil, q_gcons, q_gtup, dVar, dOwn, dC, d1, d2, n2, nCons, nNil, nLst, dTup, dFr, dTest, dAnd, dOr, dNot, dAndV, dOrV, dNotV, dIf, dChain, dCB, nCB, dCall, nCall, aDat, aBag, aNil, q_neg, q_add, q_addl, q_addt, q_sub, q_mul, q_mull, q_mult, q_fdiv, q_mod, q_pow, q_lt, q_le, q_gt, q_ge, eqD, neD, isD, isntD, q_isnn, q_isni, q_isnb, q_isnt, q_isnl, q_lenl, q_lent, q_inti, q_intb, q_max2, q_min2, q_listl, q_listt, q_tuplel, q_tuplet, q_sum, q_min, q_max, allD, itSeq, itR1, q_itR2, q_rng2, q_en, q_en1, q_zip, q_zipQ, q_seqr, q_lenr, q_ixr, q_seql, q_seqt, q_rvd, q_rvn, q_catn, q_ixl, q_ixt, q_sl, q_sll, q_slt, q_slr, nSlL, oNone, oSome, nLc, wipeD, q_dropc, q_dropxd, q_dropxb, q_dropxo, q_dropxn, q_drope, dYes, dCnt, q_revl, q_revt, q_revr, nListRg, dTupRg, exInts, exOpt, q_addr1, q_addrr, q_ixk0, q_ixk1, exRow, exTk, cntL, cntQ_some, cntQ_none, List.getElem?_cons_zero, List.getElem?_cons_succ, List.getElem?_nil, Option.some.injEq, SV.dat.injEq, SV.own.injEq, PyData.int.injEq, PyData.bool.injEq, PyData.tuple.injEq, PyData.list.injEq, PyData.str.injEq, RVd.new.injEq, RVd.dat.injEq, exists_eq_left, exists_eq_left', exists_eq_right, List.cons.injEq, List.set_cons_zero, List.set_cons_succ, reduceCtorEq, and_true, true_and, false_and, and_false, not_true_eq_false, not_false_eq_true, if_true, if_false, ite_true, ite_false, decide_eq_true_eq, Bool.not_eq_true', decide_eq_false_iff_not, Bool.and_true, Bool.true_and, Bool.and_false, Bool.false_and, Bool.not_true, Bool.not_false, Bool.false_eq_true, List.map_cons, List.map_nil, List.length_cons, List.length_nil, Nat.zero_add, Nat.reduceAdd, Nat.reduceLeDiff, startd, List.replicate_succ, List.replicate_zero, List.nil_append, List.cons_append, Nat.reduceSub, exists_const, and_self, shp_int, shp_none, shp_bool, eqv_int, dForL_nil, lcL_nil]
theorem rd_law_loop : b_law_loop { nx := fun env' => env'.length = 15, ct := fun env' => env'.length = 15, rt := isTrue' } ((blank 15).set 1 (some .bag)) := by
  refine st_pick (fun d => ∃ rs, d = rowD rs ∧ RowOk rs ∧ rs.length ≤ 5) (fun Q qq => ?_) fun d hd => ?_
  · simp only [blank, dSeq, dAsgG, dAsgN, dRet, dRetN, dRetO, dRet0, dDrop, dIfS, dNext, dApp, dInsert, q_setI, q_setQ, q_take, dFor, dFreeze, dNever, q_par, q_parQ, q_par3, q_parQ3, dParNE, dParDE, gdName, q_gnil, q_gcons, q_gtup, dVar, dOwn, dC, d1, d2, n2, nCons, nNil, nLst, dTup, dFr, dTest, dAnd, dOr, dNot, dAndV, dOrV, dNotV, dIf, dChain, dCB, nCB, dCall, nCall, aDat, aBag, aNil, q_neg, q_add, q_addl, q_addt, q_sub, q_mul, q_mull, q_mult, q_fdiv, q_mod, q_pow, q_lt, q_le, q_gt, q_ge, eqD, neD, isD, isntD, q_isnn, q_isni, q_isnb, q_isnt, q_isnl, q_lenl, q_lent, q_inti, q_intb, q_max2, q_min2, q_listl, q_listt, q_tuplel, q_tuplet, q_sum, q_min, q_max, allD, itSeq, itR1, q_itR2, q_rng2, q_en, q_en1, q_zip, q_zipQ, q_seqr, q_lenr, q_ixr, q_seql, q_seqt, q_rvd, q_rvn, q_catn, q_ixl, q_ixt, q_sl, q_sll, q_slt, q_slr, nSlL, oNone, oSome, nLc, wipeD, q_dropc, q_dropxd, q_dropxb, q_dropxo, q_dropxn, q_drope, dYes, dCnt, q_revl, q_revt, q_revr, nListRg, dTupRg, exInts, exOpt, q_addr1, q_addrr, q_ixk0, q_ixk1, exRow, exTk, cntL, cntQ_some, cntQ_none, List.getElem?_cons_zero, List.getElem?_cons_succ, List.getElem?_nil, Option.some.injEq, SV.dat.injEq, SV.own.injEq, PyData.int.injEq, PyData.bool.injEq, PyData.tuple.injEq, PyData.list.injEq, PyData.str.injEq, RVd.new.injEq, RVd.dat.injEq, exists_eq_left, exists_eq_left', exists_eq_right, List.cons.injEq, List.set_cons_zero, List.set_cons_succ, reduceCtorEq, and_true, true_and, false_and, and_false, not_true_eq_false, not_false_eq_true, if_true, if_false, ite_true, ite_false, decide_eq_true_eq, Bool.not_eq_true', decide_eq_false_iff_not, Bool.and_true, Bool.true_and, Bool.and_false, Bool.false_and, Bool.not_true, Bool.not_false, Bool.false_eq_true, List.map_cons, List.map_nil, List.length_cons, List.length_nil, Nat.zero_add, Nat.reduceAdd, Nat.reduceLeDiff, startd, List.replicate_succ, List.replicate_zero, List.nil_append, List.cons_append, Nat.reduceSub, exists_const, and_self, shp_int, shp_none, shp_bool, eqv_int, dForL_nil, lcL_nil]
    refine ⟨by decide, fun r r0 r3 => ?_⟩
    obtain ⟨far, hz, hf⟩ := pick3 (a := 5) (b := 60) (c := 1000) (fun z => 2 ≤ z ∧ z ≤ 1000) r0 r3 (by decide) (by decide) (by decide)
    refine ⟨_, hz, ?_⟩
    simp only [sp_law_drawn_row, dSeq, dAsgG, dAsgN, dRet, dRetN, dRetO, dRet0, dDrop, dIfS, dNext, dApp, dInsert, q_setI, q_setQ, q_take, dFor, dFreeze, dNever, q_par, q_parQ, q_par3, q_parQ3, dParNE, dParDE, gdName, q_gnil, q_gcons, q_gtup, dVar, dOwn, dC, d1, d2, n2, nCons, nNil, nLst, dTup, dFr, dTest, dAnd, dOr, dNot, dAndV, dOrV, dNotV, dIf, dChain, dCB, nCB, dCall, nCall, aDat, aBag, aNil, q_neg, q_add, q_addl, q_addt, q_sub, q_mul, q_mull, q_mult, q_fdiv, q_mod, q_pow, q_lt, q_le, q_gt, q_ge, eqD, neD, isD, isntD, q_isnn, q_isni, q_isnb, q_isnt, q_isnl, q_lenl, q_lent, q_inti, q_intb, q_max2, q_min2, q_listl, q_listt, q_tuplel, q_tuplet, q_sum, q_min, q_max, allD, itSeq, itR1, q_itR2, q_rng2, q_en, q_en1, q_zip, q_zipQ, q_seqr, q_lenr, q_ixr, q_seql, q_seqt, q_rvd, q_rvn, q_catn, q_ixl, q_ixt, q_sl, q_sll, q_slt, q_slr, nSlL, oNone, oSome, nLc, wipeD, q_dropc, q_dropxd, q_dropxb, q_dropxo, q_dropxn, q_drope, dYes, dCnt, q_revl, q_revt, q_revr, nListRg, dTupRg, exInts, exOpt, q_addr1, q_addrr, q_ixk0, q_ixk1, exRow, exTk, cntL, cntQ_some, cntQ_none, List.getElem?_cons_zero, List.getElem?_cons_succ, List.getElem?_nil, Option.some.injEq, SV.dat.injEq, SV.own.injEq, PyData.int.injEq, PyData.bool.injEq, PyData.tuple.injEq, PyData.list.injEq, PyData.str.injEq, RVd.new.injEq, RVd.dat.injEq, exists_eq_left, exists_eq_left', exists_eq_right, List.cons.injEq, List.set_cons_zero, List.set_cons_succ, reduceCtorEq, and_true, true_and, false_and, and_false, not_true_eq_false, not_false_eq_true, if_true, if_false, ite_true, ite_false, decide_eq_true_eq, Bool.not_eq_true', decide_eq_false_iff_not, Bool.and_true, Bool.true_and, Bool.and_false, Bool.false_and, Bool.not_true, Bool.not_false, Bool.false_eq_true, List.map_cons, List.map_nil, List.length_cons, List.length_nil, Nat.zero_add, Nat.reduceAdd, Nat.reduceLeDiff, startd, List.replicate_succ, List.replicate_zero, List.nil_append, List.cons_append, Nat.reduceSub, exists_const, and_self, shp_int, shp_none, shp_bool, eqv_int, dForL_nil, lcL_nil]
    exact ⟨by decide, by decide, hf.1, hf.2, fun rs hl ht => qq _ ⟨rs, rfl, ⟨by omega, fun t h => (ht t h).ok hf.2⟩, by omega⟩⟩
  obtain ⟨rs, rfl, ok, h5⟩ := hd
  have p18 : (10 : Int) ^ (18 : Int).toNat = 1000000000000000000 := by decide
  have hpw : (0 : Int) ≤ 18 ∧ (18 : Int) ≤ 1000 ∧ (10 : Int).natAbs < 2 ^ 64 := by decide
  refine st_pick (fun d => ∃ n : Int, d = .int n ∧ 0 ≤ n ∧ n ≤ 1000000000000000000) (fun Q qq => ?_) fun d hd => ?_
  · simp only [blank, sp_law_far_draw, p18, hpw, dSeq, dAsgG, dAsgN, dRet, dRetN, dRetO, dRet0, dDrop, dIfS, dNext, dApp, dInsert, q_setI, q_setQ, q_take, dFor, dFreeze, dNever, q_par, q_parQ, q_par3, q_parQ3, dParNE, dParDE, gdName, q_gnil, q_gcons, q_gtup, dVar, dOwn, dC, d1, d2, n2, nCons, nNil, nLst, dTup, dFr, dTest, dAnd, dOr, dNot, dAndV, dOrV, dNotV, dIf, dChain, dCB, nCB, dCall, nCall, aDat, aBag, aNil, q_neg, q_add, q_addl, q_addt, q_sub, q_mul, q_mull, q_mult, q_fdiv, q_mod, q_pow, q_lt, q_le, q_gt, q_ge, eqD, neD, isD, isntD, q_isnn, q_isni, q_isnb, q_isnt, q_isnl, q_lenl, q_lent, q_inti, q_intb, q_max2, q_min2, q_listl, q_listt, q_tuplel, q_tuplet, q_sum, q_min, q_max, allD, itSeq, itR1, q_itR2, q_rng2, q_en, q_en1, q_zip, q_zipQ, q_seqr, q_lenr, q_ixr, q_seql, q_seqt, q_rvd, q_rvn, q_catn, q_ixl, q_ixt, q_sl, q_sll, q_slt, q_slr, nSlL, oNone, oSome, nLc, wipeD, q_dropc, q_dropxd, q_dropxb, q_dropxo, q_dropxn, q_drope, dYes, dCnt, q_revl, q_revt, q_revr, nListRg, dTupRg, exInts, exOpt, q_addr1, q_addrr, q_ixk0, q_ixk1, exRow, exTk, cntL, cntQ_some, cntQ_none, List.getElem?_cons_zero, List.getElem?_cons_succ, List.getElem?_nil, Option.some.injEq, SV.dat.injEq, SV.own.injEq, PyData.int.injEq, PyData.bool.injEq, PyData.tuple.injEq, PyData.list.injEq, PyData.str.injEq, RVd.new.injEq, RVd.dat.injEq, exists_eq_left, exists_eq_left', exists_eq_right, List.cons.injEq, List.set_cons_zero, List.set_cons_succ, reduceCtorEq, and_true, true_and, false_and, and_false, not_true_eq_false, not_false_eq_true, if_true, if_false, ite_true, ite_false, decide_eq_true_eq, Bool.not_eq_true', decide_eq_false_iff_not, Bool.and_true, Bool.true_and, Bool.and_false, Bool.false_and, Bool.not_true, Bool.not_false, Bool.false_eq_true, List.map_cons, List.map_nil, List.length_cons, List.length_nil, Nat.zero_add, Nat.reduceAdd, Nat.reduceLeDiff, startd, List.replicate_succ, List.replicate_zero, List.nil_append, List.cons_append, Nat.reduceSub, exists_const, and_self, shp_int, shp_none, shp_bool, eqv_int, dForL_nil, lcL_nil]
    refine ⟨by decide, fun a a0 a1 => ⟨by decide, by decide, fun b b0 b1 => ⟨by decide, fun r r0 r1 => ?_⟩⟩⟩
    have : r = 0 ∨ r = 1 := by omega
    rcases this with rfl | rfl
    · exact ⟨_, at0, qq _ ⟨a, rfl, a0, by omega⟩⟩
    · exact ⟨_, at1, qq _ ⟨b, rfl, b0, by omega⟩⟩
  obtain ⟨num, rfl, n0, n1⟩ := hd
  obtain ⟨xs, z, e, l, s, _⟩ := counts_split rs num
  have O : Own14 rs num xs z := ⟨ok, h5, n0, n1, e, l, s⟩
  refine st_asg1 (.list ((xs ++ [z]).map .int)) (fun Q qq => ?_) ?_
  · simp only [blank, dSeq, dAsgG, dAsgN, dRet, dRetN, dRetO, dRet0, dDrop, dIfS, dNext, dApp, dInsert, q_setI, q_setQ, q_take, dFor, dFreeze, dNever, q_par, q_parQ, q_par3, q_parQ3, dParNE, dParDE, gdName, q_gnil, q_gcons, q_gtup, dVar, dOwn, dC, d1, d2, n2, nCons, nNil, nLst, dTup, dFr, dTest, dAnd, dOr, dNot, dAndV, dOrV, dNotV, dIf, dChain, dCB, nCB, dCall, nCall, aDat, aBag, aNil, q_neg, q_add, q_addl, q_addt, q_sub, q_mul, q_mull, q_mult, q_fdiv, q_mod, q_pow, q_lt, q_le, q_gt, q_ge, eqD, neD, isD, isntD, q_isnn, q_isni, q_isnb, q_isnt, q_isnl, q_lenl, q_lent, q_inti, q_intb, q_max2, q_min2, q_listl, q_listt, q_tuplel, q_tuplet, q_sum, q_min, q_max, allD, itSeq, itR1, q_itR2, q_rng2, q_en, q_en1, q_zip, q_zipQ, q_seqr, q_lenr, q_ixr, q_seql, q_seqt, q_rvd, q_rvn, q_catn, q_ixl, q_ixt, q_sl, q_sll, q_slt, q_slr, nSlL, oNone, oSome, nLc, wipeD, q_dropc, q_dropxd, q_dropxb, q_dropxo, q_dropxn, q_drope, dYes, dCnt, q_revl, q_revt, q_revr, nListRg, dTupRg, exInts, exOpt, q_addr1, q_addrr, q_ixk0, q_ixk1, exRow, exTk, cntL, cntQ_some, cntQ_none, List.getElem?_cons_zero, List.getElem?_cons_succ, List.getElem?_nil, Option.some.injEq, SV.dat.injEq, SV.own.injEq, PyData.int.injEq, PyData.bool.injEq, PyData.tuple.injEq, PyData.list.injEq, PyData.str.injEq, RVd.new.injEq, RVd.dat.injEq, exists_eq_left, exists_eq_left', exists_eq_right, List.cons.injEq, List.set_cons_zero, List.set_cons_succ, reduceCtorEq, and_true, true_and, false_and, and_false, not_true_eq_false, not_false_eq_true, if_true, if_false, ite_true, ite_false, decide_eq_true_eq, Bool.not_eq_true', decide_eq_false_iff_not, Bool.and_true, Bool.true_and, Bool.and_false, Bool.false_and, Bool.not_true, Bool.not_false, Bool.false_eq_true, List.map_cons, List.map_nil, List.length_cons, List.length_nil, Nat.zero_add, Nat.reduceAdd, Nat.reduceLeDiff, startd, List.replicate_succ, List.replicate_zero, List.nil_append, List.cons_append, Nat.reduceSub, exists_const, and_self, shp_int, shp_none, shp_bool, eqv_int, dForL_nil, lcL_nil]
    exact ⟨rs, rfl, ok, n0, n1, by rw [e]; exact qq⟩
  refine st_asg1 (.list ((toldO rs num xs).map ordD)) (fun Q qq => ?_) ?_
  · have bd : ∀ x ∈ xs, 0 ≤ x ∧ x ≤ 1000000000000000000 := fun x hx => by
      obtain ⟨i, hi, rfl⟩ := List.getElem_of_mem hx
      have := counts_le ok.2 n0 (m := i)
      rw [e, List.getD_eq_getElem?_getD, List.getElem?_append_left hi, List.getElem?_eq_getElem hi] at this
      have this : 0 ≤ xs[i] ∧ xs[i] ≤ num := this
      omega
    simp only [blank, cutL, dSeq, dAsgG, dAsgN, dRet, dRetN, dRetO, dRet0, dDrop, dIfS, dNext, dApp, dInsert, q_setI, q_setQ, q_take, dFor, dFreeze, dNever, q_par, q_parQ, q_par3, q_parQ3, dParNE, dParDE, gdName, q_gnil, q_gcons, q_gtup, dVar, dOwn, dC, d1, d2, n2, nCons, nNil, nLst, dTup, dFr, dTest, dAnd, dOr, dNot, dAndV, dOrV, dNotV, dIf, dChain, dCB, nCB, dCall, nCall, aDat, aBag, aNil, q_neg, q_add, q_addl, q_addt, q_sub, q_mul, q_mull, q_mult, q_fdiv, q_mod, q_pow, q_lt, q_le, q_gt, q_ge, eqD, neD, isD, isntD, q_isnn, q_isni, q_isnb, q_isnt, q_isnl, q_lenl, q_lent, q_inti, q_intb, q_max2, q_min2, q_listl, q_listt, q_tuplel, q_tuplet, q_sum, q_min, q_max, allD, itSeq, itR1, q_itR2, q_rng2, q_en, q_en1, q_zip, q_zipQ, q_seqr, q_lenr, q_ixr, q_seql, q_seqt, q_rvd, q_rvn, q_catn, q_ixl, q_ixt, q_sl, q_sll, q_slt, q_slr, nSlL, oNone, oSome, nLc, wipeD, q_dropc, q_dropxd, q_dropxb, q_dropxo, q_dropxn, q_drope, dYes, dCnt, q_revl, q_revt, q_revr, nListRg, dTupRg, exInts, exOpt, q_addr1, q_addrr, q_ixk0, q_ixk1, exRow, exTk, cntL, cntQ_some, cntQ_none, List.getElem?_cons_zero, List.getElem?_cons_succ, List.getElem?_nil, Option.some.injEq, SV.dat.injEq, SV.own.injEq, PyData.int.injEq, PyData.bool.injEq, PyData.tuple.injEq, PyData.list.injEq, PyData.str.injEq, RVd.new.injEq, RVd.dat.injEq, exists_eq_left, exists_eq_left', exists_eq_right, List.cons.injEq, List.set_cons_zero, List.set_cons_succ, reduceCtorEq, and_true, true_and, false_and, and_false, not_true_eq_false, not_false_eq_true, if_true, if_false, ite_true, ite_false, decide_eq_true_eq, Bool.not_eq_true', decide_eq_false_iff_not, Bool.and_true, Bool.true_and, Bool.and_false, Bool.false_and, Bool.not_true, Bool.not_false, Bool.false_eq_true, List.map_cons, List.map_nil, List.length_cons, List.length_nil, Nat.zero_add, Nat.reduceAdd, Nat.reduceLeDiff, startd, List.replicate_succ, List.replicate_zero, List.nil_append, List.cons_append, Nat.reduceSub, exists_const, and_self, shp_int, shp_none, shp_bool, eqv_int, dForL_nil, lcL_nil]
    exact ⟨rs, rfl, ok, by omega, n0, n1, xs, rfl, l, bd, qq⟩
  show dSeq (dIfS _ _ _) _ _ (envK rs num xs z [none, none, none, none, none, none, none, none, none])
  have idm : rngI rs.length ∈ toldO rs num xs := by
    have hi := perm_in (List.Perm.refl (rngI rs.length))
    refine List.mem_filter.mpr ⟨hi, ?_⟩
    unfold fitO
    refine List.all_eq_true.mpr fun i hi => ?_
    rw [rngI_len] at hi
    have hi := List.mem_range.mp hi
    have e1 : permG rs (rngI rs.length) = rs := getD_rng rs dflt
    have e2 : (rngI rs.length).getD i 0 = ((i : Nat) : Int) := by
      unfold rngI
      rw [List.getD_eq_getElem?_getD, List.getElem?_map, List.getElem?_range hi]
      rfl
    rw [e1, e, e2, Int.toNat_natCast, decide_eq_true_iff, List.getD_eq_getElem?_getD, List.getD_eq_getElem?_getD, List.getElem?_append_left (by omega)]
  refine st_if (fun Q qq => ?_) ?_
  · have t1 : rngD 0 rs.length = (rngI rs.length).map .int := rng_eq _
    have fl : (toldO rs num xs).length ≤ 300 := Nat.le_trans (List.length_filter_le _ _) (Nat.le_trans (orders_few h5) (by decide))
    simp only [q_lenr, show (0 : Int) ≤ ((rs.length : Nat) : Int) by omega, show ((rs.length : Nat) : Int) ≤ 100000 by omega, Int.toNat_natCast, t1, dSeq, dAsgG, dAsgN, dRet, dRetN, dRetO, dRet0, dDrop, dIfS, dNext, dApp, dInsert, q_setI, q_setQ, q_take, dFor, dFreeze, dNever, q_par, q_parQ, q_par3, q_parQ3, dParNE, dParDE, gdName, q_gnil, q_gcons, q_gtup, dVar, dOwn, dC, d1, d2, n2, nCons, nNil, nLst, dTup, dFr, dTest, dAnd, dOr, dNot, dAndV, dOrV, dNotV, dIf, dChain, dCB, nCB, dCall, nCall, aDat, aBag, aNil, q_neg, q_add, q_addl, q_addt, q_sub, q_mul, q_mull, q_mult, q_fdiv, q_mod, q_pow, q_lt, q_le, q_gt, q_ge, eqD, neD, isD, isntD, q_isnn, q_isni, q_isnb, q_isnt, q_isnl, q_lenl, q_lent, q_inti, q_intb, q_max2, q_min2, q_listl, q_listt, q_tuplel, q_tuplet, q_sum, q_min, q_max, allD, itSeq, itR1, q_itR2, q_rng2, q_en, q_en1, q_zip, q_zipQ, q_seqr, q_lenr, q_ixr, q_seql, q_seqt, q_rvd, q_rvn, q_catn, q_ixl, q_ixt, q_sl, q_sll, q_slt, q_slr, nSlL, oNone, oSome, nLc, wipeD, q_dropc, q_dropxd, q_dropxb, q_dropxo, q_dropxn, q_drope, dYes, dCnt, q_revl, q_revt, q_revr, nListRg, dTupRg, exInts, exOpt, q_addr1, q_addrr, q_ixk0, q_ixk1, exRow, exTk, cntL, cntQ_some, cntQ_none, List.getElem?_cons_zero, List.getElem?_cons_succ, List.getElem?_nil, Option.some.injEq, SV.dat.injEq, SV.own.injEq, PyData.int.injEq, PyData.bool.injEq, PyData.tuple.injEq, PyData.list.injEq, PyData.str.injEq, RVd.new.injEq, RVd.dat.injEq, exists_eq_left, exists_eq_left', exists_eq_right, List.cons.injEq, List.set_cons_zero, List.set_cons_succ, reduceCtorEq, and_true, true_and, false_and, and_false, not_true_eq_false, not_false_eq_true, if_true, if_false, ite_true, ite_false, decide_eq_true_eq, Bool.not_eq_true', decide_eq_false_iff_not, Bool.and_true, Bool.true_and, Bool.and_false, Bool.false_and, Bool.not_true, Bool.not_false, Bool.false_eq_true, List.map_cons, List.map_nil, List.length_cons, List.length_nil, Nat.zero_add, Nat.reduceAdd, Nat.reduceLeDiff, startd, List.replicate_succ, List.replicate_zero, List.nil_append, List.cons_append, Nat.reduceSub, exists_const, and_self, shp_int, shp_none, shp_bool, eqv_int, dForL_nil, lcL_nil]
    show inD true (ordD (rngI rs.length)) (.list ((toldO rs num xs).map ordD)) _
    rw [q_ni]
    simp only [idm, decide_true, nSrtTup, dSeq, dAsgG, dAsgN, dRet, dRetN, dRetO, dRet0, dDrop, dIfS, dNext, dApp, dInsert, q_setI, q_setQ, q_take, dFor, dFreeze, dNever, q_par, q_parQ, q_par3, q_parQ3, dParNE, dParDE, gdName, q_gnil, q_gcons, q_gtup, dVar, dOwn, dC, d1, d2, n2, nCons, nNil, nLst, dTup, dFr, dTest, dAnd, dOr, dNot, dAndV, dOrV, dNotV, dIf, dChain, dCB, nCB, dCall, nCall, aDat, aBag, aNil, q_neg, q_add, q_addl, q_addt, q_sub, q_mul, q_mull, q_mult, q_fdiv, q_mod, q_pow, q_lt, q_le, q_gt, q_ge, eqD, neD, isD, isntD, q_isnn, q_isni, q_isnb, q_isnt, q_isnl, q_lenl, q_lent, q_inti, q_intb, q_max2, q_min2, q_listl, q_listt, q_tuplel, q_tuplet, q_sum, q_min, q_max, allD, itSeq, itR1, q_itR2, q_rng2, q_en, q_en1, q_zip, q_zipQ, q_seqr, q_lenr, q_ixr, q_seql, q_seqt, q_rvd, q_rvn, q_catn, q_ixl, q_ixt, q_sl, q_sll, q_slt, q_slr, nSlL, oNone, oSome, nLc, wipeD, q_dropc, q_dropxd, q_dropxb, q_dropxo, q_dropxn, q_drope, dYes, dCnt, q_revl, q_revt, q_revr, nListRg, dTupRg, exInts, exOpt, q_addr1, q_addrr, q_ixk0, q_ixk1, exRow, exTk, cntL, cntQ_some, cntQ_none, List.getElem?_cons_zero, List.getElem?_cons_succ, List.getElem?_nil, Option.some.injEq, SV.dat.injEq, SV.own.injEq, PyData.int.injEq, PyData.bool.injEq, PyData.tuple.injEq, PyData.list.injEq, PyData.str.injEq, RVd.new.injEq, RVd.dat.injEq, exists_eq_left, exists_eq_left', exists_eq_right, List.cons.injEq, List.set_cons_zero, List.set_cons_succ, reduceCtorEq, and_true, true_and, false_and, and_false, not_true_eq_false, not_false_eq_true, if_true, if_false, ite_true, ite_false, decide_eq_true_eq, Bool.not_eq_true', decide_eq_false_iff_not, Bool.and_true, Bool.true_and, Bool.and_false, Bool.false_and, Bool.not_true, Bool.not_false, Bool.false_eq_true, List.map_cons, List.map_nil, List.length_cons, List.length_nil, Nat.zero_add, Nat.reduceAdd, Nat.reduceLeDiff, startd, List.replicate_succ, List.replicate_zero, List.nil_append, List.cons_append, Nat.reduceSub, exists_const, and_self, shp_int, shp_none, shp_bool, eqv_int, dForL_nil, lcL_nil]
    refine ⟨toldO rs num xs, rs.length, 6, rfl, fl, fun o ho => ?_, fun z => ?_, (codes h5).sublist (List.filter_sublist ..), ?_⟩
    · obtain ⟨o1, o2⟩ := orders_in (List.mem_filter.mp ho).1
      refine ⟨o2, fun m hm => ?_⟩
      have := o1 m hm
      omega
    · rcases Nat.eq_zero_or_pos rs.length with hz | hz
      · have : (toldO rs num xs).length ≤ (ordersG rs.length).length := List.length_filter_le _ _
        rw [hz] at this
        have h0 : (ordersG 0).length = 1 := by decide
        omega
      · exact hz
    · rw [oD_eq]
      refine ⟨shp_ords _, shp_ords _, ?_⟩
      rw [eqv_ords, decide_eq_true rfl]
      exact qq
  refine st_for (rngD 0 6) (fun Q qq => ?_) (loop14 O _ _ _ _ fun x6 x7 x8 => ?_)
  · simp only [show -(2 : Int) ^ 62 ≤ 6 by decide, show (6 : Int) < 2 ^ 62 by decide, dSeq, dAsgG, dAsgN, dRet, dRetN, dRetO, dRet0, dDrop, dIfS, dNext, dApp, dInsert, q_setI, q_setQ, q_take, dFor, dFreeze, dNever, q_par, q_parQ, q_par3, q_parQ3, dParNE, dParDE, gdName, q_gnil, q_gcons, q_gtup, dVar, dOwn, dC, d1, d2, n2, nCons, nNil, nLst, dTup, dFr, dTest, dAnd, dOr, dNot, dAndV, dOrV, dNotV, dIf, dChain, dCB, nCB, dCall, nCall, aDat, aBag, aNil, q_neg, q_add, q_addl, q_addt, q_sub, q_mul, q_mull, q_mult, q_fdiv, q_mod, q_pow, q_lt, q_le, q_gt, q_ge, eqD, neD, isD, isntD, q_isnn, q_isni, q_isnb, q_isnt, q_isnl, q_lenl, q_lent, q_inti, q_intb, q_max2, q_min2, q_listl, q_listt, q_tuplel, q_tuplet, q_sum, q_min, q_max, allD, itSeq, itR1, q_itR2, q_rng2, q_en, q_en1, q_zip, q_zipQ, q_seqr, q_lenr, q_ixr, q_seql, q_seqt, q_rvd, q_rvn, q_catn, q_ixl, q_ixt, q_sl, q_sll, q_slt, q_slr, nSlL, oNone, oSome, nLc, wipeD, q_dropc, q_dropxd, q_dropxb, q_dropxo, q_dropxn, q_drope, dYes, dCnt, q_revl, q_revt, q_revr, nListRg, dTupRg, exInts, exOpt, q_addr1, q_addrr, q_ixk0, q_ixk1, exRow, exTk, cntL, cntQ_some, cntQ_none, List.getElem?_cons_zero, List.getElem?_cons_succ, List.getElem?_nil, Option.some.injEq, SV.dat.injEq, SV.own.injEq, PyData.int.injEq, PyData.bool.injEq, PyData.tuple.injEq, PyData.list.injEq, PyData.str.injEq, RVd.new.injEq, RVd.dat.injEq, exists_eq_left, exists_eq_left', exists_eq_right, List.cons.injEq, List.set_cons_zero, List.set_cons_succ, reduceCtorEq, and_true, true_and, false_and, and_false, not_true_eq_false, not_false_eq_true, if_true, if_false, ite_true, ite_false, decide_eq_true_eq, Bool.not_eq_true', decide_eq_false_iff_not, Bool.and_true, Bool.true_and, Bool.and_false, Bool.false_and, Bool.not_true, Bool.not_false, Bool.false_eq_true, List.map_cons, List.map_nil, List.length_cons, List.length_nil, Nat.zero_add, Nat.reduceAdd, Nat.reduceLeDiff, startd, List.replicate_succ, List.replicate_zero, List.nil_append, List.cons_append, Nat.reduceSub, exists_const, and_self, shp_int, shp_none, shp_bool, eqv_int, dForL_nil, lcL_nil]
    exact qq
  dsimp only
  refine st_for (((toldO rs num xs).take 9).map ordD) (fun Q qq => ?_) (ords14 O _ _ (fun o ho => List.mem_of_mem_take ho) fun x7 => ?_)
  · have c9 : cutD ((toldO rs num xs).map ordD) none (some 9) = ((toldO rs num xs).take 9).map ordD := by
      rw [List.map_take]
      exact cut_to _ 9
    simp only [c9, List.length_map, List.length_take, dSeq, dAsgG, dAsgN, dRet, dRetN, dRetO, dRet0, dDrop, dIfS, dNext, dApp, dInsert, q_setI, q_setQ, q_take, dFor, dFreeze, dNever, q_par, q_parQ, q_par3, q_parQ3, dParNE, dParDE, gdName, q_gnil, q_gcons, q_gtup, dVar, dOwn, dC, d1, d2, n2, nCons, nNil, nLst, dTup, dFr, dTest, dAnd, dOr, dNot, dAndV, dOrV, dNotV, dIf, dChain, dCB, nCB, dCall, nCall, aDat, aBag, aNil, q_neg, q_add, q_addl, q_addt, q_sub, q_mul, q_mull, q_mult, q_fdiv, q_mod, q_pow, q_lt, q_le, q_gt, q_ge, eqD, neD, isD, isntD, q_isnn, q_isni, q_isnb, q_isnt, q_isnl, q_lenl, q_lent, q_inti, q_intb, q_max2, q_min2, q_listl, q_listt, q_tuplel, q_tuplet, q_sum, q_min, q_max, allD, itSeq, itR1, q_itR2, q_rng2, q_en, q_en1, q_zip, q_zipQ, q_seqr, q_lenr, q_ixr, q_seql, q_seqt, q_rvd, q_rvn, q_catn, q_ixl, q_ixt, q_sl, q_sll, q_slt, q_slr, nSlL, oNone, oSome, nLc, wipeD, q_dropc, q_dropxd, q_dropxb, q_dropxo, q_dropxn, q_drope, dYes, dCnt, q_revl, q_revt, q_revr, nListRg, dTupRg, exInts, exOpt, q_addr1, q_addrr, q_ixk0, q_ixk1, exRow, exTk, cntL, cntQ_some, cntQ_none, List.getElem?_cons_zero, List.getElem?_cons_succ, List.getElem?_nil, Option.some.injEq, SV.dat.injEq, SV.own.injEq, PyData.int.injEq, PyData.bool.injEq, PyData.tuple.injEq, PyData.list.injEq, PyData.str.injEq, RVd.new.injEq, RVd.dat.injEq, exists_eq_left, exists_eq_left', exists_eq_right, List.cons.injEq, List.set_cons_zero, List.set_cons_succ, reduceCtorEq, and_true, true_and, false_and, and_false, not_true_eq_false, not_false_eq_true, if_true, if_false, ite_true, ite_false, decide_eq_true_eq, Bool.not_eq_true', decide_eq_false_iff_not, Bool.and_true, Bool.true_and, Bool.and_false, Bool.false_and, Bool.not_true, Bool.not_false, Bool.false_eq_true, List.map_cons, List.map_nil, List.length_cons, List.length_nil, Nat.zero_add, Nat.reduceAdd, Nat.reduceLeDiff, startd, List.replicate_succ, List.replicate_zero, List.nil_append, List.cons_append, Nat.reduceSub, exists_const, and_self, shp_int, shp_none, shp_bool, eqv_int, dForL_nil, lcL_nil]
    exact qq
  dsimp only
  refine st_asg1 (.int 1) (fun Q qq => qq) ?_
  refine st_for (rs.map tkD) (fun Q qq => ?_) (whole14 rs 1 _ _ ok.2 (by decide) ?_ fun x10 x11 => ?_)
  · simp only [rowD, List.length_map, dSeq, dAsgG, dAsgN, dRet, dRetN, dRetO, dRet0, dDrop, dIfS, dNext, dApp, dInsert, q_setI, q_setQ, q_take, dFor, dFreeze, dNever, q_par, q_parQ, q_par3, q_parQ3, dParNE, dParDE, gdName, q_gnil, q_gcons, q_gtup, dVar, dOwn, dC, d1, d2, n2, nCons, nNil, nLst, dTup, dFr, dTest, dAnd, dOr, dNot, dAndV, dOrV, dNotV, dIf, dChain, dCB, nCB, dCall, nCall, aDat, aBag, aNil, q_neg, q_add, q_addl, q_addt, q_sub, q_mul, q_mull, q_mult, q_fdiv, q_mod, q_pow, q_lt, q_le, q_gt, q_ge, eqD, neD, isD, isntD, q_isnn, q_isni, q_isnb, q_isnt, q_isnl, q_lenl, q_lent, q_inti, q_intb, q_max2, q_min2, q_listl, q_listt, q_tuplel, q_tuplet, q_sum, q_min, q_max, allD, itSeq, itR1, q_itR2, q_rng2, q_en, q_en1, q_zip, q_zipQ, q_seqr, q_lenr, q_ixr, q_seql, q_seqt, q_rvd, q_rvn, q_catn, q_ixl, q_ixt, q_sl, q_sll, q_slt, q_slr, nSlL, oNone, oSome, nLc, wipeD, q_dropc, q_dropxd, q_dropxb, q_dropxo, q_dropxn, q_drope, dYes, dCnt, q_revl, q_revt, q_revr, nListRg, dTupRg, exInts, exOpt, q_addr1, q_addrr, q_ixk0, q_ixk1, exRow, exTk, cntL, cntQ_some, cntQ_none, List.getElem?_cons_zero, List.getElem?_cons_succ, List.getElem?_nil, Option.some.injEq, SV.dat.injEq, SV.own.injEq, PyData.int.injEq, PyData.bool.injEq, PyData.tuple.injEq, PyData.list.injEq, PyData.str.injEq, RVd.new.injEq, RVd.dat.injEq, exists_eq_left, exists_eq_left', exists_eq_right, List.cons.injEq, List.set_cons_zero, List.set_cons_succ, reduceCtorEq, and_true, true_and, false_and, and_false, not_true_eq_false, not_false_eq_true, if_true, if_false, ite_true, ite_false, decide_eq_true_eq, Bool.not_eq_true', decide_eq_false_iff_not, Bool.and_true, Bool.true_and, Bool.and_false, Bool.false_and, Bool.not_true, Bool.not_false, Bool.false_eq_true, List.map_cons, List.map_nil, List.length_cons, List.length_nil, Nat.zero_add, Nat.reduceAdd, Nat.reduceLeDiff, startd, List.replicate_succ, List.replicate_zero, List.nil_append, List.cons_append, Nat.reduceSub, exists_const, and_self, shp_int, shp_none, shp_bool, eqv_int, dForL_nil, lcL_nil]
    exact qq
  · have h : (1000 : Nat) ^ rs.length ≤ 1000 ^ 5 := Nat.pow_le_pow_right (by decide) h5
    have := Int.ofNat_le.mpr h
    rw [Int.natCast_pow] at this
    have e5 : (((1000 : Nat) ^ 5 : Nat) : Int) = 1000000000000000 := by decide
    rw [e5] at this
    show 1 * (1000 : Int) ^ rs.length ≤ _
    have e1 : (((1000 : Nat) : Int)) = 1000 := rfl
    rw [e1] at this
    omega
  dsimp only
  rw [Int.one_mul]
  have pp := prod_pos rs ok.2
  have ple : prodE rs ≤ 1000000000000000 := by
    have a := prod_le rs ok.2
    have h : (1000 : Nat) ^ rs.length ≤ 1000 ^ 5 := Nat.pow_le_pow_right (by decide) h5
    have := Int.ofNat_le.mpr h
    rw [Int.natCast_pow] at this
    have e5 : (((1000 : Nat) ^ 5 : Nat) : Int) = 1000000000000000 := by decide
    rw [e5] at this
    have e1 : (((1000 : Nat) : Int)) = 1000 := rfl
    rw [e1] at this
    omega
  have op := (ords_b h5).2
  obtain ⟨m, hm⟩ : ∃ m, m = ((ordersG rs.length).take 24).length := ⟨_, rfl⟩
  have m1 : 1 ≤ m := by
    rw [hm, List.length_take]
    omega
  refine st_asg1 (.list (List.replicate m (.int (prodM rs)))) (fun Q qq => ?_) ?_
  · have c24 : cutD ((ordersG rs.length).map ordD) none (some 24) = ((ordersG rs.length).take 24).map ordD := by
      rw [List.map_take]
      exact cut_to _ 24
    have lt24 : ((ordersG rs.length).take 24).length ≤ 1000000 := by
      rw [List.length_take]
      omega
    simp only [q_lorders, q_lenr, show (0 : Int) ≤ ((rs.length : Nat) : Int) by omega, show ((rs.length : Nat) : Int) ≤ 6 by omega, Int.toNat_natCast, c24, List.length_map, lt24, dSeq, dAsgG, dAsgN, dRet, dRetN, dRetO, dRet0, dDrop, dIfS, dNext, dApp, dInsert, q_setI, q_setQ, q_take, dFor, dFreeze, dNever, q_par, q_parQ, q_par3, q_parQ3, dParNE, dParDE, gdName, q_gnil, q_gcons, q_gtup, dVar, dOwn, dC, d1, d2, n2, nCons, nNil, nLst, dTup, dFr, dTest, dAnd, dOr, dNot, dAndV, dOrV, dNotV, dIf, dChain, dCB, nCB, dCall, nCall, aDat, aBag, aNil, q_neg, q_add, q_addl, q_addt, q_sub, q_mul, q_mull, q_mult, q_fdiv, q_mod, q_pow, q_lt, q_le, q_gt, q_ge, eqD, neD, isD, isntD, q_isnn, q_isni, q_isnb, q_isnt, q_isnl, q_lenl, q_lent, q_inti, q_intb, q_max2, q_min2, q_listl, q_listt, q_tuplel, q_tuplet, q_sum, q_min, q_max, allD, itSeq, itR1, q_itR2, q_rng2, q_en, q_en1, q_zip, q_zipQ, q_seqr, q_lenr, q_ixr, q_seql, q_seqt, q_rvd, q_rvn, q_catn, q_ixl, q_ixt, q_sl, q_sll, q_slt, q_slr, nSlL, oNone, oSome, nLc, wipeD, q_dropc, q_dropxd, q_dropxb, q_dropxo, q_dropxn, q_drope, dYes, dCnt, q_revl, q_revt, q_revr, nListRg, dTupRg, exInts, exOpt, q_addr1, q_addrr, q_ixk0, q_ixk1, exRow, exTk, cntL, cntQ_some, cntQ_none, List.getElem?_cons_zero, List.getElem?_cons_succ, List.getElem?_nil, Option.some.injEq, SV.dat.injEq, SV.own.injEq, PyData.int.injEq, PyData.bool.injEq, PyData.tuple.injEq, PyData.list.injEq, PyData.str.injEq, RVd.new.injEq, RVd.dat.injEq, exists_eq_left, exists_eq_left', exists_eq_right, List.cons.injEq, List.set_cons_zero, List.set_cons_succ, reduceCtorEq, and_true, true_and, false_and, and_false, not_true_eq_false, not_false_eq_true, if_true, if_false, ite_true, ite_false, decide_eq_true_eq, Bool.not_eq_true', decide_eq_false_iff_not, Bool.and_true, Bool.true_and, Bool.and_false, Bool.false_and, Bool.not_true, Bool.not_false, Bool.false_eq_true, List.map_cons, List.map_nil, List.length_cons, List.length_nil, Nat.zero_add, Nat.reduceAdd, Nat.reduceLeDiff, startd, List.replicate_succ, List.replicate_zero, List.nil_append, List.cons_append, Nat.reduceSub, exists_const, and_self, shp_int, shp_none, shp_bool, eqv_int, dForL_nil, lcL_nil]
    refine lcL_all (d0 := .int (prodM rs)) _ _ (fun o ho Q2 q2 => ?_) (by rw [← hm]; exact qq)
    have ho := List.mem_of_mem_take ho
    obtain ⟨o1, o2⟩ := orders_in ho
    have pk := O.pk ho
    have rp := prod_perm (row_perm h5 ho)
    obtain ⟨ys, w, e1, _, _, e4⟩ := counts_split (permG rs o) (prodE rs)
    have ew : w = prodM rs := by
      rw [e4, ← rp.1, ← Int.one_mul (prodE (permG rs o)), left_prod _ _ pk.2, Int.one_mul, rp.2]
    simp only [dSeq, dAsgG, dAsgN, dRet, dRetN, dRetO, dRet0, dDrop, dIfS, dNext, dApp, dInsert, q_setI, q_setQ, q_take, dFor, dFreeze, dNever, q_par, q_parQ, q_par3, q_parQ3, dParNE, dParDE, gdName, q_gnil, q_gcons, q_gtup, dVar, dOwn, dC, d1, d2, n2, nCons, nNil, nLst, dTup, dFr, dTest, dAnd, dOr, dNot, dAndV, dOrV, dNotV, dIf, dChain, dCB, nCB, dCall, nCall, aDat, aBag, aNil, q_neg, q_add, q_addl, q_addt, q_sub, q_mul, q_mull, q_mult, q_fdiv, q_mod, q_pow, q_lt, q_le, q_gt, q_ge, eqD, neD, isD, isntD, q_isnn, q_isni, q_isnb, q_isnt, q_isnl, q_lenl, q_lent, q_inti, q_intb, q_max2, q_min2, q_listl, q_listt, q_tuplel, q_tuplet, q_sum, q_min, q_max, allD, itSeq, itR1, q_itR2, q_rng2, q_en, q_en1, q_zip, q_zipQ, q_seqr, q_lenr, q_ixr, q_seql, q_seqt, q_rvd, q_rvn, q_catn, q_ixl, q_ixt, q_sl, q_sll, q_slt, q_slr, nSlL, oNone, oSome, nLc, wipeD, q_dropc, q_dropxd, q_dropxb, q_dropxo, q_dropxn, q_drope, dYes, dCnt, q_revl, q_revt, q_revr, nListRg, dTupRg, exInts, exOpt, q_addr1, q_addrr, q_ixk0, q_ixk1, exRow, exTk, cntL, cntQ_some, cntQ_none, List.getElem?_cons_zero, List.getElem?_cons_succ, List.getElem?_nil, Option.some.injEq, SV.dat.injEq, SV.own.injEq, PyData.int.injEq, PyData.bool.injEq, PyData.tuple.injEq, PyData.list.injEq, PyData.str.injEq, RVd.new.injEq, RVd.dat.injEq, exists_eq_left, exists_eq_left', exists_eq_right, List.cons.injEq, List.set_cons_zero, List.set_cons_succ, reduceCtorEq, and_true, true_and, false_and, and_false, not_true_eq_false, not_false_eq_true, if_true, if_false, ite_true, ite_false, decide_eq_true_eq, Bool.not_eq_true', decide_eq_false_iff_not, Bool.and_true, Bool.true_and, Bool.and_false, Bool.false_and, Bool.not_true, Bool.not_false, Bool.false_eq_true, List.map_cons, List.map_nil, List.length_cons, List.length_nil, Nat.zero_add, Nat.reduceAdd, Nat.reduceLeDiff, startd, List.replicate_succ, List.replicate_zero, List.nil_append, List.cons_append, Nat.reduceSub, exists_const, and_self, shp_int, shp_none, shp_bool, eqv_int, dForL_nil, lcL_nil]
    refine ⟨rs, o, rfl, o1, by omega, _, rfl, pk, by omega, by omega, ?_⟩
    refine ⟨.int w, ?_, ?_⟩
    · rw [e1, List.map_append]
      exact at_last _ _
    · rw [ew]
      exact q2
  have r0 : atI (List.replicate m (PyData.int (prodM rs))) 0 = some (.int (prodM rs)) := by
    obtain ⟨k, rfl⟩ : ∃ k, m = k + 1 := ⟨m - 1, by omega⟩
    exact atI_nat (j := 0) rfl
  have m24 : m ≤ 1000000 := by
    rw [hm, List.length_take]
    omega
  refine st_ifE (fun Q qq => ?_) rfl
  simp only [List.length_replicate, m24, dSeq, dAsgG, dAsgN, dRet, dRetN, dRetO, dRet0, dDrop, dIfS, dNext, dApp, dInsert, q_setI, q_setQ, q_take, dFor, dFreeze, dNever, q_par, q_parQ, q_par3, q_parQ3, dParNE, dParDE, gdName, q_gnil, q_gcons, q_gtup, dVar, dOwn, dC, d1, d2, n2, nCons, nNil, nLst, dTup, dFr, dTest, dAnd, dOr, dNot, dAndV, dOrV, dNotV, dIf, dChain, dCB, nCB, dCall, nCall, aDat, aBag, aNil, q_neg, q_add, q_addl, q_addt, q_sub, q_mul, q_mull, q_mult, q_fdiv, q_mod, q_pow, q_lt, q_le, q_gt, q_ge, eqD, neD, isD, isntD, q_isnn, q_isni, q_isnb, q_isnt, q_isnl, q_lenl, q_lent, q_inti, q_intb, q_max2, q_min2, q_listl, q_listt, q_tuplel, q_tuplet, q_sum, q_min, q_max, allD, itSeq, itR1, q_itR2, q_rng2, q_en, q_en1, q_zip, q_zipQ, q_seqr, q_lenr, q_ixr, q_seql, q_seqt, q_rvd, q_rvn, q_catn, q_ixl, q_ixt, q_sl, q_sll, q_slt, q_slr, nSlL, oNone, oSome, nLc, wipeD, q_dropc, q_dropxd, q_dropxb, q_dropxo, q_dropxn, q_drope, dYes, dCnt, q_revl, q_revt, q_revr, nListRg, dTupRg, exInts, exOpt, q_addr1, q_addrr, q_ixk0, q_ixk1, exRow, exTk, cntL, cntQ_some, cntQ_none, List.getElem?_cons_zero, List.getElem?_cons_succ, List.getElem?_nil, Option.some.injEq, SV.dat.injEq, SV.own.injEq, PyData.int.injEq, PyData.bool.injEq, PyData.tuple.injEq, PyData.list.injEq, PyData.str.injEq, RVd.new.injEq, RVd.dat.injEq, exists_eq_left, exists_eq_left', exists_eq_right, List.cons.injEq, List.set_cons_zero, List.set_cons_succ, reduceCtorEq, and_true, true_and, false_and, and_false, not_true_eq_false, not_false_eq_true, if_true, if_false, ite_true, ite_false, decide_eq_true_eq, Bool.not_eq_true', decide_eq_false_iff_not, Bool.and_true, Bool.true_and, Bool.and_false, Bool.false_and, Bool.not_true, Bool.not_false, Bool.false_eq_true, List.map_cons, List.map_nil, List.length_cons, List.length_nil, Nat.zero_add, Nat.reduceAdd, Nat.reduceLeDiff, startd, List.replicate_succ, List.replicate_zero, List.nil_append, List.cons_append, Nat.reduceSub, exists_const, and_self, shp_int, shp_none, shp_bool, eqv_int, dForL_nil, lcL_nil]
  refine lc_same r0 m _ ?_
  have e0 : PyData.eqv (.list []) (.list []) = true := by decide +kernel
  have s0 : SeqAt.shaped (.list []) = true := by decide +kernel
  have rd : prodE rs % roundG rs = 0 := by
    have := per_prod rs 1 ok.2
    rw [Int.one_mul] at this
    exact Int.emod_eq_zero_of_dvd ((round_iff ok.2 (by omega)).mp this)
  simp only [e0, s0, sp_round_of, dSeq, dAsgG, dAsgN, dRet, dRetN, dRetO, dRet0, dDrop, dIfS, dNext, dApp, dInsert, q_setI, q_setQ, q_take, dFor, dFreeze, dNever, q_par, q_parQ, q_par3, q_parQ3, dParNE, dParDE, gdName, q_gnil, q_gcons, q_gtup, dVar, dOwn, dC, d1, d2, n2, nCons, nNil, nLst, dTup, dFr, dTest, dAnd, dOr, dNot, dAndV, dOrV, dNotV, dIf, dChain, dCB, nCB, dCall, nCall, aDat, aBag, aNil, q_neg, q_add, q_addl, q_addt, q_sub, q_mul, q_mull, q_mult, q_fdiv, q_mod, q_pow, q_lt, q_le, q_gt, q_ge, eqD, neD, isD, isntD, q_isnn, q_isni, q_isnb, q_isnt, q_isnl, q_lenl, q_lent, q_inti, q_intb, q_max2, q_min2, q_listl, q_listt, q_tuplel, q_tuplet, q_sum, q_min, q_max, allD, itSeq, itR1, q_itR2, q_rng2, q_en, q_en1, q_zip, q_zipQ, q_seqr, q_lenr, q_ixr, q_seql, q_seqt, q_rvd, q_rvn, q_catn, q_ixl, q_ixt, q_sl, q_sll, q_slt, q_slr, nSlL, oNone, oSome, nLc, wipeD, q_dropc, q_dropxd, q_dropxb, q_dropxo, q_dropxn, q_drope, dYes, dCnt, q_revl, q_revt, q_revr, nListRg, dTupRg, exInts, exOpt, q_addr1, q_addrr, q_ixk0, q_ixk1, exRow, exTk, cntL, cntQ_some, cntQ_none, List.getElem?_cons_zero, List.getElem?_cons_succ, List.getElem?_nil, Option.some.injEq, SV.dat.injEq, SV.own.injEq, PyData.int.injEq, PyData.bool.injEq, PyData.tuple.injEq, PyData.list.injEq, PyData.str.injEq, RVd.new.injEq, RVd.dat.injEq, exists_eq_left, exists_eq_left', exists_eq_right, List.cons.injEq, List.set_cons_zero, List.set_cons_succ, reduceCtorEq, and_true, true_and, false_and, and_false, not_true_eq_false, not_false_eq_true, if_true, if_false, ite_true, ite_false, decide_eq_true_eq, Bool.not_eq_true', decide_eq_false_iff_not, Bool.and_true, Bool.true_and, Bool.and_false, Bool.false_and, Bool.not_true, Bool.not_false, Bool.false_eq_true, List.map_cons, List.map_nil, List.length_cons, List.length_nil, Nat.zero_add, Nat.reduceAdd, Nat.reduceLeDiff, startd, List.replicate_succ, List.replicate_zero, List.nil_append, List.cons_append, Nat.reduceSub, exists_const, and_self, shp_int, shp_none, shp_bool, eqv_int, dForL_nil, lcL_nil]
  refine ⟨ok, round_pos ok.2, ?_⟩
  rw [rd]
  exact qq
end Pd

namespace Lw
open PySem L2 Pd
open PyProof.Rows (envOfC)
def top (i : Nat) : Stmt := PySem.Challenge.pw_takenth_k14_whole_orders_and_what_is_lef.main.body.getD i (.Pass ⟨0, 0, 0, 0⟩)
abbrev s_is_within : Stmt := top 8
abbrev n_is_within : List Str := ["thing", "low", "high"]
theorem sc_is_within : FnScope n_is_within ["thing", "low", "high"] (defScope s_is_within) := ⟨rfl, rfl, rfl, by decide +kernel, rfl, by decide +kernel, by decide +kernel⟩
abbrev s_is_taker : Stmt := top 9
abbrev n_is_taker : List Str := ["thing"]
theorem sc_is_taker : FnScope n_is_taker ["thing"] (defScope s_is_taker) := ⟨rfl, rfl, rfl, by decide +kernel, rfl, by decide +kernel, by decide +kernel⟩
abbrev s_is_row : Stmt := top 10
abbrev n_is_row : List Str := ["thing", "one"]
theorem sc_is_row : FnScope n_is_row ["thing"] (defScope s_is_row) := ⟨rfl, rfl, rfl, by decide +kernel, rfl, by decide +kernel, by decide +kernel⟩
abbrev s_need_row : Stmt := top 11
abbrev n_need_row : List Str := ["row"]
theorem sc_need_row : FnScope n_need_row ["row"] (defScope s_need_row) := ⟨rfl, rfl, rfl, by decide +kernel, rfl, by decide +kernel, by decide +kernel⟩
abbrev s_need_number : Stmt := top 12
abbrev n_need_number : List Str := ["number", "low", "high"]
theorem sc_need_number : FnScope n_need_number ["number", "low", "high"] (defScope s_need_number) := ⟨rfl, rfl, rfl, by decide +kernel, rfl, by decide +kernel, by decide +kernel⟩
abbrev s_counts : Stmt := top 13
abbrev n_counts : List Str := ["row", "number", "found", "every", "counted", "some"]
theorem sc_counts : FnScope n_counts ["row", "number"] (defScope s_counts) := ⟨rfl, rfl, rfl, by decide +kernel, rfl, by decide +kernel, by decide +kernel⟩
abbrev s_taken : Stmt := top 14
abbrev n_taken : List Str := ["row", "number"]
theorem sc_taken : FnScope n_taken ["row", "number"] (defScope s_taken) := ⟨rfl, rfl, rfl, by decide +kernel, rfl, by decide +kernel, by decide +kernel⟩
abbrev s_all_orders : Stmt := top 17
abbrev n_all_orders : List Str := ["many", "found", "turn", "longer", "order", "place"]
theorem sc_all_orders : FnScope n_all_orders ["many"] (defScope s_all_orders) := ⟨rfl, rfl, rfl, by decide +kernel, rfl, by decide +kernel, by decide +kernel⟩
abbrev s_orders_for : Stmt := top 18
abbrev n_orders_for : List Str := ["row", "number", "told", "found", "order", "some", "one", "place", "at"]
theorem sc_orders_for : FnScope n_orders_for ["row", "number", "told"] (defScope s_orders_for) := ⟨rfl, rfl, rfl, by decide +kernel, rfl, by decide +kernel, by decide +kernel⟩
abbrev s_common : Stmt := top 20
abbrev n_common : List Str := ["one", "other"]
theorem sc_common : FnScope n_common ["one", "other"] (defScope s_common) := ⟨rfl, rfl, rfl, by decide +kernel, rfl, by decide +kernel, by decide +kernel⟩
abbrev s_round_of : Stmt := top 21
abbrev n_round_of : List Str := ["row", "pieces", "come", "every", "counted", "times"]
theorem sc_round_of : FnScope n_round_of ["row"] (defScope s_round_of) := ⟨rfl, rfl, rfl, by decide +kernel, rfl, by decide +kernel, by decide +kernel⟩
abbrev s_law_cell_at : Stmt := top 23
abbrev n_law_cell_at : List Str := ["script", "k"]
theorem sc_law_cell_at : FnScope n_law_cell_at ["script", "k"] (defScope s_law_cell_at) := ⟨rfl, rfl, rfl, by decide +kernel, rfl, by decide +kernel, by decide +kernel⟩
abbrev s_law_draws : Stmt := top 24
abbrev n_law_draws : List Str := ["cell", "many", "size", "found", "rest", "stirred", "k"]
theorem sc_law_draws : FnScope n_law_draws ["cell", "many", "size"] (defScope s_law_draws) := ⟨rfl, rfl, rfl, by decide +kernel, rfl, by decide +kernel, by decide +kernel⟩
abbrev s_law_bag : Stmt := top 25
abbrev n_law_bag : List Str := ["script", "k"]
theorem sc_law_bag : FnScope n_law_bag ["script", "k"] (defScope s_law_bag) := ⟨rfl, rfl, rfl, by decide +kernel, rfl, by decide +kernel, by decide +kernel⟩
abbrev s_law_bags : Stmt := top 26
abbrev n_law_bags : List Str := ["script", "limit", "k"]
theorem sc_law_bags : FnScope n_law_bags ["script", "limit"] (defScope s_law_bags) := ⟨rfl, rfl, rfl, by decide +kernel, rfl, by decide +kernel, by decide +kernel⟩
abbrev s_law_take : Stmt := top 27
abbrev n_law_take : List Str := ["bag", "many"]
theorem sc_law_take : FnScope n_law_take ["bag", "many"] (defScope s_law_take) := ⟨rfl, rfl, rfl, by decide +kernel, rfl, by decide +kernel, by decide +kernel⟩
abbrev s_law_far_draw : Stmt := top 28
abbrev n_law_far_draw : List Str := ["bag", "many", "found", "much"]
theorem sc_law_far_draw : FnScope n_law_far_draw ["bag", "many"] (defScope s_law_far_draw) := ⟨rfl, rfl, rfl, by decide +kernel, rfl, by decide +kernel, by decide +kernel⟩
abbrev s_law_mixed : Stmt := top 29
abbrev n_law_mixed : List Str := ["bag", "many", "found", "one"]
theorem sc_law_mixed : FnScope n_law_mixed ["bag", "many"] (defScope s_law_mixed) := ⟨rfl, rfl, rfl, by decide +kernel, rfl, by decide +kernel, by decide +kernel⟩
abbrev s_law_taker : Stmt := top 30
abbrev n_law_taker : List Str := ["bag", "far", "every"]
theorem sc_law_taker : FnScope n_law_taker ["bag", "far"] (defScope s_law_taker) := ⟨rfl, rfl, rfl, by decide +kernel, rfl, by decide +kernel, by decide +kernel⟩
abbrev s_law_drawn_row : Stmt := top 31
abbrev n_law_drawn_row : List Str := ["bag", "takers", "far", "turn"]
theorem sc_law_drawn_row : FnScope n_law_drawn_row ["bag", "takers", "far"] (defScope s_law_drawn_row) := ⟨rfl, rfl, rfl, by decide +kernel, rfl, by decide +kernel, by decide +kernel⟩
abbrev s_law_all_orders : Stmt := top 32
abbrev n_law_all_orders : List Str := ["many", "found", "turn", "longer", "order", "place"]
theorem sc_law_all_orders : FnScope n_law_all_orders ["many"] (defScope s_law_all_orders) := ⟨rfl, rfl, rfl, by decide +kernel, rfl, by decide +kernel, by decide +kernel⟩
abbrev s_law_stood : Stmt := top 33
abbrev n_law_stood : List Str := ["house", "order", "place"]
theorem sc_law_stood : FnScope n_law_stood ["house", "order"] (defScope s_law_stood) := ⟨rfl, rfl, rfl, by decide +kernel, rfl, by decide +kernel, by decide +kernel⟩
abbrev s_law : Stmt := top 34
abbrev n_law : List Str := ["script", "bag", "house", "number", "own", "told", "turn", "order", "some", "whole", "every", "counted", "left", "place", "one"]
theorem sc_law : FnScope n_law ["script"] (defScope s_law) := ⟨rfl, rfl, rfl, by decide +kernel, rfl, by decide +kernel, by decide +kernel⟩
structure Ad where
  is_within : Addr
  is_taker : Addr
  is_row : Addr
  need_row : Addr
  need_number : Addr
  counts : Addr
  taken : Addr
  all_orders : Addr
  orders_for : Addr
  common : Addr
  round_of : Addr
  law_cell_at : Addr
  law_draws : Addr
  law_bag : Addr
  law_bags : Addr
  law_take : Addr
  law_far_draw : Addr
  law_mixed : Addr
  law_taker : Addr
  law_drawn_row : Addr
  law_all_orders : Addr
  law_stood : Addr
  law : Addr
  t_FAR : Tok
  t_MOST : Tok
structure Fd where
  is_within : FuncData
  is_taker : FuncData
  is_row : FuncData
  need_row : FuncData
  need_number : FuncData
  counts : FuncData
  taken : FuncData
  all_orders : FuncData
  orders_for : FuncData
  common : FuncData
  round_of : FuncData
  law_cell_at : FuncData
  law_draws : FuncData
  law_bag : FuncData
  law_bags : FuncData
  law_take : FuncData
  law_far_draw : FuncData
  law_mixed : FuncData
  law_taker : FuncData
  law_drawn_row : FuncData
  law_all_orders : FuncData
  law_stood : FuncData
  law : FuncData
structure Txt (K : PySem.W.Frag) (mg : Str → Option Value) (a : Ad) (fd : Fd) : Prop where
  F_is_within : Fun K "is_within" "is_within" s_is_within a.is_within fd.is_within
  g_is_within : mg "is_within" = some (.ref a.is_within)
  b_is_within : Binds K fd.is_within ["thing", "low", "high"] []
  F_is_taker : Fun K "is_taker" "is_taker" s_is_taker a.is_taker fd.is_taker
  g_is_taker : mg "is_taker" = some (.ref a.is_taker)
  b_is_taker : Binds K fd.is_taker ["thing"] []
  F_is_row : Fun K "is_row" "is_row" s_is_row a.is_row fd.is_row
  g_is_row : mg "is_row" = some (.ref a.is_row)
  b_is_row : Binds K fd.is_row ["thing"] []
  F_need_row : Fun K "need_row" "need_row" s_need_row a.need_row fd.need_row
  g_need_row : mg "need_row" = some (.ref a.need_row)
  b_need_row : Binds K fd.need_row ["row"] []
  F_need_number : Fun K "need_number" "need_number" s_need_number a.need_number fd.need_number
  g_need_number : mg "need_number" = some (.ref a.need_number)
  b_need_number : Binds K fd.need_number ["number", "low", "high"] []
  F_counts : Fun K "counts" "counts" s_counts a.counts fd.counts
  g_counts : mg "counts" = some (.ref a.counts)
  b_counts : Binds K fd.counts ["row", "number"] []
  F_taken : Fun K "taken" "taken" s_taken a.taken fd.taken
  g_taken : mg "taken" = some (.ref a.taken)
  b_taken : Binds K fd.taken ["row", "number"] []
  F_all_orders : Fun K "all_orders" "all_orders" s_all_orders a.all_orders fd.all_orders
  g_all_orders : mg "all_orders" = some (.ref a.all_orders)
  b_all_orders : Binds K fd.all_orders ["many"] []
  F_orders_for : Fun K "orders_for" "orders_for" s_orders_for a.orders_for fd.orders_for
  g_orders_for : mg "orders_for" = some (.ref a.orders_for)
  b_orders_for : Binds K fd.orders_for ["row", "number", "told"] []
  F_common : Fun K "common" "common" s_common a.common fd.common
  g_common : mg "common" = some (.ref a.common)
  b_common : Binds K fd.common ["one", "other"] []
  F_round_of : Fun K "round_of" "round_of" s_round_of a.round_of fd.round_of
  g_round_of : mg "round_of" = some (.ref a.round_of)
  b_round_of : Binds K fd.round_of ["row"] []
  F_law_cell_at : Fun K "_law_cell_at" "_law_cell_at" s_law_cell_at a.law_cell_at fd.law_cell_at
  g_law_cell_at : mg "_law_cell_at" = some (.ref a.law_cell_at)
  b_law_cell_at : Binds K fd.law_cell_at ["script", "k"] []
  F_law_draws : Fun K "_law_draws" "_law_draws" s_law_draws a.law_draws fd.law_draws
  g_law_draws : mg "_law_draws" = some (.ref a.law_draws)
  b_law_draws : Binds K fd.law_draws ["cell", "many", "size"] []
  F_law_bag : Fun K "_law_bag" "_law_bag" s_law_bag a.law_bag fd.law_bag
  g_law_bag : mg "_law_bag" = some (.ref a.law_bag)
  b_law_bag : Binds K fd.law_bag ["script", "k"] []
  F_law_bags : Fun K "_law_bags" "_law_bags" s_law_bags a.law_bags fd.law_bags
  g_law_bags : mg "_law_bags" = some (.ref a.law_bags)
  b_law_bags : Binds K fd.law_bags ["script", "limit"] []
  F_law_take : Fun K "_law_take" "_law_take" s_law_take a.law_take fd.law_take
  g_law_take : mg "_law_take" = some (.ref a.law_take)
  b_law_take : Binds K fd.law_take ["bag", "many"] []
  F_law_far_draw : Fun K "_law_far_draw" "_law_far_draw" s_law_far_draw a.law_far_draw fd.law_far_draw
  g_law_far_draw : mg "_law_far_draw" = some (.ref a.law_far_draw)
  b_law_far_draw : Binds K fd.law_far_draw ["bag", "many"] []
  F_law_mixed : Fun K "_law_mixed" "_law_mixed" s_law_mixed a.law_mixed fd.law_mixed
  g_law_mixed : mg "_law_mixed" = some (.ref a.law_mixed)
  b_law_mixed : Binds K fd.law_mixed ["bag", "many"] []
  F_law_taker : Fun K "_law_taker" "_law_taker" s_law_taker a.law_taker fd.law_taker
  g_law_taker : mg "_law_taker" = some (.ref a.law_taker)
  b_law_taker : Binds K fd.law_taker ["bag", "far"] []
  F_law_drawn_row : Fun K "_law_drawn_row" "_law_drawn_row" s_law_drawn_row a.law_drawn_row fd.law_drawn_row
  g_law_drawn_row : mg "_law_drawn_row" = some (.ref a.law_drawn_row)
  b_law_drawn_row : Binds K fd.law_drawn_row ["bag", "takers", "far"] []
  F_law_all_orders : Fun K "_law_all_orders" "_law_all_orders" s_law_all_orders a.law_all_orders fd.law_all_orders
  g_law_all_orders : mg "_law_all_orders" = some (.ref a.law_all_orders)
  b_law_all_orders : Binds K fd.law_all_orders ["many"] []
  F_law_stood : Fun K "_law_stood" "_law_stood" s_law_stood a.law_stood fd.law_stood
  g_law_stood : mg "_law_stood" = some (.ref a.law_stood)
  b_law_stood : Binds K fd.law_stood ["house", "order"] []
  F_law : Fun K "law" "law" s_law a.law fd.law
  g_law : mg "law" = some (.ref a.law)
  b_law : Binds K fd.law ["script"] []
  n_all : mg "all" = none
  n_bool : mg "bool" = none
  n_enumerate : mg "enumerate" = none
  n_int : mg "int" = none
  n_isinstance : mg "isinstance" = none
  n_len : mg "len" = none
  n_list : mg "list" = none
  n_max : mg "max" = none
  n_min : mg "min" = none
  n_range : mg "range" = none
  n_set : mg "set" = none
  n_sorted : mg "sorted" = none
  n_tuple : mg "tuple" = none
  c_FAR : mg "FAR" = some (.int 1000000000000000000 a.t_FAR)
  c_MOST : mg "MOST" = some (.int 6 a.t_MOST)
section
variable {P : Program} {w : World} {K : PySem.W.Frag} {mg : Str → Option Value} {base : Heap} {a : Ad} {fd : Fd}
theorem ok_is_within (T : Txt K mg a fd) : FnOk P w K mg base CX0 1 a.is_within fd.is_within ["thing", "low", "high"] (lift sp_is_within) :=
  fun_d (t := b_is_within) (k := 0) T.F_is_within sc_is_within len_is_within (fun cdv A outer s H E hr => ⟨_, (pssd_one (qs_ret (ped_and (ped_isi (by rfl) T.n_isinstance (by rfl) T.n_int (by decide +kernel) (PEd.r (ped_var 0 (pv 0)))) (ped_and (ped_not (ped_isi (by rfl) T.n_isinstance (by rfl) T.n_bool (by decide +kernel) (PEd.r (ped_var 0 (pv 0))))) (ped_one (ped_chain op_le od_le op_le od_le (PEd.r (ped_var 1 (pv 1))) (PEd.r (ped_var 0 (pv 0))) (PEd.r (ped_var 2 (pv 2)))))))))⟩) rd_is_within
theorem ok_is_taker (T : Txt K mg a fd) : FnOk P w K mg base CX0 2 a.is_taker fd.is_taker ["thing"] (lift sp_is_taker) :=
  fun_d (t := b_is_taker) (k := 1) T.F_is_taker sc_is_taker len_is_taker (fun cdv A outer s H E hr => ⟨_, (pssd_cons (qs_if (ptd_w (pwd_or (ptd_not (ptd_val (ped_isi (by rfl) T.n_isinstance (by rfl) T.n_tuple (by decide +kernel) (PEd.r (ped_var 0 (pv 0)))))) (pwd_or (ptd_cmp (op_neD hr.units) od_ne (PEd.r (ped_callB call_len_seq cd_len (by rfl) T.n_len PySem.boot_len (par_cons (PEd.r (ped_var 0 (pv 0))) par_nil))) (PEd.r ped_int)) (pwd_or1 (ptd_not (ptd_val (ped_call (ok_is_within T) (hr.mono (by decide)) (by rfl) T.g_is_within T.F_is_within.kp T.b_is_within (pac_d (ped_ix ix_seq od_ix (PEd.r (ped_var 0 (pv 0))) (PEd.r ped_int)) (pac_d ped_int (pac_d ped_int pac_nil)))))))))) (pssd_one (qs_ret ped_bool)) pssd_nil)
      (pssd_one (qs_ret (ped_call (ok_is_within T) (hr.mono (by decide)) (by rfl) T.g_is_within T.F_is_within.kp T.b_is_within (pac_d (ped_ix ix_seq od_ix (PEd.r (ped_var 0 (pv 0))) (PEd.r ped_int)) (pac_d ped_int (pac_d (ped_op op_sub od_sub (PEd.r (ped_ix ix_seq od_ix (PEd.r (ped_var 0 (pv 0))) (PEd.r ped_int))) (PEd.r ped_int)) pac_nil)))))))⟩) rd_is_taker
theorem ok_is_row (T : Txt K mg a fd) : FnOk P w K mg base CX0 3 a.is_row fd.is_row ["thing"] (lift sp_is_row) :=
  fun_d (t := b_is_row) (k := 2) T.F_is_row sc_is_row len_is_row (fun cdv A outer s H E hr => ⟨_, (pssd_one (qs_ret (ped_and (ped_isi (by rfl) T.n_isinstance (by rfl) T.n_tuple (by decide +kernel) (PEd.r (ped_var 0 (pv 0)))) (ped_and (ped_cmp op_le od_le (PEd.r (ped_callB call_len_seq cd_len (by rfl) T.n_len PySem.boot_len (par_cons (PEd.r (ped_var 0 (pv 0))) par_nil))) (PEd.r ped_int)) (ped_one (ped_callB (cr_all rfl) cd_all (by rfl) T.n_all (by decide +kernel) (par_cons (PEn.r (ren_lc [("one", 1)] rfl rfl sc_is_row.nd (pid_seq (ped_var 0 (pv 0))) (blkOk_by (own := [("one", 1)]) (N := n_is_row) (sc := defScope s_is_row) (by decide +kernel)) (fun _ _ _ _ _ => (qg_name (i := 1) sc_is_row.nd rfl (Or.inl rfl))) (by decide) (fun _ _ _ _ _ => ptsd_nil) (fun _ _ _ _ _ => (ped_call (ok_is_taker T) (hr.mono (by decide)) (by rfl) T.g_is_taker T.F_is_taker.kp T.b_is_taker (pac_d (ped_var 1 (pv 1)) pac_nil))))) par_nil)))))))⟩) rd_is_row
theorem ok_need_row (T : Txt K mg a fd) : FnOk P w K mg base CX0 4 a.need_row fd.need_row ["row"] (lift sp_need_row) :=
  fun_d (t := b_need_row) (k := 3) T.F_need_row sc_need_row len_need_row (fun cdv A outer s H E hr => ⟨_, (pssd_one (qs_if (ptd_not (ptd_val (ped_call (ok_is_row T) (hr.mono (by decide)) (by rfl) T.g_is_row T.F_is_row.kp T.b_is_row (pac_d (ped_var 0 (pv 0)) pac_nil)))) (pssd_one psd_never) pssd_nil))⟩) rd_need_row
theorem ok_need_number (T : Txt K mg a fd) : FnOk P w K mg base CX0 2 a.need_number fd.need_number ["number", "low", "high"] (lift sp_need_number) :=
  fun_d (t := b_need_number) (k := 1) T.F_need_number sc_need_number len_need_number (fun cdv A outer s H E hr => ⟨_, (pssd_one (qs_if (ptd_not (ptd_val (ped_call (ok_is_within T) (hr.mono (by decide)) (by rfl) T.g_is_within T.F_is_within.kp T.b_is_within (pac_d (ped_var 0 (pv 0)) (pac_d (ped_var 1 (pv 1)) (pac_d (ped_var 2 (pv 2)) pac_nil)))))) (pssd_one psd_never) pssd_nil))⟩) rd_need_number
theorem ok_counts (T : Txt K mg a fd) : FnOk P w K mg base CX0 1 a.counts fd.counts ["row", "number"] (lift sp_counts) :=
  fun_d (t := b_counts) (k := 0) T.F_counts sc_counts len_counts (fun cdv A outer s H E hr => ⟨_, (pssd_cons (qs_setN (i := 2) sc_counts.nd rfl (Or.inl rfl) (pen_lst paf_nil))
      (pssd_cons (qs_for PassesOwn.never rfl (pid_seq (ped_var 0 (pv 0))) (qg_tup rfl (qg_cons (qg_name (i := 3) sc_counts.nd rfl (Or.inl rfl)) (qg_cons (qg_name (i := 4) sc_counts.nd rfl (Or.inl rfl)) pgsd_nil)))
      (pssd_cons (qs_set (i := 5) sc_counts.nd rfl (Or.inl rfl) (ped_op op_fdivW od_fdiv (PEd.r (ped_op op_addA od_add (PEd.r (ped_var 1 (pv 1))) (PEd.r (ped_var 4 (pv 4))))) (PEd.r (ped_var 3 (pv 3)))))
      (pssd_cons (qs_app (pv 2) (ped_var 5 (pv 5)))
      (pssd_one (qs_set (i := 1) sc_counts.nd rfl (Or.inl rfl) (ped_op op_sub od_sub (PEd.r (ped_var 1 (pv 1))) (PEd.r (ped_var 5 (pv 5)))))))))
      (pssd_one (qs_retN (pen_op op_cat on_cat (per_own 2 (pv 2)) (PEn.r (pen_lst (paf_cons (ped_var 1 (pv 1)) paf_nil))))))))⟩) rd_counts
theorem ok_taken (T : Txt K mg a fd) : FnOk P w K mg base CX0 5 a.taken fd.taken ["row", "number"] (lift sp_taken) :=
  fun_d (t := b_taken) (k := 4) T.F_taken sc_taken len_taken (fun cdv A outer s H E hr => ⟨_, (pssd_cons (qs_expr (ped_call (ok_need_row T) (hr.mono (by decide)) (by rfl) T.g_need_row T.F_need_row.kp T.b_need_row (pac_d (ped_var 0 (pv 0)) pac_nil)))
      (pssd_cons (qs_expr (ped_call (ok_need_number T) (hr.mono (by decide)) (by rfl) T.g_need_number T.F_need_number.kp T.b_need_number (pac_d (ped_var 1 (pv 1)) (pac_d ped_int (pac_d (ped_globI (by rfl) T.c_FAR ⟨_, rfl⟩) pac_nil)))))
      (pssd_one (qs_retN (pen_call (ok_counts T) (hr.mono (by decide)) (by rfl) T.g_counts T.F_counts.kp T.b_counts (pac_d (ped_var 0 (pv 0)) (pac_d (ped_var 1 (pv 1)) pac_nil)))))))⟩) rd_taken
theorem ok_all_orders (T : Txt K mg a fd) : FnOk P w K mg base CX0 1 a.all_orders fd.all_orders ["many"] (lift sp_all_orders) :=
  fun_d (t := b_all_orders) (k := 0) T.F_all_orders sc_all_orders len_all_orders (fun cdv A outer s H E hr => ⟨_, (pssd_cons (qs_set (i := 1) sc_all_orders.nd rfl (Or.inl rfl) (PEn.d (pen_lst (paf_cons (ped_tup paf_nil) paf_nil))))
      (pssd_cons (qs_for PassesOwn.never rfl (pid_r1 (by rfl) T.n_range (par_cons (PEd.r (ped_var 0 (pv 0))) par_nil)) (qg_name (i := 2) sc_all_orders.nd rfl (Or.inl rfl))
      (pssd_cons (qs_set (i := 3) sc_all_orders.nd rfl (Or.inl rfl) (PEn.d (pen_lst paf_nil)))
      (pssd_cons (qs_for PassesOwn.never rfl (pid_seq (ped_var 1 (pv 1))) (qg_name (i := 4) sc_all_orders.nd rfl (Or.inr rfl))
      (pssd_one (qs_set (i := 3) sc_all_orders.nd rfl (Or.inl rfl) (ped_op op_addA od_add (PEd.r (ped_var 3 (pv 3))) (PEn.r (ren_lc [("place", 5)] rfl rfl sc_all_orders.nd (pid_r1 (by rfl) T.n_range (par_cons (PEd.r (ped_var 0 (pv 0))) par_nil)) (blkOk_by (own := [("place", 5)]) (N := n_all_orders) (sc := defScope s_all_orders) (by decide +kernel)) (fun _ _ _ _ _ => (qg_name (i := 5) sc_all_orders.nd rfl (Or.inl rfl))) (by decide) (fun _ _ _ _ _ => (ptsd_one (ptd_cmp (op_niA (un65 hr)) od_ni (PEd.r (ped_var 5 (pv 5))) (PEd.r (ped_var 4 (pv 4)))))) (fun _ _ _ _ _ => (ped_op op_addA od_add (PEd.r (ped_var 4 (pv 4))) (PEd.r (ped_tup (paf_cons (ped_var 5 (pv 5)) paf_nil)))))))))))
      (pssd_one (qs_set (i := 1) sc_all_orders.nd rfl (Or.inl rfl) (ped_var 3 (pv 3)))))))
      (pssd_one (qs_ret (ped_var 1 (pv 1))))))⟩) rd_all_orders
theorem ok_orders_for (T : Txt K mg a fd) : FnOk P w K mg base CX0 5 a.orders_for fd.orders_for ["row", "number", "told"] (lift sp_orders_for) :=
  fun_d (t := b_orders_for) (k := 4) T.F_orders_for sc_orders_for len_orders_for (fun cdv A outer s H E hr => ⟨_, (pssd_cons (qs_expr (ped_call (ok_need_row T) (hr.mono (by decide)) (by rfl) T.g_need_row T.F_need_row.kp T.b_need_row (pac_d (ped_var 0 (pv 0)) pac_nil)))
      (pssd_cons (qs_expr (ped_call (ok_need_number T) (hr.mono (by decide)) (by rfl) T.g_need_number T.F_need_number.kp T.b_need_number (pac_d (ped_var 1 (pv 1)) (pac_d ped_int (pac_d (ped_globI (by rfl) T.c_FAR ⟨_, rfl⟩) pac_nil)))))
      (pssd_cons (qs_if (ptd_w (pwd_or (ptd_not (ptd_val (ped_isi (by rfl) T.n_isinstance (by rfl) T.n_list (by decide +kernel) (PEd.r (ped_var 2 (pv 2)))))) (pwd_or (ptd_cmp (op_neD hr.units) od_ne (PEd.r (ped_callB call_len_seq cd_len (by rfl) T.n_len PySem.boot_len (par_cons (PEd.r (ped_var 2 (pv 2))) par_nil))) (PEd.r (ped_callB call_len_seq cd_len (by rfl) T.n_len PySem.boot_len (par_cons (PEd.r (ped_var 0 (pv 0))) par_nil)))) (pwd_or1 (ptd_not (ptd_val (ped_callB (cr_all rfl) cd_all (by rfl) T.n_all (by decide +kernel) (par_cons (PEn.r (ren_lc [("one", 6)] rfl rfl sc_orders_for.nd (pid_seq (ped_var 2 (pv 2))) (blkOk_by (own := [("one", 6)]) (N := n_orders_for) (sc := defScope s_orders_for) (by decide +kernel)) (fun _ _ _ _ _ => (qg_name (i := 6) sc_orders_for.nd rfl (Or.inl rfl))) (by decide) (fun _ _ _ _ _ => ptsd_nil) (fun _ _ _ _ _ => (ped_call (ok_is_within T) (hr.mono (by decide)) (by rfl) T.g_is_within T.F_is_within.kp T.b_is_within (pac_d (ped_var 6 (pv 6)) (pac_d ped_int (pac_d (ped_globI (by rfl) T.c_FAR ⟨_, rfl⟩) pac_nil))))))) par_nil)))))))) (pssd_one psd_never) pssd_nil)
      (pssd_cons (qs_if (ptd_cmp op_gt od_gt (PEd.r (ped_callB call_len_seq cd_len (by rfl) T.n_len PySem.boot_len (par_cons (PEd.r (ped_var 0 (pv 0))) par_nil))) (PEd.r (ped_globI (by rfl) T.c_MOST ⟨_, rfl⟩))) (pssd_one psd_never) pssd_nil)
      (pssd_cons (qs_setN (i := 3) sc_orders_for.nd rfl (Or.inl rfl) (pen_lst paf_nil))
      (pssd_cons (qs_for PassesOwn.never rfl (pid_seq (ped_call (ok_all_orders T) (hr.mono (by decide)) (by rfl) T.g_all_orders T.F_all_orders.kp T.b_all_orders (pac_d (ped_callB call_len_seq cd_len (by rfl) T.n_len PySem.boot_len (par_cons (PEd.r (ped_var 0 (pv 0))) par_nil)) pac_nil))) (qg_name (i := 4) sc_orders_for.nd rfl (Or.inl rfl))
      (pssd_cons (qs_set (i := 5) sc_orders_for.nd rfl (Or.inr rfl) (ped_call (ok_counts T) (hr.mono (by decide)) (by rfl) T.g_counts T.F_counts.kp T.b_counts (pac_d (ped_callTy call_tuple_ofZ cd_tuple (by rfl) T.n_tuple (by decide +kernel) (par_cons (PEn.r (ren_lc [("place", 7)] rfl rfl sc_orders_for.nd (pid_seq (ped_var 4 (pv 4))) (blkOk_by (own := [("place", 7)]) (N := n_orders_for) (sc := defScope s_orders_for) (by decide +kernel)) (fun _ _ _ _ _ => (qg_name (i := 7) sc_orders_for.nd rfl (Or.inl rfl))) (by decide) (fun _ _ _ _ _ => ptsd_nil) (fun _ _ _ _ _ => (ped_ix ix_seq od_ix (PEd.r (ped_var 0 (pv 0))) (PEd.r (ped_var 7 (pv 7))))))) par_nil)) (pac_d (ped_var 1 (pv 1)) pac_nil))))
      (pssd_one (qs_if (ptd_val (ped_callB (cr_all rfl) cd_all (by rfl) T.n_all (by decide +kernel) (par_cons (PEn.r (ren_lc [("at", 8), ("place", 7)] rfl rfl sc_orders_for.nd (pid_enum (by rfl) T.n_enumerate (paf_cons (ped_var 4 (pv 4)) paf_nil)) (blkOk_by (own := [("at", 8), ("place", 7)]) (N := n_orders_for) (sc := defScope s_orders_for) (by decide +kernel)) (fun _ _ _ _ _ => (rg_tup (K := K) rfl rfl (qg_cons (qg_name (i := 8) sc_orders_for.nd rfl (Or.inl rfl)) (qg_cons (qg_name (i := 7) sc_orders_for.nd rfl (Or.inl rfl)) pgsd_nil)))) (by decide) (fun _ _ _ _ _ => ptsd_nil) (fun _ _ _ _ _ => (ped_cmp (op_eqD hr.units) od_eq (PEd.r (ped_ix ix_seq od_ix (PEd.r (ped_var 5 (pv 5))) (PEd.r (ped_var 8 (pv 8))))) (PEd.r (ped_ix ix_seq od_ix (PEd.r (ped_var 2 (pv 2))) (PEd.r (ped_var 7 (pv 7))))))))) par_nil))) (pssd_one (qs_app (pv 3) (ped_var 4 (pv 4)))) pssd_nil))))
      (pssd_one (qs_retO 3 (pv 3)))))))))⟩) rd_orders_for
theorem ok_common (T : Txt K mg a fd) : FnOk P w K mg base CX0 1 a.common fd.common ["one", "other"] (lift sp_common) :=
  fun_d (t := b_common) (k := 0) T.F_common sc_common len_common (fun cdv A outer s H E hr => ⟨_, (pssd_cons (qs_while PassesOwn.never (ptd_cmp (op_neD hr.units) od_ne (PEd.r (ped_var 1 (pv 1))) (PEd.r ped_int)) (pssd_one (rs_par (i := 0) (j := 1) rfl sc_common.nd rfl rfl (by decide) rfl rfl (paf_cons (ped_var 1 (pv 1)) (paf_cons (ped_op op_mod od_mod (PEd.r (ped_var 0 (pv 0))) (PEd.r (ped_var 1 (pv 1)))) paf_nil)) (by rfl))))
      (pssd_one (qs_ret (ped_var 0 (pv 0)))))⟩) rd_common
theorem ok_round_of (T : Txt K mg a fd) : FnOk P w K mg base CX0 5 a.round_of fd.round_of ["row"] (lift sp_round_of) :=
  fun_d (t := b_round_of) (k := 4) T.F_round_of sc_round_of len_round_of (fun cdv A outer s H E hr => ⟨_, (pssd_cons (qs_expr (ped_call (ok_need_row T) (hr.mono (by decide)) (by rfl) T.g_need_row T.F_need_row.kp T.b_need_row (pac_d (ped_var 0 (pv 0)) pac_nil)))
      (pssd_cons (qs_asg (ped_tup (paf_cons ped_int (paf_cons ped_int paf_nil))) (qg_tup rfl (qg_cons (qg_name (i := 1) sc_round_of.nd rfl (Or.inl rfl)) (qg_cons (qg_name (i := 2) sc_round_of.nd rfl (Or.inl rfl)) pgsd_nil))))
      (pssd_cons (qs_for PassesOwn.never rfl (pid_seq (ped_var 0 (pv 0))) (qg_tup rfl (qg_cons (qg_name (i := 3) sc_round_of.nd rfl (Or.inl rfl)) (qg_cons (qg_name (i := 4) sc_round_of.nd rfl (Or.inl rfl)) pgsd_nil)))
      (pssd_cons (qs_set (i := 5) sc_round_of.nd rfl (Or.inl rfl) (ped_op op_fdivW od_fdiv (PEd.r (ped_var 3 (pv 3))) (PEd.r (ped_call (ok_common T) (hr.mono (by decide)) (by rfl) T.g_common T.F_common.kp T.b_common (pac_d (ped_var 2 (pv 2)) (pac_d (ped_var 3 (pv 3)) pac_nil))))))
      (pssd_cons (rs_par (i := 1) (j := 2) rfl sc_round_of.nd rfl rfl (by decide) rfl rfl (paf_cons (ped_op op_mulB od_mul (PEd.r (ped_var 1 (pv 1))) (PEd.r (ped_var 5 (pv 5)))) (paf_cons (ped_op op_mulB od_mul (PEd.r (ped_var 2 (pv 2))) (PEd.r (ped_var 5 (pv 5)))) paf_nil)) (by rfl))
      (pssd_one (qs_set (i := 2) sc_round_of.nd rfl (Or.inl rfl) (ped_op op_sub od_sub (PEd.r (ped_var 2 (pv 2))) (PEd.r (ped_op op_fdivW od_fdiv (PEd.r (ped_var 2 (pv 2))) (PEd.r (ped_var 3 (pv 3)))))))))))
      (pssd_one (qs_ret (ped_var 1 (pv 1)))))))⟩) rd_round_of
theorem ok_law_cell_at (T : Txt K mg a fd) : FnOk P w K mg base CX0 1 a.law_cell_at fd.law_cell_at ["script", "k"] (Pd.spCell K) := by
  refine T.F_law_cell_at.ok (k := 0) sc_law_cell_at (fun vs H Q E h => ?_) (fun cdv A outer s H vs Q E hr h => ?_)
  · obtain ⟨_, _, _, rfl, _⟩ := h
    rfl
  · exact ⟨Pd.tCell K, (pss_cons (ps_if (pt_cmpR op_lt (pv 1) (pe_callB call_len_seq (by rfl) T.n_len PySem.boot_len (pa_cons (pv 0) pa_nil)) (nomark _)) (pss_one (ps_ret (pe_ix ix_list (pv 0) (pv 1) (fun _ _ => rfl)))) pss_nil) (pss_one (ps_ret pe_int))), Pd.rd_cell h⟩
theorem ok_law_draws (T : Txt K mg a fd) : FnOk P w K mg base CX0 1 a.law_draws fd.law_draws ["cell", "many", "size"] (lift sp_law_draws) :=
  fun_d (t := b_law_draws) (k := 0) T.F_law_draws sc_law_draws len_law_draws (fun cdv A outer s H E hr => ⟨_, (pssd_cons (qs_setN (i := 3) sc_law_draws.nd rfl (Or.inl rfl) (pen_lst paf_nil))
      (pssd_cons (qs_set (i := 4) sc_law_draws.nd rfl (Or.inl rfl) (ped_op op_mulB od_mul (PEd.r (ped_var 0 (pv 0))) (PEd.r (ped_callTy call_int1 cd_int (by rfl) T.n_int (by decide +kernel) (par_cons (PEd.r (ped_cmp op_ge od_ge (PEd.r (ped_var 0 (pv 0))) (PEd.r (ped_op op_pow od_pow (PEd.r ped_int) (PEd.r ped_int))))) par_nil)))))
      (pssd_cons (qs_set (i := 5) sc_law_draws.nd rfl (Or.inl rfl) (ped_op op_mod od_mod (PEd.r (ped_var 0 (pv 0))) (PEd.r ped_int)))
      (pssd_cons (qs_for PassesOwn.never rfl (pid_r1 (by rfl) T.n_range (par_cons (PEd.r (ped_op op_addA od_add (PEd.r (ped_var 1 (pv 1))) (PEd.r ped_int))) par_nil)) (qg_name (i := 6) sc_law_draws.nd rfl (Or.inl rfl))
      (pssd_cons (qs_set (i := 5) sc_law_draws.nd rfl (Or.inl rfl) (ped_op op_mod od_mod (PEd.r (ped_op op_addA od_add (PEd.r (ped_op op_addA od_add (PEd.r (ped_op op_addA od_add (PEd.r (ped_op op_mulB od_mul (PEd.r (ped_var 5 (pv 5))) (PEd.r (ped_var 5 (pv 5))))) (PEd.r (ped_op op_mulB od_mul (PEd.r ped_int) (PEd.r (ped_var 5 (pv 5))))))) (PEd.r (ped_var 6 (pv 6))))) (PEd.r ped_int))) (PEd.r ped_int)))
      (pssd_one (qs_if (ptd_w (pwd_and (ptd_cmp op_gt od_gt (PEd.r (ped_var 6 (pv 6))) (PEd.r ped_int)) (pwd_and1 (ptd_cmp op_gt od_gt (PEd.r (ped_var 4 (pv 4))) (PEd.r ped_int))))) (pssd_cons (qs_app (pv 3) (ped_op op_mod od_mod (PEd.r (ped_var 4 (pv 4))) (PEd.r (ped_var 2 (pv 2)))))
      (pssd_one (qs_set (i := 4) sc_law_draws.nd rfl (Or.inl rfl) (ped_op op_fdivW od_fdiv (PEd.r (ped_var 4 (pv 4))) (PEd.r (ped_var 2 (pv 2))))))) (pssd_one (qs_if (ptd_cmp op_gt od_gt (PEd.r (ped_var 6 (pv 6))) (PEd.r ped_int)) (pssd_one (qs_app (pv 3) (ped_op op_mod od_mod (PEd.r (ped_op op_fdivW od_fdiv (PEd.r (ped_var 5 (pv 5))) (PEd.r ped_int))) (PEd.r (ped_var 2 (pv 2)))))) pssd_nil))))))
      (pssd_one (qs_retO 3 (pv 3)))))))⟩) rd_law_draws
theorem ok_law_bag (T : Txt K mg a fd) : FnOk P w K mg base CX0 2 a.law_bag fd.law_bag ["script", "k"] (Pd.spBag K) := by
  refine T.F_law_bag.ok (k := 1) sc_law_bag (fun vs H Q E h => ?_) (fun cdv A outer s H vs Q E hr h => ?_)
  · obtain ⟨_, _, _, rfl, _⟩ := h
    rfl
  · exact ⟨Pd.tBag K, (pss_one (ps_ret (pe_lst (pa_cons (pe_call (ok_law_draws T) (hr.mono (by decide)) (by rfl) T.g_law_draws T.F_law_draws.kp T.b_law_draws .nil pass0 (pa_cons (pe_call (ok_law_cell_at T) (hr.mono (by decide)) (by rfl) T.g_law_cell_at T.F_law_cell_at.kp T.b_law_cell_at .nil pass0 (pa_cons (pv 0) (pa_cons (pv 1) pa_nil))) (pa_cons pe_int (pa_cons pe_int pa_nil)))) (pa_cons pe_int pa_nil))))), Pd.rd_bag h⟩
theorem ok_law_bags (T : Txt K mg a fd) : FnOk P w K mg base CX0 3 a.law_bags fd.law_bags ["script", "limit"] (Pd.spBags K) := by
  refine T.F_law_bags.ok (k := 2) sc_law_bags (fun vs H Q E h => ?_) (fun cdv A outer s H vs Q E hr h => ?_)
  · obtain ⟨_, _, _, rfl, _⟩ := h
    rfl
  · exact ⟨Pd.tBags K, (pss_one (ps_ret (pe_lc (own := [("k", 2)]) (g := gName 2) (tt := tYes) rfl sc_law_bags.nd (pi_range1 (by rfl) T.n_range (pa_cons (pe_callB (call_max2 rfl) (by rfl) T.n_max (by decide +kernel) (pa_cons pe_int (pa_cons (pe_callB (call_min2 rfl) (by rfl) T.n_min (by decide +kernel) (pa_cons (pv 1) (pa_cons (pe_callB call_len_seq (by rfl) T.n_len PySem.boot_len (pa_cons (pv 0) pa_nil)) pa_nil))) pa_nil))) pa_nil)) (blkOk_by (own := [("k", 2)]) (N := n_law_bags) (sc := defScope s_law_bags) (by decide +kernel)) (fun _ _ _ _ _ => pg_name (i := 2) sc_law_bags.nd rfl (Or.inl rfl)) (fun _ _ _ _ _ => pts_nil) (fun _ _ _ _ _ => (pe_call (ok_law_bag T) (hr.mono (by decide)) (by rfl) T.g_law_bag T.F_law_bag.kp T.b_law_bag .nil pass0 (pa_cons (pv 0) (pa_cons (pv 2) pa_nil))))))), Pd.rd_bags h⟩
theorem ok_law_take (T : Txt K mg a fd) : FnOk P w K mg base CX0 1 a.law_take fd.law_take ["bag", "many"] (lift Pd.spTake) := by
  refine T.F_law_take.ok (k := 0) sc_law_take (fun vs H Q E h => ?_) (fun cdv A outer s H vs Q E hr h => ?_)
  · obtain ⟨_, _, _, _, _, r, _, ⟨_, rfl, _⟩, _⟩ := h
    exact (pairedLen r).trans rfl
  · exact ⟨Pd.tTake K, (pss_cons (ps_asg (pe_op op_add (pe_ix ix_list (pv 0) pe_int (fun _ _ => rfl)) pe_int) (pg_sub (pv 0) pe_int set_list)) (pss_one (ps_ret (pe_op op_mod (pe_ix ix_list (pe_ix ix_list (pv 0) pe_int (fun _ _ => rfl)) (pe_op op_mod (pe_ix ix_list (pv 0) pe_int (fun _ _ => rfl)) (pe_callB call_len_seq (by rfl) T.n_len PySem.boot_len (pa_cons (pe_ix ix_list (pv 0) pe_int (fun _ _ => rfl)) pa_nil))) (fun _ _ => rfl)) (pv 1))))), Pd.rd_take h⟩
theorem ok_law_far_draw (T : Txt K mg a fd) : FnOk P w K mg base CX0 2 a.law_far_draw fd.law_far_draw ["bag", "many"] (lift sp_law_far_draw) :=
  fun_d (t := b_law_far_draw) (k := 1) T.F_law_far_draw sc_law_far_draw len_law_far_draw (fun cdv A outer s H E hr => ⟨_, (pssd_cons (rs_par (i := 2) (j := 3) rfl sc_law_far_draw.nd rfl rfl (by decide) rfl rfl (paf_cons ped_int (paf_cons (ped_var 1 (pv 1)) paf_nil)) (by rfl))
      (pssd_cons (qs_while PassesOwn.never (ptd_cmp op_gt od_gt (PEd.r (ped_var 3 (pv 3))) (PEd.r ped_int)) (pssd_one (rs_par (i := 2) (j := 3) rfl sc_law_far_draw.nd rfl rfl (by decide) rfl rfl (paf_cons (ped_op op_addA od_add (PEd.r (ped_op op_mulB od_mul (PEd.r ped_int) (PEd.r (ped_var 2 (pv 2))))) (PEd.r (ped_call (ok_law_take T) (hr.mono (by decide)) (by rfl) T.g_law_take T.F_law_take.kp T.b_law_take (pac_bag 0 (pv 0) (pac_d ped_int pac_nil))))) (paf_cons (ped_op op_fdivW od_fdiv (PEd.r (ped_var 3 (pv 3))) (PEd.r ped_int)) paf_nil)) (by rfl))))
      (pssd_one (qs_ret (ped_ix ix_seq od_ix (PEn.r (pen_lst (paf_cons (ped_op op_mod od_mod (PEd.r (ped_var 2 (pv 2))) (PEd.r (ped_var 1 (pv 1)))) (paf_cons ped_int (paf_cons (ped_op op_sub od_sub (PEd.r (ped_var 1 (pv 1))) (PEd.r ped_int)) (paf_cons (ped_op op_mod od_mod (PEd.r (ped_var 2 (pv 2))) (PEd.r (ped_var 1 (pv 1)))) paf_nil)))))) (PEd.r (ped_call (ok_law_take T) (hr.mono (by decide)) (by rfl) T.g_law_take T.F_law_take.kp T.b_law_take (pac_bag 0 (pv 0) (pac_d ped_int pac_nil)))))))))⟩) rd_law_far_draw
theorem ok_law_mixed (T : Txt K mg a fd) : FnOk P w K mg base CX0 2 a.law_mixed fd.law_mixed ["bag", "many"] (lift sp_law_mixed) :=
  fun_d (t := b_law_mixed) (k := 1) T.F_law_mixed sc_law_mixed len_law_mixed (fun cdv A outer s H E hr => ⟨_, (pssd_cons (qs_setN (i := 2) sc_law_mixed.nd rfl (Or.inl rfl) (pen_lst paf_nil))
      (pssd_cons (qs_for PassesOwn.never rfl (pid_r2 (by rfl) T.n_range (par_cons (PEd.r ped_int) (par_cons (PEd.r (ped_op op_addA od_add (PEd.r (ped_var 1 (pv 1))) (PEd.r ped_int))) par_nil))) (qg_name (i := 3) sc_law_mixed.nd rfl (Or.inl rfl))
      (pssd_one (qs_insert (pv 2) (ped_call (ok_law_take T) (hr.mono (by decide)) (by rfl) T.g_law_take T.F_law_take.kp T.b_law_take (pac_bag 0 (pv 0) (pac_d (ped_var 3 (pv 3)) pac_nil))) (ped_var 3 (pv 3)))))
      (pssd_one (qs_ret (ped_callTy call_tuple_ofZ cd_tuple (by rfl) T.n_tuple (by decide +kernel) (par_cons (per_own 2 (pv 2)) par_nil))))))⟩) rd_law_mixed
theorem ok_law_taker (T : Txt K mg a fd) : FnOk P w K mg base CX0 2 a.law_taker fd.law_taker ["bag", "far"] (lift sp_law_taker) :=
  fun_d (t := b_law_taker) (k := 1) T.F_law_taker sc_law_taker len_law_taker (fun cdv A outer s H E hr => ⟨_, (pssd_cons (qs_set (i := 2) sc_law_taker.nd rfl (Or.inl rfl) (ped_op op_addA od_add (PEd.r ped_int) (PEd.r (ped_ix ix_seq od_ix (PEn.r (pen_lst (paf_cons (ped_call (ok_law_take T) (hr.mono (by decide)) (by rfl) T.g_law_take T.F_law_take.kp T.b_law_take (pac_bag 0 (pv 0) (pac_d (ped_callB (call_min2 rfl) cd_min2 (by rfl) T.n_min (by decide +kernel) (par_cons (PEd.r ped_int) (par_cons (PEd.r (ped_op op_sub od_sub (PEd.r (ped_var 1 (pv 1))) (PEd.r ped_int))) par_nil))) pac_nil))) (paf_cons (ped_call (ok_law_take T) (hr.mono (by decide)) (by rfl) T.g_law_take T.F_law_take.kp T.b_law_take (pac_bag 0 (pv 0) (pac_d (ped_op op_sub od_sub (PEd.r (ped_var 1 (pv 1))) (PEd.r ped_int)) pac_nil))) paf_nil)))) (PEd.r (ped_call (ok_law_take T) (hr.mono (by decide)) (by rfl) T.g_law_take T.F_law_take.kp T.b_law_take (pac_bag 0 (pv 0) (pac_d ped_int pac_nil))))))))
      (pssd_one (qs_ret (ped_tup (paf_cons (ped_var 2 (pv 2)) (paf_cons (ped_ix ix_seq od_ix (PEn.r (pen_lst (paf_cons ped_int (paf_cons (ped_call (ok_law_take T) (hr.mono (by decide)) (by rfl) T.g_law_take T.F_law_take.kp T.b_law_take (pac_bag 0 (pv 0) (pac_d (ped_var 2 (pv 2)) pac_nil))) (paf_cons (ped_op op_sub od_sub (PEd.r (ped_var 2 (pv 2))) (PEd.r ped_int)) paf_nil))))) (PEd.r (ped_call (ok_law_take T) (hr.mono (by decide)) (by rfl) T.g_law_take T.F_law_take.kp T.b_law_take (pac_bag 0 (pv 0) (pac_d ped_int pac_nil))))) paf_nil))))))⟩) rd_law_taker
theorem ok_law_drawn_row (T : Txt K mg a fd) : FnOk P w K mg base CX0 3 a.law_drawn_row fd.law_drawn_row ["bag", "takers", "far"] (lift sp_law_drawn_row) :=
  fun_d (t := b_law_drawn_row) (k := 2) T.F_law_drawn_row sc_law_drawn_row len_law_drawn_row (fun cdv A outer s H E hr => ⟨_, (pssd_one (qs_ret (ped_callTy call_tuple_ofZ cd_tuple (by rfl) T.n_tuple (by decide +kernel) (par_cons (PEn.r (ren_lc [("turn", 3)] rfl rfl sc_law_drawn_row.nd (pid_r1 (by rfl) T.n_range (par_cons (PEd.r (ped_call (ok_law_take T) (hr.mono (by decide)) (by rfl) T.g_law_take T.F_law_take.kp T.b_law_take (pac_bag 0 (pv 0) (pac_d (ped_op op_addA od_add (PEd.r (ped_var 1 (pv 1))) (PEd.r ped_int)) pac_nil)))) par_nil)) (blkOk_by (own := [("turn", 3)]) (N := n_law_drawn_row) (sc := defScope s_law_drawn_row) (by decide +kernel)) (fun _ _ _ _ _ => (qg_name (i := 3) sc_law_drawn_row.nd rfl (Or.inl rfl))) (by decide) (fun _ _ _ _ _ => ptsd_nil) (fun _ _ _ _ _ => (ped_call (ok_law_taker T) (hr.mono (by decide)) (by rfl) T.g_law_taker T.F_law_taker.kp T.b_law_taker (pac_bag 0 (pv 0) (pac_d (ped_var 2 (pv 2)) pac_nil)))))) par_nil))))⟩) rd_law_drawn_row
theorem ok_law_all_orders (T : Txt K mg a fd) : FnOk P w K mg base CX0 1 a.law_all_orders fd.law_all_orders ["many"] (lift sp_law_all_orders) :=
  fun_d (t := b_law_all_orders) (k := 0) T.F_law_all_orders sc_law_all_orders len_law_all_orders (fun cdv A outer s H E hr => ⟨_, (pssd_cons (qs_set (i := 1) sc_law_all_orders.nd rfl (Or.inl rfl) (PEn.d (pen_lst (paf_cons (ped_tup paf_nil) paf_nil))))
      (pssd_cons (qs_for PassesOwn.never rfl (pid_r1 (by rfl) T.n_range (par_cons (PEd.r (ped_var 0 (pv 0))) par_nil)) (qg_name (i := 2) sc_law_all_orders.nd rfl (Or.inl rfl))
      (pssd_cons (qs_set (i := 3) sc_law_all_orders.nd rfl (Or.inl rfl) (PEn.d (pen_lst paf_nil)))
      (pssd_cons (qs_for PassesOwn.never rfl (pid_seq (ped_var 1 (pv 1))) (qg_name (i := 4) sc_law_all_orders.nd rfl (Or.inr rfl))
      (pssd_one (qs_set (i := 3) sc_law_all_orders.nd rfl (Or.inl rfl) (ped_op op_addA od_add (PEd.r (ped_var 3 (pv 3))) (PEn.r (ren_lc [("place", 5)] rfl rfl sc_law_all_orders.nd (pid_r1 (by rfl) T.n_range (par_cons (PEd.r (ped_var 0 (pv 0))) par_nil)) (blkOk_by (own := [("place", 5)]) (N := n_law_all_orders) (sc := defScope s_law_all_orders) (by decide +kernel)) (fun _ _ _ _ _ => (qg_name (i := 5) sc_law_all_orders.nd rfl (Or.inl rfl))) (by decide) (fun _ _ _ _ _ => (ptsd_one (ptd_cmp (op_niA (un65 hr)) od_ni (PEd.r (ped_var 5 (pv 5))) (PEd.r (ped_var 4 (pv 4)))))) (fun _ _ _ _ _ => (ped_op op_addA od_add (PEd.r (ped_var 4 (pv 4))) (PEd.r (ped_tup (paf_cons (ped_var 5 (pv 5)) paf_nil)))))))))))
      (pssd_one (qs_set (i := 1) sc_law_all_orders.nd rfl (Or.inl rfl) (ped_var 3 (pv 3)))))))
      (pssd_one (qs_ret (ped_var 1 (pv 1))))))⟩) rd_law_all_orders
theorem ok_law_stood (T : Txt K mg a fd) : FnOk P w K mg base CX0 1 a.law_stood fd.law_stood ["house", "order"] (lift sp_law_stood) :=
  fun_d (t := b_law_stood) (k := 0) T.F_law_stood sc_law_stood len_law_stood (fun cdv A outer s H E hr => ⟨_, (pssd_one (qs_ret (ped_callTy call_tuple_ofZ cd_tuple (by rfl) T.n_tuple (by decide +kernel) (par_cons (PEn.r (ren_lc [("place", 2)] rfl rfl sc_law_stood.nd (pid_seq (ped_var 1 (pv 1))) (blkOk_by (own := [("place", 2)]) (N := n_law_stood) (sc := defScope s_law_stood) (by decide +kernel)) (fun _ _ _ _ _ => (qg_name (i := 2) sc_law_stood.nd rfl (Or.inl rfl))) (by decide) (fun _ _ _ _ _ => ptsd_nil) (fun _ _ _ _ _ => (ped_ix ix_seq od_ix (PEd.r (ped_var 0 (pv 0))) (PEd.r (ped_var 2 (pv 2))))))) par_nil))))⟩) rd_law_stood
theorem ok_law (T : Txt K mg a fd) : FnOk P w K mg base CX0 6 a.law fd.law ["script"] (Pd.spLaw K) := by
  refine T.F_law.ok (k := 5) sc_law (fun vs H Q E h => ?_) (fun cdv A outer s H vs Q E hr h => ?_)
  · obtain ⟨_, _, rfl, _⟩ := h
    rfl
  · have hb : PSsd (cxOf CX0 P w K mg base n_law "law" (defScope s_law) a.law cdv A outer s H E).nox (lawLoop s_law) _ b_law_loop := (pssd_cons (qs_set (i := 2) sc_law.nd rfl (Or.inr rfl) (ped_call (ok_law_drawn_row T) (hr.mono (by decide)) (by rfl) T.g_law_drawn_row T.F_law_drawn_row.kp T.b_law_drawn_row (pac_bag 1 (pv 1) (pac_d ped_int (pac_d (ped_ix ix_seq od_ix (PEn.r (pen_lst (paf_cons ped_int (paf_cons ped_int (paf_cons ped_int paf_nil))))) (PEd.r (ped_call (ok_law_take T) (hr.mono (by decide)) (by rfl) T.g_law_take T.F_law_take.kp T.b_law_take (pac_bag 1 (pv 1) (pac_d ped_int pac_nil))))) pac_nil)))))
      (pssd_cons (qs_set (i := 3) sc_law.nd rfl (Or.inl rfl) (ped_ix ix_seq od_ix (PEn.r (pen_lst (paf_cons (ped_call (ok_law_take T) (hr.mono (by decide)) (by rfl) T.g_law_take T.F_law_take.kp T.b_law_take (pac_bag 1 (pv 1) (pac_d ped_int pac_nil))) (paf_cons (ped_call (ok_law_far_draw T) (hr.mono (by decide)) (by rfl) T.g_law_far_draw T.F_law_far_draw.kp T.b_law_far_draw (pac_bag 1 (pv 1) (pac_d (ped_op op_pow od_pow (PEd.r ped_int) (PEd.r ped_int)) pac_nil))) paf_nil)))) (PEd.r (ped_call (ok_law_take T) (hr.mono (by decide)) (by rfl) T.g_law_take T.F_law_take.kp T.b_law_take (pac_bag 1 (pv 1) (pac_d ped_int pac_nil))))))
      (pssd_cons (qs_set (i := 4) sc_law.nd rfl (Or.inl rfl) (ped_call (ok_taken T) (hr.mono (by decide)) (by rfl) T.g_taken T.F_taken.kp T.b_taken (pac_d (ped_var 2 (pv 2)) (pac_d (ped_var 3 (pv 3)) pac_nil))))
      (pssd_cons (qs_set (i := 5) sc_law.nd rfl (Or.inl rfl) (ped_call (ok_orders_for T) (hr.mono (by decide)) (by rfl) T.g_orders_for T.F_orders_for.kp T.b_orders_for (pac_d (ped_var 2 (pv 2)) (pac_d (ped_var 3 (pv 3)) (pac_d (ped_sl (PEd.r (ped_var 4 (pv 4))) pod_none (pod_some (ped_neg (PEd.r ped_int)))) pac_nil)))))
      (pssd_cons (qs_if (ptd_w (pwd_or (ptd_cmp (op_niA (un65 hr)) od_ni (PEd.r (ped_tuple_rg rfl (by rfl) T.n_tuple (by rfl) T.n_range (ped_callB call_len_seq cd_len (by rfl) T.n_len PySem.boot_len (par_cons (PEd.r (ped_var 2 (pv 2))) par_nil)))) (PEd.r (ped_var 5 (pv 5)))) (pwd_or1 (ptd_cmp (op_neD hr.units) od_ne (PEd.r (ped_var 5 (pv 5))) (PEn.r (pen_srtTup rfl (un64 hr) (by rfl) T.n_sorted (by rfl) T.n_set (PEd.r (ped_var 5 (pv 5))) (by decide +kernel) (by decide +kernel))))))) (pssd_one (qs_ret ped_bool)) pssd_nil)
      (pssd_cons (qs_for PassesOwn.never rfl (pid_r1 (by rfl) T.n_range (par_cons (PEd.r ped_int) par_nil)) (qg_name (i := 6) sc_law.nd rfl (Or.inl rfl))
      (pssd_cons (qs_set (i := 7) sc_law.nd rfl (Or.inr rfl) (ped_callTy call_tuple_ofZ cd_tuple (by rfl) T.n_tuple (by decide +kernel) (par_cons (PEn.r (ren_lc [("place", 13)] rfl rfl sc_law.nd (pid_seq (ped_call (ok_law_mixed T) (hr.mono (by decide)) (by rfl) T.g_law_mixed T.F_law_mixed.kp T.b_law_mixed (pac_bag 1 (pv 1) (pac_d (ped_callB call_len_seq cd_len (by rfl) T.n_len PySem.boot_len (par_cons (PEd.r (ped_var 2 (pv 2))) par_nil)) pac_nil)))) (blkOk_by (own := [("place", 13)]) (N := n_law) (sc := defScope s_law) (by decide +kernel)) (fun _ _ _ _ _ => (qg_name (i := 13) sc_law.nd rfl (Or.inl rfl))) (by decide) (fun _ _ _ _ _ => ptsd_nil) (fun _ _ _ _ _ => (ped_op op_sub od_sub (PEd.r (ped_var 13 (pv 13))) (PEd.r ped_int))))) par_nil)))
      (pssd_cons (qs_set (i := 8) sc_law.nd rfl (Or.inr rfl) (ped_call (ok_taken T) (hr.mono (by decide)) (by rfl) T.g_taken T.F_taken.kp T.b_taken (pac_d (ped_call (ok_law_stood T) (hr.mono (by decide)) (by rfl) T.g_law_stood T.F_law_stood.kp T.b_law_stood (pac_d (ped_var 2 (pv 2)) (pac_d (ped_var 7 (pv 7)) pac_nil))) (pac_d (ped_var 3 (pv 3)) pac_nil))))
      (pssd_one (qs_if (ptd_cmp (op_neD hr.units) od_ne (PEd.r (ped_cmp (op_eqD hr.units) od_eq (PEn.r (ren_lc [("place", 13)] rfl rfl sc_law.nd (pid_r1 (by rfl) T.n_range (par_cons (PEd.r (ped_callB call_len_seq cd_len (by rfl) T.n_len PySem.boot_len (par_cons (PEd.r (ped_var 2 (pv 2))) par_nil))) par_nil)) (blkOk_by (own := [("place", 13)]) (N := n_law) (sc := defScope s_law) (by decide +kernel)) (fun _ _ _ _ _ => (qg_name (i := 13) sc_law.nd rfl (Or.inl rfl))) (by decide) (fun _ _ _ _ _ => ptsd_nil) (fun _ _ _ _ _ => (ped_ix ix_seq od_ix (PEd.r (ped_var 8 (pv 8))) (PEd.r (ped_index (PEd.r (ped_var 7 (pv 7))) (PEd.r (ped_var 13 (pv 13))))))))) (PEd.r (ped_sl (PEd.r (ped_var 4 (pv 4))) pod_none (pod_some (ped_neg (PEd.r ped_int))))))) (PEd.r (ped_cmp (op_inA (un65 hr)) od_in (PEd.r (ped_var 7 (pv 7))) (PEd.r (ped_var 5 (pv 5)))))) (pssd_one (qs_ret ped_bool)) pssd_nil)))))
      (pssd_cons (qs_for PassesOwn.never rfl (pid_seq (ped_sl (PEd.r (ped_var 5 (pv 5))) pod_none (pod_some ped_int))) (qg_name (i := 7) sc_law.nd rfl (Or.inr rfl))
      (pssd_one (qs_if (ptd_cmp (op_neD hr.units) od_ne (PEd.r (ped_ix ix_seq od_ix (PEd.r (ped_call (ok_taken T) (hr.mono (by decide)) (by rfl) T.g_taken T.F_taken.kp T.b_taken (pac_d (ped_call (ok_law_stood T) (hr.mono (by decide)) (by rfl) T.g_law_stood T.F_law_stood.kp T.b_law_stood (pac_d (ped_var 2 (pv 2)) (pac_d (ped_var 7 (pv 7)) pac_nil))) (pac_d (ped_var 3 (pv 3)) pac_nil)))) (PEd.r (ped_neg (PEd.r ped_int))))) (PEd.r (ped_ix ix_seq od_ix (PEd.r (ped_var 4 (pv 4))) (PEd.r (ped_neg (PEd.r ped_int)))))) (pssd_one (qs_ret ped_bool)) pssd_nil)))
      (pssd_cons (qs_set (i := 9) sc_law.nd rfl (Or.inr rfl) ped_int)
      (pssd_cons (qs_for PassesOwn.never rfl (pid_seq (ped_var 2 (pv 2))) (qg_tup rfl (qg_cons (qg_name (i := 10) sc_law.nd rfl (Or.inl rfl)) (qg_cons (qg_name (i := 11) sc_law.nd rfl (Or.inl rfl)) pgsd_nil)))
      (pssd_one (qs_set (i := 9) sc_law.nd rfl (Or.inr rfl) (ped_op op_mulB od_mul (PEd.r (ped_var 9 (pv 9))) (PEd.r (ped_var 10 (pv 10)))))))
      (pssd_cons (qs_set (i := 12) sc_law.nd rfl (Or.inr rfl) (PEn.d (ren_lc [("order", 7)] rfl rfl sc_law.nd (pid_seq (ped_sl (PEd.r (ped_call (ok_law_all_orders T) (hr.mono (by decide)) (by rfl) T.g_law_all_orders T.F_law_all_orders.kp T.b_law_all_orders (pac_d (ped_callB call_len_seq cd_len (by rfl) T.n_len PySem.boot_len (par_cons (PEd.r (ped_var 2 (pv 2))) par_nil)) pac_nil))) pod_none (pod_some ped_int))) (blkOk_by (own := [("order", 7)]) (N := n_law) (sc := defScope s_law) (by decide +kernel)) (fun _ _ _ _ _ => (qg_name (i := 7) sc_law.nd rfl (Or.inl rfl))) (by decide) (fun _ _ _ _ _ => ptsd_nil) (fun _ _ _ _ _ => (ped_ix ix_seq od_ix (PEd.r (ped_call (ok_taken T) (hr.mono (by decide)) (by rfl) T.g_taken T.F_taken.kp T.b_taken (pac_d (ped_call (ok_law_stood T) (hr.mono (by decide)) (by rfl) T.g_law_stood T.F_law_stood.kp T.b_law_stood (pac_d (ped_var 2 (pv 2)) (pac_d (ped_var 7 (pv 7)) pac_nil))) (pac_d (ped_var 9 (pv 9)) pac_nil)))) (PEd.r (ped_neg (PEd.r ped_int))))))))
      (pssd_one (qs_if (ptd_w (pwd_or (ptd_cmp (op_neD hr.units) od_ne (PEn.r (ren_lc [("one", 14)] rfl rfl sc_law.nd (pid_seq (ped_var 12 (pv 12))) (blkOk_by (own := [("one", 14)]) (N := n_law) (sc := defScope s_law) (by decide +kernel)) (fun _ _ _ _ _ => (qg_name (i := 14) sc_law.nd rfl (Or.inl rfl))) (by decide) (fun _ _ _ _ _ => (ptsd_one (ptd_cmp (op_neD hr.units) od_ne (PEd.r (ped_var 14 (pv 14))) (PEd.r (ped_ix ix_seq od_ix (PEd.r (ped_var 12 (pv 12))) (PEd.r ped_int)))))) (fun _ _ _ _ _ => ped_int))) (PEn.r (pen_lst paf_nil))) (pwd_or1 (ptd_cmp (op_neD hr.units) od_ne (PEd.r (ped_op op_mod od_mod (PEd.r (ped_var 9 (pv 9))) (PEd.r (ped_call (ok_round_of T) (hr.mono (by decide)) (by rfl) T.g_round_of T.F_round_of.kp T.b_round_of (pac_d (ped_var 2 (pv 2)) pac_nil))))) (PEd.r ped_int))))) (pssd_one (qs_ret ped_bool)) pssd_nil))))))))))))
    have hr2 : PSsd (cxOf CX0 P w K mg base n_law "law" (defScope s_law) a.law cdv A outer s H E).nox (lawRest s_law) _ b_law_rest := (pssd_one (qs_ret ped_bool))
    exact ⟨_, pss_cons (ps_for PassesOwn.never rfl (pi_list (pe_call (ok_law_bags T) (hr.mono (by decide)) (by rfl) T.g_law_bags T.F_law_bags.kp T.b_law_bags .nil pass0 (pa_cons (pv 0) (pa_cons pe_int pa_nil)))) (pg_name (i := 1) sc_law.nd rfl (Or.inl rfl)) hb.ps) hr2.ps, Pd.rd_law (K := K) n_law 15 rfl 5 1 hb.s hr2.s (by decide) (by decide) (by decide) (by decide) rd_law_loop rd_law_rest h⟩
end
theorem all_mk {l : PySem.W.OpenLaw} {w : World} {K : PySem.W.Frag} {h : Heap} {mg : Str → Option Value} {fa : Addr} (X : K.In h) (G : h.Ns mainGlobals mg) (hfa : mg "law" = some (.ref fa))
    {f0 : Addr} {od0 an0 : Option Addr} {sl0 : Array (Option Value)} {oc0 kV0 dc0 pm0 cd0 ct0 : Value}
    (a0 : PySem.W.nsIn K mainGlobals "is_within" = some (some (.ref f0))) (l0 : K.lookup f0 = some ⟨oc0, od0, .func (PySem.W.fnOf "is_within" "is_within" (defArgs s_is_within) (defBody s_is_within) (defScope s_is_within) .none kV0 dc0 pm0 an0 cd0 ct0), sl0⟩) (c0 : PySem.W.codeIn K cd0 "is_within" = true) (k0 : PySem.W.keepIn K (.ref f0) = true)
    {f1 : Addr} {od1 an1 : Option Addr} {sl1 : Array (Option Value)} {oc1 kV1 dc1 pm1 cd1 ct1 : Value}
    (a1 : PySem.W.nsIn K mainGlobals "is_taker" = some (some (.ref f1))) (l1 : K.lookup f1 = some ⟨oc1, od1, .func (PySem.W.fnOf "is_taker" "is_taker" (defArgs s_is_taker) (defBody s_is_taker) (defScope s_is_taker) .none kV1 dc1 pm1 an1 cd1 ct1), sl1⟩) (c1 : PySem.W.codeIn K cd1 "is_taker" = true) (k1 : PySem.W.keepIn K (.ref f1) = true)
    {f2 : Addr} {od2 an2 : Option Addr} {sl2 : Array (Option Value)} {oc2 kV2 dc2 pm2 cd2 ct2 : Value}
    (a2 : PySem.W.nsIn K mainGlobals "is_row" = some (some (.ref f2))) (l2 : K.lookup f2 = some ⟨oc2, od2, .func (PySem.W.fnOf "is_row" "is_row" (defArgs s_is_row) (defBody s_is_row) (defScope s_is_row) .none kV2 dc2 pm2 an2 cd2 ct2), sl2⟩) (c2 : PySem.W.codeIn K cd2 "is_row" = true) (k2 : PySem.W.keepIn K (.ref f2) = true)
    {f3 : Addr} {od3 an3 : Option Addr} {sl3 : Array (Option Value)} {oc3 kV3 dc3 pm3 cd3 ct3 : Value}
    (a3 : PySem.W.nsIn K mainGlobals "need_row" = some (some (.ref f3))) (l3 : K.lookup f3 = some ⟨oc3, od3, .func (PySem.W.fnOf "need_row" "need_row" (defArgs s_need_row) (defBody s_need_row) (defScope s_need_row) .none kV3 dc3 pm3 an3 cd3 ct3), sl3⟩) (c3 : PySem.W.codeIn K cd3 "need_row" = true) (k3 : PySem.W.keepIn K (.ref f3) = true)
    {f4 : Addr} {od4 an4 : Option Addr} {sl4 : Array (Option Value)} {oc4 kV4 dc4 pm4 cd4 ct4 : Value}
    (a4 : PySem.W.nsIn K mainGlobals "need_number" = some (some (.ref f4))) (l4 : K.lookup f4 = some ⟨oc4, od4, .func (PySem.W.fnOf "need_number" "need_number" (defArgs s_need_number) (defBody s_need_number) (defScope s_need_number) .none kV4 dc4 pm4 an4 cd4 ct4), sl4⟩) (c4 : PySem.W.codeIn K cd4 "need_number" = true) (k4 : PySem.W.keepIn K (.ref f4) = true)
    {f5 : Addr} {od5 an5 : Option Addr} {sl5 : Array (Option Value)} {oc5 kV5 dc5 pm5 cd5 ct5 : Value}
    (a5 : PySem.W.nsIn K mainGlobals "counts" = some (some (.ref f5))) (l5 : K.lookup f5 = some ⟨oc5, od5, .func (PySem.W.fnOf "counts" "counts" (defArgs s_counts) (defBody s_counts) (defScope s_counts) .none kV5 dc5 pm5 an5 cd5 ct5), sl5⟩) (c5 : PySem.W.codeIn K cd5 "counts" = true) (k5 : PySem.W.keepIn K (.ref f5) = true)
    {f6 : Addr} {od6 an6 : Option Addr} {sl6 : Array (Option Value)} {oc6 kV6 dc6 pm6 cd6 ct6 : Value}
    (a6 : PySem.W.nsIn K mainGlobals "taken" = some (some (.ref f6))) (l6 : K.lookup f6 = some ⟨oc6, od6, .func (PySem.W.fnOf "taken" "taken" (defArgs s_taken) (defBody s_taken) (defScope s_taken) .none kV6 dc6 pm6 an6 cd6 ct6), sl6⟩) (c6 : PySem.W.codeIn K cd6 "taken" = true) (k6 : PySem.W.keepIn K (.ref f6) = true)
    {f7 : Addr} {od7 an7 : Option Addr} {sl7 : Array (Option Value)} {oc7 kV7 dc7 pm7 cd7 ct7 : Value}
    (a7 : PySem.W.nsIn K mainGlobals "all_orders" = some (some (.ref f7))) (l7 : K.lookup f7 = some ⟨oc7, od7, .func (PySem.W.fnOf "all_orders" "all_orders" (defArgs s_all_orders) (defBody s_all_orders) (defScope s_all_orders) .none kV7 dc7 pm7 an7 cd7 ct7), sl7⟩) (c7 : PySem.W.codeIn K cd7 "all_orders" = true) (k7 : PySem.W.keepIn K (.ref f7) = true)
    {f8 : Addr} {od8 an8 : Option Addr} {sl8 : Array (Option Value)} {oc8 kV8 dc8 pm8 cd8 ct8 : Value}
    (a8 : PySem.W.nsIn K mainGlobals "orders_for" = some (some (.ref f8))) (l8 : K.lookup f8 = some ⟨oc8, od8, .func (PySem.W.fnOf "orders_for" "orders_for" (defArgs s_orders_for) (defBody s_orders_for) (defScope s_orders_for) .none kV8 dc8 pm8 an8 cd8 ct8), sl8⟩) (c8 : PySem.W.codeIn K cd8 "orders_for" = true) (k8 : PySem.W.keepIn K (.ref f8) = true)
    {f9 : Addr} {od9 an9 : Option Addr} {sl9 : Array (Option Value)} {oc9 kV9 dc9 pm9 cd9 ct9 : Value}
    (a9 : PySem.W.nsIn K mainGlobals "common" = some (some (.ref f9))) (l9 : K.lookup f9 = some ⟨oc9, od9, .func (PySem.W.fnOf "common" "common" (defArgs s_common) (defBody s_common) (defScope s_common) .none kV9 dc9 pm9 an9 cd9 ct9), sl9⟩) (c9 : PySem.W.codeIn K cd9 "common" = true) (k9 : PySem.W.keepIn K (.ref f9) = true)
    {f10 : Addr} {od10 an10 : Option Addr} {sl10 : Array (Option Value)} {oc10 kV10 dc10 pm10 cd10 ct10 : Value}
    (a10 : PySem.W.nsIn K mainGlobals "round_of" = some (some (.ref f10))) (l10 : K.lookup f10 = some ⟨oc10, od10, .func (PySem.W.fnOf "round_of" "round_of" (defArgs s_round_of) (defBody s_round_of) (defScope s_round_of) .none kV10 dc10 pm10 an10 cd10 ct10), sl10⟩) (c10 : PySem.W.codeIn K cd10 "round_of" = true) (k10 : PySem.W.keepIn K (.ref f10) = true)
    {f11 : Addr} {od11 an11 : Option Addr} {sl11 : Array (Option Value)} {oc11 kV11 dc11 pm11 cd11 ct11 : Value}
    (a11 : PySem.W.nsIn K mainGlobals "_law_cell_at" = some (some (.ref f11))) (l11 : K.lookup f11 = some ⟨oc11, od11, .func (PySem.W.fnOf "_law_cell_at" "_law_cell_at" (defArgs s_law_cell_at) (defBody s_law_cell_at) (defScope s_law_cell_at) .none kV11 dc11 pm11 an11 cd11 ct11), sl11⟩) (c11 : PySem.W.codeIn K cd11 "_law_cell_at" = true) (k11 : PySem.W.keepIn K (.ref f11) = true)
    {f12 : Addr} {od12 an12 : Option Addr} {sl12 : Array (Option Value)} {oc12 kV12 dc12 pm12 cd12 ct12 : Value}
    (a12 : PySem.W.nsIn K mainGlobals "_law_draws" = some (some (.ref f12))) (l12 : K.lookup f12 = some ⟨oc12, od12, .func (PySem.W.fnOf "_law_draws" "_law_draws" (defArgs s_law_draws) (defBody s_law_draws) (defScope s_law_draws) .none kV12 dc12 pm12 an12 cd12 ct12), sl12⟩) (c12 : PySem.W.codeIn K cd12 "_law_draws" = true) (k12 : PySem.W.keepIn K (.ref f12) = true)
    {f13 : Addr} {od13 an13 : Option Addr} {sl13 : Array (Option Value)} {oc13 kV13 dc13 pm13 cd13 ct13 : Value}
    (a13 : PySem.W.nsIn K mainGlobals "_law_bag" = some (some (.ref f13))) (l13 : K.lookup f13 = some ⟨oc13, od13, .func (PySem.W.fnOf "_law_bag" "_law_bag" (defArgs s_law_bag) (defBody s_law_bag) (defScope s_law_bag) .none kV13 dc13 pm13 an13 cd13 ct13), sl13⟩) (c13 : PySem.W.codeIn K cd13 "_law_bag" = true) (k13 : PySem.W.keepIn K (.ref f13) = true)
    {f14 : Addr} {od14 an14 : Option Addr} {sl14 : Array (Option Value)} {oc14 kV14 dc14 pm14 cd14 ct14 : Value}
    (a14 : PySem.W.nsIn K mainGlobals "_law_bags" = some (some (.ref f14))) (l14 : K.lookup f14 = some ⟨oc14, od14, .func (PySem.W.fnOf "_law_bags" "_law_bags" (defArgs s_law_bags) (defBody s_law_bags) (defScope s_law_bags) .none kV14 dc14 pm14 an14 cd14 ct14), sl14⟩) (c14 : PySem.W.codeIn K cd14 "_law_bags" = true) (k14 : PySem.W.keepIn K (.ref f14) = true)
    {f15 : Addr} {od15 an15 : Option Addr} {sl15 : Array (Option Value)} {oc15 kV15 dc15 pm15 cd15 ct15 : Value}
    (a15 : PySem.W.nsIn K mainGlobals "_law_take" = some (some (.ref f15))) (l15 : K.lookup f15 = some ⟨oc15, od15, .func (PySem.W.fnOf "_law_take" "_law_take" (defArgs s_law_take) (defBody s_law_take) (defScope s_law_take) .none kV15 dc15 pm15 an15 cd15 ct15), sl15⟩) (c15 : PySem.W.codeIn K cd15 "_law_take" = true) (k15 : PySem.W.keepIn K (.ref f15) = true)
    {f16 : Addr} {od16 an16 : Option Addr} {sl16 : Array (Option Value)} {oc16 kV16 dc16 pm16 cd16 ct16 : Value}
    (a16 : PySem.W.nsIn K mainGlobals "_law_far_draw" = some (some (.ref f16))) (l16 : K.lookup f16 = some ⟨oc16, od16, .func (PySem.W.fnOf "_law_far_draw" "_law_far_draw" (defArgs s_law_far_draw) (defBody s_law_far_draw) (defScope s_law_far_draw) .none kV16 dc16 pm16 an16 cd16 ct16), sl16⟩) (c16 : PySem.W.codeIn K cd16 "_law_far_draw" = true) (k16 : PySem.W.keepIn K (.ref f16) = true)
    {f17 : Addr} {od17 an17 : Option Addr} {sl17 : Array (Option Value)} {oc17 kV17 dc17 pm17 cd17 ct17 : Value}
    (a17 : PySem.W.nsIn K mainGlobals "_law_mixed" = some (some (.ref f17))) (l17 : K.lookup f17 = some ⟨oc17, od17, .func (PySem.W.fnOf "_law_mixed" "_law_mixed" (defArgs s_law_mixed) (defBody s_law_mixed) (defScope s_law_mixed) .none kV17 dc17 pm17 an17 cd17 ct17), sl17⟩) (c17 : PySem.W.codeIn K cd17 "_law_mixed" = true) (k17 : PySem.W.keepIn K (.ref f17) = true)
    {f18 : Addr} {od18 an18 : Option Addr} {sl18 : Array (Option Value)} {oc18 kV18 dc18 pm18 cd18 ct18 : Value}
    (a18 : PySem.W.nsIn K mainGlobals "_law_taker" = some (some (.ref f18))) (l18 : K.lookup f18 = some ⟨oc18, od18, .func (PySem.W.fnOf "_law_taker" "_law_taker" (defArgs s_law_taker) (defBody s_law_taker) (defScope s_law_taker) .none kV18 dc18 pm18 an18 cd18 ct18), sl18⟩) (c18 : PySem.W.codeIn K cd18 "_law_taker" = true) (k18 : PySem.W.keepIn K (.ref f18) = true)
    {f19 : Addr} {od19 an19 : Option Addr} {sl19 : Array (Option Value)} {oc19 kV19 dc19 pm19 cd19 ct19 : Value}
    (a19 : PySem.W.nsIn K mainGlobals "_law_drawn_row" = some (some (.ref f19))) (l19 : K.lookup f19 = some ⟨oc19, od19, .func (PySem.W.fnOf "_law_drawn_row" "_law_drawn_row" (defArgs s_law_drawn_row) (defBody s_law_drawn_row) (defScope s_law_drawn_row) .none kV19 dc19 pm19 an19 cd19 ct19), sl19⟩) (c19 : PySem.W.codeIn K cd19 "_law_drawn_row" = true) (k19 : PySem.W.keepIn K (.ref f19) = true)
    {f20 : Addr} {od20 an20 : Option Addr} {sl20 : Array (Option Value)} {oc20 kV20 dc20 pm20 cd20 ct20 : Value}
    (a20 : PySem.W.nsIn K mainGlobals "_law_all_orders" = some (some (.ref f20))) (l20 : K.lookup f20 = some ⟨oc20, od20, .func (PySem.W.fnOf "_law_all_orders" "_law_all_orders" (defArgs s_law_all_orders) (defBody s_law_all_orders) (defScope s_law_all_orders) .none kV20 dc20 pm20 an20 cd20 ct20), sl20⟩) (c20 : PySem.W.codeIn K cd20 "_law_all_orders" = true) (k20 : PySem.W.keepIn K (.ref f20) = true)
    {f21 : Addr} {od21 an21 : Option Addr} {sl21 : Array (Option Value)} {oc21 kV21 dc21 pm21 cd21 ct21 : Value}
    (a21 : PySem.W.nsIn K mainGlobals "_law_stood" = some (some (.ref f21))) (l21 : K.lookup f21 = some ⟨oc21, od21, .func (PySem.W.fnOf "_law_stood" "_law_stood" (defArgs s_law_stood) (defBody s_law_stood) (defScope s_law_stood) .none kV21 dc21 pm21 an21 cd21 ct21), sl21⟩) (c21 : PySem.W.codeIn K cd21 "_law_stood" = true) (k21 : PySem.W.keepIn K (.ref f21) = true)
    {f22 : Addr} {od22 an22 : Option Addr} {sl22 : Array (Option Value)} {oc22 kV22 dc22 pm22 cd22 ct22 : Value}
    (a22 : PySem.W.nsIn K mainGlobals "law" = some (some (.ref f22))) (l22 : K.lookup f22 = some ⟨oc22, od22, .func (PySem.W.fnOf "law" "law" (defArgs s_law) (defBody s_law) (defScope s_law) .none kV22 dc22 pm22 an22 cd22 ct22), sl22⟩) (c22 : PySem.W.codeIn K cd22 "law" = true) (k22 : PySem.W.keepIn K (.ref f22) = true)
    (z_all : PySem.W.nsIn K mainGlobals "all" = some none)
    (z_bool : PySem.W.nsIn K mainGlobals "bool" = some none)
    (z_enumerate : PySem.W.nsIn K mainGlobals "enumerate" = some none)
    (z_int : PySem.W.nsIn K mainGlobals "int" = some none)
    (z_isinstance : PySem.W.nsIn K mainGlobals "isinstance" = some none)
    (z_len : PySem.W.nsIn K mainGlobals "len" = some none)
    (z_list : PySem.W.nsIn K mainGlobals "list" = some none)
    (z_max : PySem.W.nsIn K mainGlobals "max" = some none)
    (z_min : PySem.W.nsIn K mainGlobals "min" = some none)
    (z_range : PySem.W.nsIn K mainGlobals "range" = some none)
    (z_set : PySem.W.nsIn K mainGlobals "set" = some none)
    (z_sorted : PySem.W.nsIn K mainGlobals "sorted" = some none)
    (z_tuple : PySem.W.nsIn K mainGlobals "tuple" = some none)
    {t_FAR : Tok} (q_FAR : PySem.W.nsIn K mainGlobals "FAR" = some (some (.int 1000000000000000000 t_FAR)))
    {t_MOST : Tok} (q_MOST : PySem.W.nsIn K mainGlobals "MOST" = some (some (.int 6 t_MOST)))
    : ∃ fd : FuncData, (∀ (s : Shared) (v : Value), BindsTo s fd ⟨[v], []⟩ [("script", v)]) ∧ ∀ base : Heap, K.In base → base.Ns mainGlobals mg → FnOk l.prog w K mg base CX0 6 fa fd ["script"] (Pd.spLaw K) := by
  have e := hfa.symm.trans (PySem.W.mg_of X G a22)
  cases e
  have F0 := fun_mk (st := s_is_within) l0 c0 k0
  have b0 := F0.binds (ps := ["thing", "low", "high"]) fun _ _ _ _ _ _ us hl => match us, hl with | [_, _, _], _ => rfl
  have F1 := fun_mk (st := s_is_taker) l1 c1 k1
  have b1 := F1.binds (ps := ["thing"]) fun _ _ _ _ _ _ us hl => match us, hl with | [_], _ => rfl
  have F2 := fun_mk (st := s_is_row) l2 c2 k2
  have b2 := F2.binds (ps := ["thing"]) fun _ _ _ _ _ _ us hl => match us, hl with | [_], _ => rfl
  have F3 := fun_mk (st := s_need_row) l3 c3 k3
  have b3 := F3.binds (ps := ["row"]) fun _ _ _ _ _ _ us hl => match us, hl with | [_], _ => rfl
  have F4 := fun_mk (st := s_need_number) l4 c4 k4
  have b4 := F4.binds (ps := ["number", "low", "high"]) fun _ _ _ _ _ _ us hl => match us, hl with | [_, _, _], _ => rfl
  have F5 := fun_mk (st := s_counts) l5 c5 k5
  have b5 := F5.binds (ps := ["row", "number"]) fun _ _ _ _ _ _ us hl => match us, hl with | [_, _], _ => rfl
  have F6 := fun_mk (st := s_taken) l6 c6 k6
  have b6 := F6.binds (ps := ["row", "number"]) fun _ _ _ _ _ _ us hl => match us, hl with | [_, _], _ => rfl
  have F7 := fun_mk (st := s_all_orders) l7 c7 k7
  have b7 := F7.binds (ps := ["many"]) fun _ _ _ _ _ _ us hl => match us, hl with | [_], _ => rfl
  have F8 := fun_mk (st := s_orders_for) l8 c8 k8
  have b8 := F8.binds (ps := ["row", "number", "told"]) fun _ _ _ _ _ _ us hl => match us, hl with | [_, _, _], _ => rfl
  have F9 := fun_mk (st := s_common) l9 c9 k9
  have b9 := F9.binds (ps := ["one", "other"]) fun _ _ _ _ _ _ us hl => match us, hl with | [_, _], _ => rfl
  have F10 := fun_mk (st := s_round_of) l10 c10 k10
  have b10 := F10.binds (ps := ["row"]) fun _ _ _ _ _ _ us hl => match us, hl with | [_], _ => rfl
  have F11 := fun_mk (st := s_law_cell_at) l11 c11 k11
  have b11 := F11.binds (ps := ["script", "k"]) fun _ _ _ _ _ _ us hl => match us, hl with | [_, _], _ => rfl
  have F12 := fun_mk (st := s_law_draws) l12 c12 k12
  have b12 := F12.binds (ps := ["cell", "many", "size"]) fun _ _ _ _ _ _ us hl => match us, hl with | [_, _, _], _ => rfl
  have F13 := fun_mk (st := s_law_bag) l13 c13 k13
  have b13 := F13.binds (ps := ["script", "k"]) fun _ _ _ _ _ _ us hl => match us, hl with | [_, _], _ => rfl
  have F14 := fun_mk (st := s_law_bags) l14 c14 k14
  have b14 := F14.binds (ps := ["script", "limit"]) fun _ _ _ _ _ _ us hl => match us, hl with | [_, _], _ => rfl
  have F15 := fun_mk (st := s_law_take) l15 c15 k15
  have b15 := F15.binds (ps := ["bag", "many"]) fun _ _ _ _ _ _ us hl => match us, hl with | [_, _], _ => rfl
  have F16 := fun_mk (st := s_law_far_draw) l16 c16 k16
  have b16 := F16.binds (ps := ["bag", "many"]) fun _ _ _ _ _ _ us hl => match us, hl with | [_, _], _ => rfl
  have F17 := fun_mk (st := s_law_mixed) l17 c17 k17
  have b17 := F17.binds (ps := ["bag", "many"]) fun _ _ _ _ _ _ us hl => match us, hl with | [_, _], _ => rfl
  have F18 := fun_mk (st := s_law_taker) l18 c18 k18
  have b18 := F18.binds (ps := ["bag", "far"]) fun _ _ _ _ _ _ us hl => match us, hl with | [_, _], _ => rfl
  have F19 := fun_mk (st := s_law_drawn_row) l19 c19 k19
  have b19 := F19.binds (ps := ["bag", "takers", "far"]) fun _ _ _ _ _ _ us hl => match us, hl with | [_, _, _], _ => rfl
  have F20 := fun_mk (st := s_law_all_orders) l20 c20 k20
  have b20 := F20.binds (ps := ["many"]) fun _ _ _ _ _ _ us hl => match us, hl with | [_], _ => rfl
  have F21 := fun_mk (st := s_law_stood) l21 c21 k21
  have b21 := F21.binds (ps := ["house", "order"]) fun _ _ _ _ _ _ us hl => match us, hl with | [_, _], _ => rfl
  have F22 := fun_mk (st := s_law) l22 c22 k22
  have b22 := F22.binds (ps := ["script"]) fun _ _ _ _ _ _ us hl => match us, hl with | [_], _ => rfl
  have T : Txt K mg ⟨f0, f1, f2, f3, f4, f5, f6, f7, f8, f9, f10, f11, f12, f13, f14, f15, f16, f17, f18, f19, f20, f21, _, t_FAR, t_MOST⟩ ⟨_, _, _, _, _, _, _, _, _, _, _, _, _, _, _, _, _, _, _, _, _, _, _⟩ := ⟨F0, PySem.W.mg_of X G a0, b0, F1, PySem.W.mg_of X G a1, b1, F2, PySem.W.mg_of X G a2, b2, F3, PySem.W.mg_of X G a3, b3, F4, PySem.W.mg_of X G a4, b4, F5, PySem.W.mg_of X G a5, b5, F6, PySem.W.mg_of X G a6, b6, F7, PySem.W.mg_of X G a7, b7, F8, PySem.W.mg_of X G a8, b8, F9, PySem.W.mg_of X G a9, b9, F10, PySem.W.mg_of X G a10, b10, F11, PySem.W.mg_of X G a11, b11, F12, PySem.W.mg_of X G a12, b12, F13, PySem.W.mg_of X G a13, b13, F14, PySem.W.mg_of X G a14, b14, F15, PySem.W.mg_of X G a15, b15, F16, PySem.W.mg_of X G a16, b16, F17, PySem.W.mg_of X G a17, b17, F18, PySem.W.mg_of X G a18, b18, F19, PySem.W.mg_of X G a19, b19, F20, PySem.W.mg_of X G a20, b20, F21, PySem.W.mg_of X G a21, b21, F22, PySem.W.mg_of X G a22, b22, PySem.W.mg_none_of X G z_all, PySem.W.mg_none_of X G z_bool, PySem.W.mg_none_of X G z_enumerate, PySem.W.mg_none_of X G z_int, PySem.W.mg_none_of X G z_isinstance, PySem.W.mg_none_of X G z_len, PySem.W.mg_none_of X G z_list, PySem.W.mg_none_of X G z_max, PySem.W.mg_none_of X G z_min, PySem.W.mg_none_of X G z_range, PySem.W.mg_none_of X G z_set, PySem.W.mg_none_of X G z_sorted, PySem.W.mg_none_of X G z_tuple, PySem.W.mg_of X G q_FAR, PySem.W.mg_of X G q_MOST⟩
  exact ⟨_, fun s v => .of_eq rfl, fun base _ _ => ok_law T⟩
theorem walk {l : PySem.W.OpenLaw} {q : Program} {loose : List Str} {XP : (Str → Option Value) → Heap → Prop} {YP : World → Heap → Prop} {d : DefRec} {K : Params → PySem.W.Frag} (hn : l.most = some 63) (hdf : d.params.defaults = [])
    (hY : ∀ (w : World) (h : Heap), YP w h → (K w.params).In h)
    (F : ∀ (w : World) (mg : Str → Option Value) (fa : Addr) (h : Heap), (K w.params).In h → h.Ns mainGlobals mg → mg d.name = some (.ref fa) →
      ∃ fd : FuncData, (∀ (s : Shared) (u : Value), BindsTo s fd ⟨[u], []⟩ [("script", u)]) ∧ ∀ base : Heap, (K w.params).In base → base.Ns mainGlobals mg → FnOk l.prog w (K w.params) mg base CX0 6 fa fd ["script"] (Pd.spLaw (K w.params))) :
    PySem.W.WalkO q loose XP YP l.row.toRowW d [] (fun f vs => PySem.call f vs) :=
  L2.walk_of (n := 63) (k := 6) (x := "script") (CX := fun _ => CX0) (sp := fun w => Pd.spLaw (K w.params)) hn (by decide) hdf ⟨rfl, by decide, by decide⟩ hY F (fun _ _ a ns hl _ hS => ⟨a, ns, rfl, hS, hl, fun _ => rfl⟩) fun _ _ _ _ _ z => z
end Lw

open PySem PySem.W PyProof.Rows in
set_option maxRecDepth 100000 in
set_option maxHeartbeats 0 in
theorem PySem.Challenge.cw_takenth_k14_whole_orders_and_what_is_lef_holds : PySem.Challenge.rw_takenth_k14_whole_orders_and_what_is_lef.Holds := by
  w_on; o_law; k_head; (case hw => w_witness2)
  k_fill
  refine Lw.walk (l := PySem.Challenge.rw_takenth_k14_whole_orders_and_what_is_lef) rfl rfl (fun w h Y => PySem.W.kIn_of Y) ?F
  case F =>
    intro w mg fa h KX G hmg
    refine' Lw.all_mk KX G hmg ?a0 ?l0 ?c0 ?k0 ?a1 ?l1 ?c1 ?k1 ?a2 ?l2 ?c2 ?k2 ?a3 ?l3 ?c3 ?k3 ?a4 ?l4 ?c4 ?k4 ?a5 ?l5 ?c5 ?k5 ?a6 ?l6 ?c6 ?k6 ?a7 ?l7 ?c7 ?k7 ?a8 ?l8 ?c8 ?k8 ?a9 ?l9 ?c9 ?k9 ?a10 ?l10 ?c10 ?k10 ?a11 ?l11 ?c11 ?k11 ?a12 ?l12 ?c12 ?k12 ?a13 ?l13 ?c13 ?k13 ?a14 ?l14 ?c14 ?k14 ?a15 ?l15 ?c15 ?k15 ?a16 ?l16 ?c16 ?k16 ?a17 ?l17 ?c17 ?k17 ?a18 ?l18 ?c18 ?k18 ?a19 ?l19 ?c19 ?k19 ?a20 ?l20 ?c20 ?k20 ?a21 ?l21 ?c21 ?k21 ?a22 ?l22 ?c22 ?k22 ?z_all ?z_bool ?z_enumerate ?z_int ?z_isinstance ?z_len ?z_list ?z_max ?z_min ?z_range ?z_set ?z_sorted ?z_tuple ?q_FAR ?q_MOST
    (case a0 => k_is)
    (case l0 => k_is)
    (case c0 => k_is)
    (case k0 => k_is)
    (case a1 => k_is)
    (case l1 => k_is)
    (case c1 => k_is)
    (case k1 => k_is)
    (case a2 => k_is)
    (case l2 => k_is)
    (case c2 => k_is)
    (case k2 => k_is)
    (case a3 => k_is)
    (case l3 => k_is)
    (case c3 => k_is)
    (case k3 => k_is)
    (case a4 => k_is)
    (case l4 => k_is)
    (case c4 => k_is)
    (case k4 => k_is)
    (case a5 => k_is)
    (case l5 => k_is)
    (case c5 => k_is)
    (case k5 => k_is)
    (case a6 => k_is)
    (case l6 => k_is)
    (case c6 => k_is)
    (case k6 => k_is)
    (case a7 => k_is)
    (case l7 => k_is)
    (case c7 => k_is)
    (case k7 => k_is)
    (case a8 => k_is)
    (case l8 => k_is)
    (case c8 => k_is)
    (case k8 => k_is)
    (case a9 => k_is)
    (case l9 => k_is)
    (case c9 => k_is)
    (case k9 => k_is)
    (case a10 => k_is)
    (case l10 => k_is)
    (case c10 => k_is)
    (case k10 => k_is)
    (case a11 => k_is)
    (case l11 => k_is)
    (case c11 => k_is)
    (case k11 => k_is)
    (case a12 => k_is)
    (case l12 => k_is)
    (case c12 => k_is)
    (case k12 => k_is)
    (case a13 => k_is)
    (case l13 => k_is)
    (case c13 => k_is)
    (case k13 => k_is)
    (case a14 => k_is)
    (case l14 => k_is)
    (case c14 => k_is)
    (case k14 => k_is)
    (case a15 => k_is)
    (case l15 => k_is)
    (case c15 => k_is)
    (case k15 => k_is)
    (case a16 => k_is)
    (case l16 => k_is)
    (case c16 => k_is)
    (case k16 => k_is)
    (case a17 => k_is)
    (case l17 => k_is)
    (case c17 => k_is)
    (case k17 => k_is)
    (case a18 => k_is)
    (case l18 => k_is)
    (case c18 => k_is)
    (case k18 => k_is)
    (case a19 => k_is)
    (case l19 => k_is)
    (case c19 => k_is)
    (case k19 => k_is)
    (case a20 => k_is)
    (case l20 => k_is)
    (case c20 => k_is)
    (case k20 => k_is)
    (case a21 => k_is)
    (case l21 => k_is)
    (case c21 => k_is)
    (case k21 => k_is)
    (case a22 => k_is)
    (case l22 => k_is)
    (case c22 => k_is)
    (case k22 => k_is)
    (case z_all => k_is)
    (case z_bool => k_is)
    (case z_enumerate => k_is)
    (case z_int => k_is)
    (case z_isinstance => k_is)
    (case z_len => k_is)
    (case z_list => k_is)
    (case z_max => k_is)
    (case z_min => k_is)
    (case z_range => k_is)
    (case z_set => k_is)
    (case z_sorted => k_is)
    (case z_tuple => k_is)
    (case q_FAR => k_is)
    (case q_MOST => k_is)
