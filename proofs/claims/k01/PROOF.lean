import PyProof.Rows.All
import Wide.All
import OpenK.AllK
import Wide.FinOn
import HandS.ForMost
import HandS.Evl
import HandS.Deep
import HandS.TupAny
import HandS.TupMul
import HandS.Conv
import HandS.IsInst
import HandS.Wide
import HandS.Style
import HandS.Flow
import HandS.SortInts
import KE.GoesMore
import HandS.More
import KE.GoesEnum
import PySem.Challenge.RW_takenth_k01_rows_known
set_option Elab.async false
set_option linter.all false
set_option maxRecDepth 100000
set_option maxHeartbeats 4000000
set_option maxRecDepth 100000
set_option maxHeartbeats 4000000
/-! A layer of plain data over the hand layer: frozen data (Dt), owned lists, the bag of draws; readings over plain data. -/
namespace Pd
open PySem L2
open Evl (Ex)

/-! ### frozen data -/
mutual
inductive Dt (F : Hp) : V → PyData → Prop
  | non : Dt F .non .none
  | bl (b : Bool) : Dt F (.bl b) (.bool b)
  | int (i : Int) : Dt F (.int i) (.int i)
  | str (x : Str) : Dt F (.str x) (.str x)
  | lst {a : Addr} {xs : List V} {ds : List PyData} : F a = some (.lst xs) → DtA F xs ds → Dt F (.ref a) (.list ds)
  | tup {a : Addr} {xs : List V} {ds : List PyData} : F a = some (.tup xs) → DtA F xs ds → Dt F (.ref a) (.tuple ds)
inductive DtA (F : Hp) : List V → List PyData → Prop
  | nil : DtA F [] []
  | cons {v : V} {vs : List V} {d : PyData} {ds : List PyData} : Dt F v d → DtA F vs ds → DtA F (v :: vs) (d :: ds)
end

section
variable {F F' H : Hp}
mutual
theorem Dt.mono (e : Ex F F') : ∀ (d : PyData) (v : V), Dt F v d → Dt F' v d
  | .none, _, h => by cases h; exact .non
  | .bool b, _, h => by cases h; exact .bl b
  | .int i, _, h => by cases h; exact .int i
  | .str x, _, h => by cases h; exact .str x
  | .list ds, _, h => by
    cases h with
    | lst ha hs => exact .lst (e _ _ ha) (DtA.mono e ds _ hs)
  | .tuple ds, _, h => by
    cases h with
    | tup ha hs => exact .tup (e _ _ ha) (DtA.mono e ds _ hs)
  | .dict _, _, h => by cases h
theorem DtA.mono (e : Ex F F') : ∀ (ds : List PyData) (vs : List V), DtA F vs ds → DtA F' vs ds
  | [], _, h => by cases h; exact .nil
  | d :: ds, _, h => by
    cases h with
    | cons h1 h2 => exact .cons (Dt.mono e d _ h1) (DtA.mono e ds _ h2)
end
theorem Dt.up {v : V} {d : PyData} (h : Dt F v d) (e : Ex F F') : Dt F' v d := Dt.mono e d v h
theorem DtA.up {vs : List V} {ds : List PyData} (h : DtA F vs ds) (e : Ex F F') : DtA F' vs ds := DtA.mono e ds vs h
mutual
theorem Dt.dp0 {K : PySem.W.Frag} : ∀ (d : PyData) (v : V), Dt H v d → Dp K H v d
  | .none, _, h => by cases h; exact .non
  | .bool b, _, h => by cases h; exact .bl b
  | .int i, _, h => by cases h; exact .int i
  | .str x, _, h => by cases h; exact .str x
  | .list ds, _, h => by
    cases h with
    | lst ha hs => exact .lst (SqL.of ha) (DtA.dp0 ds _ hs)
  | .tuple ds, _, h => by
    cases h with
    | tup ha hs => exact .tup (SqT.of ha) (DtA.dp0 ds _ hs)
  | .dict _, _, h => by cases h
theorem DtA.dp0 {K : PySem.W.Frag} : ∀ (ds : List PyData) (vs : List V), DtA H vs ds → DpAll K H vs ds
  | [], _, h => by cases h; exact .nil
  | d :: ds, _, h => by
    cases h with
    | cons h1 h2 => exact .cons (Dt.dp0 d _ h1) (DtA.dp0 ds _ h2)
end
theorem Dt.dp {K : PySem.W.Frag} {v : V} {d : PyData} (h : Dt H v d) : Dp K H v d := Dt.dp0 d v h

theorem DtA.len : ∀ {vs : List V} {ds : List PyData}, DtA F vs ds → vs.length = ds.length
  | _, _, .nil => rfl
  | _, _, .cons _ t => by rw [List.length_cons, List.length_cons, DtA.len t]
theorem DtA.get : ∀ {vs : List V} {ds : List PyData} {i : Nat} {d : PyData}, DtA F vs ds → ds[i]? = some d → ∃ v, vs[i]? = some v ∧ Dt F v d
  | _, _, _, _, .nil, e => by simp at e
  | _, _, 0, _, .cons r _, e => by
    simp at e
    subst e
    exact ⟨_, rfl, r⟩
  | _, _, i + 1, d, .cons _ t, e => by
    obtain ⟨u, h1, h2⟩ := DtA.get (i := i) (d := d) t (by simpa using e)
    exact ⟨u, by simpa using h1, h2⟩
theorem DtA.getV : ∀ {vs : List V} {ds : List PyData} {i : Nat} {v : V}, DtA F vs ds → vs[i]? = some v → ∃ d, ds[i]? = some d ∧ Dt F v d
  | _, _, _, _, .nil, e => by simp at e
  | _, _, 0, _, .cons r _, e => by
    simp at e
    subst e
    exact ⟨_, rfl, r⟩
  | _, _, i + 1, v, .cons _ t, e => by
    obtain ⟨u, h1, h2⟩ := DtA.getV (i := i) (v := v) t (by simpa using e)
    exact ⟨u, by simpa using h1, h2⟩
theorem DtA.app : ∀ {vs ws : List V} {ds es : List PyData}, DtA F vs ds → DtA F ws es → DtA F (vs ++ ws) (ds ++ es)
  | _, _, _, _, .nil, s => s
  | _, _, _, _, .cons r t, s => .cons r (DtA.app t s)
theorem DtA.take : ∀ {vs : List V} {ds : List PyData} (n : Nat), DtA F vs ds → DtA F (vs.take n) (ds.take n)
  | _, _, 0, _ => .nil
  | _, _, _ + 1, .nil => .nil
  | _, _, n + 1, .cons r t => .cons r (DtA.take n t)
theorem DtA.drop : ∀ {vs : List V} {ds : List PyData} (n : Nat), DtA F vs ds → DtA F (vs.drop n) (ds.drop n)
  | _, _, 0, r => r
  | _, _, _ + 1, .nil => .nil
  | _, _, n + 1, .cons _ t => DtA.drop n t
theorem DtA.set {v : V} {d : PyData} (r : Dt F v d) : ∀ {vs : List V} {ds : List PyData} (i : Nat), DtA F vs ds → DtA F (vs.set i v) (ds.set i d)
  | _, _, _, .nil => .nil
  | _, _, 0, .cons _ t => .cons r t
  | _, _, i + 1, .cons q t => .cons q (DtA.set r i t)
theorem DtA.rev : ∀ {vs : List V} {ds : List PyData}, DtA F vs ds → DtA F vs.reverse ds.reverse
  | _, _, .nil => .nil
  | _, _, .cons r t => by
    rw [List.reverse_cons, List.reverse_cons]
    exact DtA.app (DtA.rev t) (.cons r .nil)
theorem DtA.ints : ∀ {vs : List V} {ns : List Int}, DtA F vs (ns.map PyData.int) → vs = ns.map V.int
  | _, [], h => by cases h; rfl
  | _, n :: ns, h => by
    cases h with
    | cons h1 h2 =>
      cases h1
      rw [DtA.ints h2]
      rfl
theorem DtA.of_ints : ∀ (ns : List Int), DtA F (ns.map V.int) (ns.map PyData.int)
  | [] => .nil
  | n :: ns => .cons (.int n) (DtA.of_ints ns)
theorem DtA.bools : ∀ {vs : List V} {bs : List Bool}, DtA F vs (bs.map PyData.bool) → vs = bs.map V.bl
  | _, [], h => by cases h; rfl
  | _, n :: ns, h => by
    cases h with
    | cons h1 h2 =>
      cases h1
      rw [DtA.bools h2]
      rfl
end

/-! ### the frame's base, how heaps grow, the bag -/
/-- at a def's entry: the heap, its frozen part, the bags that may change -/
structure Bs where
  H : Hp
  F : Hp
  fp : Addr → Prop
/-- a bag of draws -/
def BagAt (F H : Hp) (b : Addr) : Prop := ∃ (l : Addr) (n : Int) (ns : List Int), H b = some (.lst [.ref l, .int n]) ∧ 0 ≤ n ∧ F l = some (.lst (ns.map V.int)) ∧ ns.length = 400 ∧ ∀ x ∈ ns, 0 ≤ x ∧ x < 1000

structure Grow (B : Bs) (F H : Hp) : Prop where
  fh : Ex F H
  bf : Ex B.F F
  keep : ∀ a o, ¬ B.fp a → B.H a = some o → H a = some o
  nofr : ∀ a o, B.H a = some o → B.F a = none → F a = none
  bag : ∀ b, B.fp b → BagAt F H b
  fpn : ∀ b, B.fp b → B.F b = none ∧ ∃ o, B.H b = some o

theorem upd_some {H : Hp} {p a : Addr} {o u : HO} (h : H p = none) (e : H a = some u) : upd H p o a = some u := by
  rw [upd_ne (ne_of_none e h)]
  exact e
theorem Ex.upd2 {F H : Hp} {p : Addr} {o : HO} (e : Ex F H) : Ex (upd F p o) (upd H p o) := fun a u h => by
  by_cases ha : a = p
  · subst ha
    rw [upd_same] at h ⊢
    exact h
  · rw [upd_ne ha] at h ⊢
    exact e a u h
theorem Ex.none {F H : Hp} {p : Addr} (e : Ex F H) (h : H p = Option.none) : F p = Option.none := Evl.fresh_back e h

theorem BagAt.mono {F F' H H' : Hp} {b : Addr} (h : BagAt F H b) (e : Ex F F') (eh : ∀ o, H b = some o → H' b = some o) : BagAt F' H' b := by
  obtain ⟨l, n, ns, h1, h2, h3, h4, h5⟩ := h
  exact ⟨l, n, ns, eh _ h1, h2, e _ _ h3, h4, h5⟩

section
variable {B : Bs} {F H F' H' : Hp}
/-- what stood at the entry stands -/
theorem Grow.there (g : Grow B F H) {a : Addr} {o : HO} (h : B.H a = some o) : ∃ u, H a = some u := by
  by_cases hf : B.fp a
  · obtain ⟨l, n, ns, h1, _⟩ := g.bag a hf
    exact ⟨_, h1⟩
  · exact ⟨o, g.keep a o hf h⟩
theorem Grow.new0 (g : Grow B F H) {p : Addr} (hp : H p = none) : B.H p = none := by
  cases e : B.H p with
  | none => rfl
  | some o =>
    obtain ⟨u, q⟩ := g.there e
    rw [hp] at q
    cases q
theorem Grow.bagNF (g : Grow B F H) {b : Addr} (h : B.fp b) : F b = none := by
  obtain ⟨h1, o, h2⟩ := g.fpn b h
  exact g.nofr b o h2 h1
/-- a new frozen object -/
theorem Grow.new (g : Grow B F H) {p : Addr} {o : HO} (hp : H p = none) : Grow B (upd F p o) (upd H p o) := by
  have hF : F p = none := Ex.none g.fh hp
  refine ⟨Ex.upd2 g.fh, fun a u e => upd_some hF (g.bf a u e), fun a u hf e => upd_some hp (g.keep a u hf e), fun a u e1 e2 => ?_, fun b hb => ?_, g.fpn⟩
  · have ha : a ≠ p := fun z => by
      subst z
      rw [g.new0 hp] at e1
      cases e1
    rw [upd_ne ha]
    exact g.nofr a u e1 e2
  · exact (g.bag b hb).mono (Ex.new hF) fun o' e => upd_some hp e
/-- a new object of one's own -/
theorem Grow.own (g : Grow B F H) {p : Addr} {o : HO} (hp : H p = none) : Grow B F (upd H p o) :=
  ⟨g.fh.trans (Ex.new hp), g.bf, fun a u hf e => upd_some hp (g.keep a u hf e), g.nofr, fun b hb => (g.bag b hb).mono (Ex.refl _) fun o' e => upd_some hp e, g.fpn⟩
/-- one's own object changes -/
theorem Grow.mut (g : Grow B F H) {l : Addr} {o : HO} (hl : B.H l = none) (hF : F l = none) : Grow B F (upd H l o) := by
  refine ⟨Ex.mut g.fh hF, g.bf, fun a u hf e => ?_, g.nofr, fun b hb => ?_, g.fpn⟩
  · rw [upd_ne (ne_of_none e hl)]
    exact g.keep a u hf e
  · obtain ⟨_, o', h2⟩ := g.fpn b hb
    refine (g.bag b hb).mono (Ex.refl _) fun o'' e => ?_
    rw [upd_ne (ne_of_none h2 hl)]
    exact e
/-- one's own object is frozen -/
theorem Grow.freeze (g : Grow B F H) {l : Addr} {o : HO} (hl : B.H l = none) (hF : F l = none) (hH : H l = some o) : Grow B (upd F l o) H := by
  refine ⟨fun a u e => ?_, fun a u e => upd_some hF (g.bf a u e), g.keep, fun a u e1 e2 => ?_, fun b hb => (g.bag b hb).mono (Ex.new hF) fun _ e => e, g.fpn⟩
  · by_cases ha : a = l
    · subst ha
      rw [upd_same] at e
      rw [← e]
      exact hH
    · rw [upd_ne ha] at e
      exact g.fh a u e
  · rw [upd_ne (ne_of_none e1 hl)]
    exact g.nofr a u e1 e2
/-- a call's growth upon the caller's -/
theorem Grow.call (g : Grow B F H) (c : Grow ⟨H, F, B.fp⟩ F' H') : Grow B F' H' :=
  ⟨c.fh, g.bf.trans c.bf, fun a o hf e => c.keep a o hf (g.keep a o hf e), fun a o e1 e2 => by
    obtain ⟨u, hu⟩ := g.there e1
    exact c.nofr a u hu (g.nofr a o e1 e2), c.bag, g.fpn⟩
theorem Grow.start (e : Ex F H) {fp : Addr → Prop} (hb : ∀ b, fp b → F b = none ∧ BagAt F H b) : Grow ⟨H, F, fp⟩ F H :=
  ⟨e, Ex.refl F, fun _ _ _ h => h, fun _ _ _ h => h, fun b h => (hb b h).2, fun b h => ⟨(hb b h).1, by
    obtain ⟨l, n, ns, h1, _⟩ := (hb b h).2
    exact ⟨_, h1⟩⟩⟩
end

/-- nothing, or one new frozen object -/
def Gro (F H F' H' : Hp) : Prop := (F' = F ∧ H' = H) ∨ ∃ p o, H p = none ∧ F' = upd F p o ∧ H' = upd H p o
theorem Gro.refl {F H : Hp} : Gro F H F H := .inl ⟨rfl, rfl⟩
theorem Gro.new {F H : Hp} {p : Addr} {o : HO} (h : H p = none) : Gro F H (upd F p o) (upd H p o) := .inr ⟨p, o, h, rfl, rfl⟩
theorem Gro.ex {F H F' H' : Hp} (e : Ex F H) (g : Gro F H F' H') : Ex F F' := by
  rcases g with ⟨rfl, rfl⟩ | ⟨p, o, hp, rfl, rfl⟩
  · exact Ex.refl _
  · exact Ex.new (Ex.none e hp)
theorem Gro.exh {F H F' H' : Hp} (g : Gro F H F' H') : Ex H H' := by
  rcases g with ⟨rfl, rfl⟩ | ⟨p, o, hp, rfl, rfl⟩
  · exact Ex.refl _
  · exact Ex.new hp
theorem Gro.fh {F H F' H' : Hp} (e : Ex F H) (g : Gro F H F' H') : Ex F' H' := by
  rcases g with ⟨rfl, rfl⟩ | ⟨p, o, hp, rfl, rfl⟩
  · exact e
  · exact Ex.upd2 e

/-! ### slots -/
inductive SV where
  | dat (d : PyData) | own (ds : List PyData) | bag
abbrev Denv := List (Option SV)

def SOk (B : Bs) (F H : Hp) (v : V) : SV → Prop
  | .dat d => Dt F v d
  | .own ds => ∃ l vs, v = .ref l ∧ B.H l = none ∧ F l = none ∧ H l = some (.lst vs) ∧ DtA F vs ds
  | .bag => ∃ b, v = .ref b ∧ B.fp b

structure Den (B : Bs) (F H : Hp) (σ : St) (env : Denv) : Prop where
  g : Grow B F H
  len : env.length = σ.length
  slot : ∀ (i : Nat) sv, env[i]? = some (some sv) → ∃ v, σ[i]? = some (some v) ∧ SOk B F H v sv
  sep : ∀ (i j : Nat) ds es l, env[i]? = some (some (.own ds)) → env[j]? = some (some (.own es)) → σ[i]? = some (some (V.ref l)) → σ[j]? = some (some (V.ref l)) → i = j

section
variable {B : Bs} {F H F' H' : Hp} {σ : St} {env : Denv}
theorem SOk.grow {v : V} : ∀ {sv : SV}, SOk B F H v sv → Ex F F' → (∀ a o, H a = some o → F a = none → B.H a = none → H' a = some o ∧ F' a = none) → SOk B F' H' v sv
  | .dat d, h, e, _ => Dt.up h e
  | .own ds, ⟨l, vs, h1, h2, h3, h4, h5⟩, e, k => ⟨l, vs, h1, h2, (k l _ h4 h3 h2).2, (k l _ h4 h3 h2).1, h5.up e⟩
  | .bag, h, _, _ => h
/-- the heap has grown, nothing of the frame's own has changed -/
theorem Den.grow (n : Den B F H σ env) (g : Grow B F' H') (e : Ex F F') (k : ∀ a o, H a = some o → F a = none → B.H a = none → H' a = some o ∧ F' a = none) : Den B F' H' σ env :=
  ⟨g, n.len, fun i sv h => by
    obtain ⟨v, h1, h2⟩ := n.slot i sv h
    exact ⟨v, h1, h2.grow e k⟩, n.sep⟩
theorem Den.gro (n : Den B F H σ env) (g : Gro F H F' H') : Den B F' H' σ env := by
  rcases g with ⟨rfl, rfl⟩ | ⟨p, o, hp, rfl, rfl⟩
  · exact n
  · refine n.grow (n.g.new hp) (Ex.new (Ex.none n.g.fh hp)) fun a u h1 h2 _ => ⟨upd_some hp h1, ?_⟩
    rw [upd_ne (ne_of_none h1 hp)]
    exact h2
/-- behind a call -/
theorem Den.call (n : Den B F H σ env) (c : Grow ⟨H, F, B.fp⟩ F' H') : Den B F' H' σ env :=
  n.grow (n.g.call c) c.bf fun a o h1 h2 h3 => ⟨c.keep a o (fun z => by
    obtain ⟨_, u, q⟩ := n.g.fpn a z
    rw [h3] at q
    cases q) h1, c.nofr a o h1 h2⟩
theorem get_set {α : Type} {l : List (Option α)} {i j : Nat} {x y : α} (h : (l.set i (some x))[j]? = some (some y)) : (i = j ∧ i < l.length ∧ x = y) ∨ (i ≠ j ∧ l[j]? = some (some y)) := by
  by_cases hij : i = j
  · subst hij
    by_cases hl : i < l.length
    · rw [List.getElem?_set_self hl] at h
      exact .inl ⟨rfl, hl, by cases h; rfl⟩
    · rw [List.set_eq_of_length_le (by omega)] at h
      rw [List.getElem?_eq_none (by omega)] at h
      cases h
  · rw [List.getElem?_set_ne hij] at h
    exact .inr ⟨hij, h⟩
theorem Den.setD (n : Den B F H σ env) {i : Nat} {v : V} {d : PyData} (h : Dt F v d) : Den B F H (σ.set i (some v)) (env.set i (some (.dat d))) := by
  refine ⟨n.g, by rw [List.length_set, List.length_set, n.len], fun j sv hj => ?_, fun j k ds es l h1 h2 h3 h4 => ?_⟩
  · rcases get_set hj with ⟨rfl, hl, rfl⟩ | ⟨hij, hj⟩
    · exact ⟨v, by rw [List.getElem?_set_self (by rw [← n.len]; exact hl)], h⟩
    · obtain ⟨u, h1, h2⟩ := n.slot j sv hj
      exact ⟨u, by rw [List.getElem?_set_ne hij]; exact h1, h2⟩
  · rcases get_set h1 with ⟨_, _, z⟩ | ⟨hij, h1⟩
    · cases z
    · rcases get_set h2 with ⟨_, _, z⟩ | ⟨hik, h2⟩
      · cases z
      · rw [List.getElem?_set_ne hij] at h3
        rw [List.getElem?_set_ne hik] at h4
        exact n.sep j k ds es l h1 h2 h3 h4
/-- a new list of the frame's own -/
structure Fresh (B : Bs) (F H : Hp) (σ : St) (env : Denv) (l : Addr) (vs : List V) (ds : List PyData) : Prop where
  b : B.H l = none
  f : F l = none
  h : H l = some (.lst vs)
  d : DtA F vs ds
  ne : ∀ (i : Nat) es, env[i]? = some (some (.own es)) → σ[i]? ≠ some (some (V.ref l))
theorem Fresh.of (n : Den B F H σ env) {l : Addr} {vs : List V} {ds : List PyData} (hl : H l = none) (h : DtA F vs ds) : Fresh B F (upd H l (.lst vs)) σ env l vs ds ∧ Den B F (upd H l (.lst vs)) σ env := by
  refine ⟨⟨n.g.new0 hl, Ex.none n.g.fh hl, upd_same, h, fun i es e z => ?_⟩, n.grow (n.g.own hl) (Ex.refl _) fun a o h1 h2 _ => ⟨upd_some hl h1, h2⟩⟩
  obtain ⟨v, h1, l', vs', h2, _, _, h4, _⟩ := n.slot i _ e
  rw [h2, z] at h1
  cases h1
  rw [hl] at h4
  cases h4
theorem Den.setN (n : Den B F H σ env) {i : Nat} {l : Addr} {vs : List V} {ds : List PyData} (h : Fresh B F H σ env l vs ds) : Den B F H (σ.set i (some (.ref l))) (env.set i (some (.own ds))) := by
  refine ⟨n.g, by rw [List.length_set, List.length_set, n.len], fun j sv hj => ?_, fun j k es es' a h1 h2 h3 h4 => ?_⟩
  · rcases get_set hj with ⟨rfl, hl, rfl⟩ | ⟨hij, hj⟩
    · exact ⟨.ref l, by rw [List.getElem?_set_self (by rw [← n.len]; exact hl)], l, vs, rfl, h.b, h.f, h.h, h.d⟩
    · obtain ⟨u, h1, h2⟩ := n.slot j sv hj
      exact ⟨u, by rw [List.getElem?_set_ne hij]; exact h1, h2⟩
  · rcases get_set h1 with ⟨e1, _, _⟩ | ⟨hij, h1⟩ <;> rcases get_set h2 with ⟨e2, _, _⟩ | ⟨hik, h2⟩
    · exact e1.symm.trans e2
    · rcases get_set h3 with ⟨_, _, z⟩ | ⟨z, _⟩
      · cases z
        rw [List.getElem?_set_ne hik] at h4
        exact absurd h4 (h.ne k _ h2)
      · exact absurd e1 z
    · rcases get_set h4 with ⟨_, _, z⟩ | ⟨z, _⟩
      · cases z
        rw [List.getElem?_set_ne hij] at h3
        exact absurd h3 (h.ne j _ h1)
      · exact absurd e2 z
    · rw [List.getElem?_set_ne hij] at h3
      rw [List.getElem?_set_ne hik] at h4
      exact n.sep j k _ _ a h1 h2 h3 h4
/-- a new list is frozen -/
theorem Fresh.freeze (n : Den B F H σ env) {l : Addr} {vs : List V} {ds : List PyData} (h : Fresh B F H σ env l vs ds) :
    Den B (upd F l (.lst vs)) H σ env ∧ Ex F (upd F l (.lst vs)) ∧ Dt (upd F l (.lst vs)) (.ref l) (.list ds) := by
  refine ⟨⟨n.g.freeze h.b h.f h.h, n.len, fun i sv hi => ?_, n.sep⟩, Ex.new h.f, .lst upd_same (h.d.up (Ex.new h.f))⟩
  obtain ⟨v, h1, h2⟩ := n.slot i sv hi
  refine ⟨v, h1, ?_⟩
  cases sv with
  | dat d => exact Dt.up h2 (Ex.new h.f)
  | bag => exact h2
  | own es =>
    obtain ⟨a, ws, e1, e2, e3, e4, e5⟩ := h2
    refine ⟨a, ws, e1, e2, ?_, e4, e5.up (Ex.new h.f)⟩
    have : a ≠ l := fun z => by
      subst z
      subst e1
      exact h.ne i es hi h1
    rw [upd_ne this]
    exact e3
/-- the own list in slot i -/
theorem Den.own (n : Den B F H σ env) {i : Nat} {ds : List PyData} (h : env[i]? = some (some (.own ds))) : ∃ l vs, σ[i]? = some (some (.ref l)) ∧ B.H l = none ∧ F l = none ∧ H l = some (.lst vs) ∧ DtA F vs ds := by
  obtain ⟨v, h1, l, vs, rfl, r⟩ := n.slot i _ h
  exact ⟨l, vs, h1, r⟩
/-- the own list in slot i changes -/
theorem Den.mut (n : Den B F H σ env) {i : Nat} {ds es : List PyData} {l : Addr} {ws : List V} (h : env[i]? = some (some (.own ds))) (hs : σ[i]? = some (some (.ref l))) (hd : DtA F ws es) :
    Den B F (upd H l (.lst ws)) σ (env.set i (some (.own es))) := by
  obtain ⟨l', vs, h1, h2, h3, h4, h5⟩ := n.own h
  rw [hs] at h1
  cases h1
  have hi : i < env.length := (List.getElem?_eq_some_iff.mp h).1
  refine ⟨n.g.mut h2 h3, by rw [List.length_set, n.len], fun j sv hj => ?_, fun j k e1 e2 a q1 q2 q3 q4 => ?_⟩
  · rcases get_set hj with ⟨rfl, _, rfl⟩ | ⟨hij, hj⟩
    · exact ⟨_, hs, l, ws, rfl, h2, h3, upd_same, hd⟩
    · obtain ⟨v, p1, p2⟩ := n.slot j sv hj
      refine ⟨v, p1, ?_⟩
      cases sv with
      | dat d => exact p2
      | bag => exact p2
      | own e =>
        obtain ⟨a, us, r1, r2, r3, r4, r5⟩ := p2
        refine ⟨a, us, r1, r2, r3, ?_, r5⟩
        have : a ≠ l := fun z => by
          subst z
          subst r1
          exact hij (n.sep i j _ _ _ h hj hs p1)
        rw [upd_ne this]
        exact r4
  · have back : ∀ (j : Nat) (e : List PyData), (env.set i (some (SV.own es)))[j]? = some (some (.own e)) → ∃ e', env[j]? = some (some (.own e')) := fun j e q => by
      rcases get_set q with ⟨rfl, _, _⟩ | ⟨_, q⟩
      · exact ⟨_, h⟩
      · exact ⟨_, q⟩
    obtain ⟨_, q1⟩ := back j _ q1
    obtain ⟨_, q2⟩ := back k _ q2
    exact n.sep j k _ _ a q1 q2 q3 q4
/-- the own list in slot i is frozen -/
theorem Den.freeze (n : Den B F H σ env) {i : Nat} {ds : List PyData} (h : env[i]? = some (some (.own ds))) : ∃ F', Ex F F' ∧ Den B F' H σ (env.set i (some (.dat (.list ds)))) := by
  obtain ⟨l, vs, h1, h2, h3, h4, h5⟩ := n.own h
  refine ⟨upd F l (.lst vs), Ex.new h3, n.g.freeze h2 h3 h4, by rw [List.length_set, n.len], fun j sv hj => ?_, fun j k e1 e2 a q1 q2 q3 q4 => ?_⟩
  · rcases get_set hj with ⟨rfl, _, rfl⟩ | ⟨hij, hj⟩
    · exact ⟨_, h1, .lst upd_same (h5.up (Ex.new h3))⟩
    · obtain ⟨v, p1, p2⟩ := n.slot j sv hj
      refine ⟨v, p1, ?_⟩
      cases sv with
      | dat d => exact Dt.up p2 (Ex.new h3)
      | bag => exact p2
      | own e =>
        obtain ⟨a, us, r1, r2, r3, r4, r5⟩ := p2
        refine ⟨a, us, r1, r2, ?_, r4, r5.up (Ex.new h3)⟩
        have : a ≠ l := fun z => by
          subst z
          subst r1
          exact hij (n.sep i j _ _ _ h hj h1 p1)
        rw [upd_ne this]
        exact r3
  · rcases get_set q1 with ⟨_, _, z⟩ | ⟨_, q1⟩
    · cases z
    · rcases get_set q2 with ⟨_, _, z⟩ | ⟨_, q2⟩
      · cases z
      · exact n.sep j k _ _ a q1 q2 q3 q4
/-- slots forgotten -/
theorem Den.forget (n : Den B F H σ env) {σ' : St} {env' : Denv} (hl : env'.length = σ'.length) (h : ∀ (i : Nat) sv, env'[i]? = some (some sv) → env[i]? = some (some sv) ∧ σ'[i]? = σ[i]?) : Den B F H σ' env' :=
  ⟨n.g, hl, fun i sv hi => by
    obtain ⟨h1, h2⟩ := h i sv hi
    obtain ⟨v, p, q⟩ := n.slot i sv h1
    exact ⟨v, by rw [h2]; exact p, q⟩, fun i j ds es l h1 h2 h3 h4 => by
    obtain ⟨a1, a2⟩ := h i _ h1
    obtain ⟨b1, b2⟩ := h j _ h2
    rw [a2] at h3
    rw [b2] at h4
    exact n.sep i j ds es l a1 b1 h3 h4⟩
end

/-! ### what may be read: frozen data, or an own list of frozen things -/
def Rb (F H : Hp) (v : V) (d : PyData) : Prop := Dt F v d ∨ ∃ l vs ds, v = V.ref l ∧ d = .list ds ∧ H l = some (.lst vs) ∧ DtA F vs ds
def VOk (σ : St) (env : Denv) (F : Hp) (v : V) (d : PyData) : Prop := Dt F v d ∨ ∃ (i : Nat) (ds : List PyData), env[i]? = some (some (.own ds)) ∧ σ[i]? = some (some v) ∧ d = .list ds
theorem VOk.up {σ : St} {env : Denv} {F F' : Hp} {v : V} {d : PyData} (h : VOk σ env F v d) (e : Ex F F') : VOk σ env F' v d := by
  rcases h with h | h
  · exact .inl (h.up e)
  · exact .inr h
theorem VOk.rb {B : Bs} {F H : Hp} {σ : St} {env : Denv} {v : V} {d : PyData} (h : VOk σ env F v d) (n : Den B F H σ env) : Rb F H v d := by
  rcases h with h | ⟨i, ds, h1, h2, rfl⟩
  · exact .inl h
  · obtain ⟨l, vs, p1, _, _, p4, p5⟩ := n.own h1
    rw [h2] at p1
    cases p1
    exact .inr ⟨l, vs, ds, rfl, rfl, p4, p5⟩
section
variable {F H : Hp} {v : V} {d : PyData}
theorem Rb.dt (h : Rb F H v d) (e : Ex F H) : Dt H v d := by
  rcases h with h | ⟨l, vs, ds, rfl, rfl, h1, h2⟩
  · exact h.up e
  · exact .lst h1 (h2.up e)
theorem Rb.int {i : Int} (h : Rb F H v (.int i)) : v = .int i := by
  rcases h with h | ⟨l, vs, ds, _, h, _⟩
  · cases h; rfl
  · cases h
theorem Rb.bool {i : Bool} (h : Rb F H v (.bool i)) : v = .bl i := by
  rcases h with h | ⟨l, vs, ds, _, h, _⟩
  · cases h; rfl
  · cases h
theorem Rb.none (h : Rb F H v .none) : v = .non := by
  rcases h with h | ⟨l, vs, ds, _, h, _⟩
  · cases h; rfl
  · cases h
theorem Rb.str {x : Str} (h : Rb F H v (.str x)) : v = .str x := by
  rcases h with h | ⟨l, vs, ds, _, h, _⟩
  · cases h; rfl
  · cases h
theorem Rb.list {ds : List PyData} (h : Rb F H v (.list ds)) (e : Ex F H) : ∃ l vs, v = .ref l ∧ H l = some (.lst vs) ∧ DtA F vs ds := by
  rcases h with h | ⟨l, vs, ds, rfl, h, h1, h2⟩
  · cases h with
    | lst h1 h2 => exact ⟨_, _, rfl, e _ _ h1, h2⟩
  · cases h
    exact ⟨l, vs, rfl, h1, h2⟩
theorem Rb.tuple {ds : List PyData} (h : Rb F H v (.tuple ds)) : ∃ l vs, v = .ref l ∧ F l = some (.tup vs) ∧ DtA F vs ds := by
  rcases h with h | ⟨l, vs, ds, _, h, _⟩
  · cases h with
    | tup h1 h2 => exact ⟨_, _, rfl, h1, h2⟩
  · cases h
end
end Pd

set_option maxRecDepth 100000
set_option maxHeartbeats 4000000
namespace Pd
open PySem L2
open Evl (Ex)

/-! ### judgements: the hand layer's term and reading, and the reading over plain data -/
abbrev DE := Denv → (PyData → Prop) → Prop
abbrev DN := Denv → (List PyData → Prop) → Prop
abbrev DT := Denv → (Bool → Prop) → Prop

/-- the value is frozen data -/
def Sd (te : TE) (t : DE) : Prop := ∀ B F H σ env Q Qv, Den B F H σ env → t env Q → (∀ v d F' H', Q d → Ex F F' → Den B F' H' σ env → Dt F' v d → Qv v H') → te σ H Qv
/-- .. is to be read -/
def Sr (te : TE) (t : DE) : Prop := ∀ B F H σ env Q Qv, Den B F H σ env → t env Q → (∀ v d F' H', Q d → Ex F F' → Den B F' H' σ env → VOk σ env F' v d → Qv v H') → te σ H Qv
/-- .. is a new list -/
def Sn (te : TE) (t : DN) : Prop := ∀ B F H σ env Q Qv, Den B F H σ env → t env Q → (∀ l vs ds F' H', Q ds → Ex F F' → Den B F' H' σ env → Fresh B F' H' σ env l vs ds → Qv (.ref l) H') → te σ H Qv
def St' (tt : TT) (t : DT) : Prop := ∀ B F H σ env Q Qv, Den B F H σ env → t env Q → (∀ b F' H', Q b → Ex F F' → Den B F' H' σ env → Qv b H') → tt σ H Qv
/-- a list of values that are read -/
def Sa (ta : TA) (t : DN) : Prop := ∀ B F H σ env Q Qv, Den B F H σ env → t env Q → (∀ vs ds F' H', Q ds → Ex F F' → Den B F' H' σ env → (Paired (VOk σ env F') vs ds) → Qv vs H') → ta σ H Qv
/-- .. of frozen values -/
def Sf (ta : TA) (t : DN) : Prop := ∀ B F H σ env Q Qv, Den B F H σ env → t env Q → (∀ vs ds F' H', Q ds → Ex F F' → Den B F' H' σ env → DtA F' vs ds → Qv vs H') → ta σ H Qv

structure PEd (X : Cx) (e : Expr) (te : TE) (t : DE) : Prop where
  pe : PE X e te
  s : Sd te t
structure PEr (X : Cx) (e : Expr) (te : TE) (t : DE) : Prop where
  pe : PE X e te
  s : Sr te t
structure PEn (X : Cx) (e : Expr) (te : TE) (t : DN) : Prop where
  pe : PE X e te
  s : Sn te t
structure PTd (X : Cx) (e : Expr) (tt : TT) (t : DT) : Prop where
  pt : PT X e tt
  s : St' tt t
structure PWd (X : Cx) (e : Expr) (tt : TT) (t : DT) : Prop where
  pw : PW X e tt
  s : St' tt t
structure PAr (X : Cx) (es : List Expr) (ta : TA) (t : DN) : Prop where
  pa : PA X es ta
  s : Sa ta t
structure PAf (X : Cx) (es : List Expr) (ta : TA) (t : DN) : Prop where
  pa : PA X es ta
  s : Sf ta t

section
variable {X : Cx} {a b c e : Expr} {es : List Expr} {ta tb te tc : TE} {tA tB' : TT} {da db dc dd : DE} {dn : DN} {dt du : DT} {pos : Pos}

theorem PEd.r (h : PEd X e te dd) : PEr X e te dd := ⟨h.pe, fun B F H σ env Q Qv n q k => h.s B F H σ env Q Qv n q fun v d F' H' q' e' n' r => k v d F' H' q' e' n' (.inl r)⟩
/-- a new list, frozen -/
def dFr (t : DN) : DE := fun env Q => t env fun ds => Q (.list ds)
theorem PEn.d (h : PEn X e te dn) : PEd X e te (dFr dn) := ⟨h.pe, fun B F H σ env Q Qv n q k => h.s B F H σ env _ Qv n q fun l vs ds F' H' q' e' n' r => by
  obtain ⟨n2, e2, d2⟩ := r.freeze n'
  exact k _ _ _ _ q' (e'.trans e2) n2 d2⟩
theorem PEn.r (h : PEn X e te dn) : PEr X e te (dFr dn) := h.d.r

/-! ### names, constants -/
def dVar (i : Nat) : DE := fun env Q => ∃ d, env[i]? = some (some (.dat d)) ∧ Q d
def dOwn (i : Nat) : DE := fun env Q => ∃ ds, env[i]? = some (some (.own ds)) ∧ Q (.list ds)
def dC (d : PyData) : DE := fun _ Q => Q d
theorem ped_var (i : Nat) {x : Str} (h : PE X (.Name x pos) (tVar i)) : PEd X (.Name x pos) (tVar i) (dVar i) := ⟨h, fun B F H σ env Q Qv n q k => by
  obtain ⟨d, h1, q⟩ := q
  obtain ⟨v, h2, h3⟩ := n.slot i _ h1
  exact ⟨v, h2, k v d F H q (Ex.refl F) n h3⟩⟩
theorem per_own (i : Nat) {x : Str} (h : PE X (.Name x pos) (tVar i)) : PEr X (.Name x pos) (tVar i) (dOwn i) := ⟨h, fun B F H σ env Q Qv n q k => by
  obtain ⟨ds, h1, q⟩ := q
  obtain ⟨v, h2, h3⟩ := n.slot i _ h1
  exact ⟨v, h2, k v _ F H q (Ex.refl F) n (.inr ⟨i, ds, h1, h2, rfl⟩)⟩⟩
theorem ped_c {v : V} {d : PyData} (h : PE X e (tC v)) (hd : ∀ F, Dt F v d) : PEd X e (tC v) (dC d) := ⟨h, fun B F H σ env Q Qv n q k => k v d F H q (Ex.refl F) n (hd F)⟩
theorem ped_int {i : Int} {j} : PEd X (.Constant (.int i) j pos) (tC (.int i)) (dC (.int i)) := ped_c pe_int fun F => .int i
theorem ped_bool {i : Bool} {j} : PEd X (.Constant (.bool i) j pos) (tC (.bl i)) (dC (.bool i)) := ped_c pe_bl fun F => .bl i
theorem ped_none {j} : PEd X (.Constant .none j pos) (tC .non) (dC .none) := ped_c pe_non fun F => .non
theorem ped_str {x : Str} {j} : PEd X (.Constant (.str x) j pos) (tC (.str x)) (dC (.str x)) := ped_c pe_str fun F => .str x
theorem ped_globI {x : Str} {i : Int} {u : Value} (hg : Gl X x) (hm : X.mg x = some u) (r : RelV (.int i) u) (hd : (x == ("__debug__" : Str)) = false := by decide) : PEd X (.Name x pos) (tC (.int i)) (dC (.int i)) := ped_c (pe_glob hg hm r hd) fun F => .int i

/-! ### operators -/
def OpD (r : R2) (o : PyData → PyData → (PyData → Prop) → Prop) : Prop := ∀ F H x y d e (Q : PyData → Prop) (Qv : VK), Ex F H → Rb F H x d → Rb F H y e → o d e Q → (∀ z f F' H', Q f → Gro F H F' H' → Dt F' z f → Qv z H') → r x y H Qv
def OpN (r : R2) (o : PyData → PyData → (List PyData → Prop) → Prop) : Prop := ∀ F H x y d e (Q : List PyData → Prop) (Qv : VK), Ex F H → Rb F H x d → Rb F H y e → o d e Q → (∀ p vs ds, Q ds → H p = none → DtA F vs ds → Qv (.ref p) (upd H p (.lst vs))) → r x y H Qv
def d2 (o : PyData → PyData → (PyData → Prop) → Prop) (da db : DE) : DE := fun env Q => da env fun x => db env fun y => o x y Q
def n2 (o : PyData → PyData → (List PyData → Prop) → Prop) (da db : DE) : DN := fun env Q => da env fun x => db env fun y => o x y Q
theorem sd_op {r : R2} {o : PyData → PyData → (PyData → Prop) → Prop} (hd : OpD r o) (ha : Sr ta da) (hb : Sr tb db) : Sd (tOp r ta tb) (d2 o da db) := fun B F H σ env Q Qv n q k =>
  ha B F H σ env _ _ n q fun v d F1 H1 q1 e1 n1 r1 => hb B F1 H1 σ env _ _ n1 q1 fun w f F2 H2 q2 e2 n2 r2 =>
    hd F2 H2 v w d f Q Qv n2.g.fh ((r1.up e2).rb n2) (r2.rb n2) q2 fun z f F' H' q' g' t' => k z f F' H' q' ((e1.trans e2).trans (g'.ex n2.g.fh)) (n2.gro g') t'
theorem sn_op {r : R2} {o : PyData → PyData → (List PyData → Prop) → Prop} (hd : OpN r o) (ha : Sr ta da) (hb : Sr tb db) : Sn (tOp r ta tb) (n2 o da db) := fun B F H σ env Q Qv n q k =>
  ha B F H σ env _ _ n q fun v d F1 H1 q1 e1 n1 r1 => hb B F1 H1 σ env _ _ n1 q1 fun w f F2 H2 q2 e2 n2 r2 =>
    hd F2 H2 v w d f Q Qv n2.g.fh ((r1.up e2).rb n2) (r2.rb n2) q2 fun p vs ds q' hp t' => by
      obtain ⟨f1, f2⟩ := Fresh.of n2 hp t'
      exact k p vs ds F2 _ q' (e1.trans e2) f2 f1
theorem ped_op {op : Operator} {r : R2} {o : PyData → PyData → (PyData → Prop) → Prop} (ho : OpR X (binaryOp op) r) (hd : OpD r o) (ha : PEr X a ta da) (hb : PEr X b tb db) : PEd X (.BinOp a op b pos) (tOp r ta tb) (d2 o da db) := ⟨pe_op ho ha.pe hb.pe, sd_op hd ha.s hb.s⟩
theorem pen_op {op : Operator} {r : R2} {o : PyData → PyData → (List PyData → Prop) → Prop} (ho : OpR X (binaryOp op) r) (hd : OpN r o) (ha : PEr X a ta da) (hb : PEr X b tb db) : PEn X (.BinOp a op b pos) (tOp r ta tb) (n2 o da db) := ⟨pe_op ho ha.pe hb.pe, sn_op hd ha.s hb.s⟩
theorem ped_cmp {op : CmpOp} {r : R2} {o : PyData → PyData → (PyData → Prop) → Prop} (ho : OpR X (compareOp op) r) (hd : OpD r o) (ha : PEr X a ta da) (hb : PEr X b tb db) (hm : behindInMarks op b = false := by rfl) : PEd X (.Compare a [op] [b] pos) (tOp r ta tb) (d2 o da db) := ⟨pe_cmpR ho ha.pe hb.pe hm, sd_op hd ha.s hb.s⟩
/-- a value as a test -/
def dTest (t : DE) : DT := fun env Q => t env fun d => ∃ k, d = .bool k ∧ Q k
theorem st_test (h : Sd te dd) : St' (tTest te) (dTest dd) := fun B F H σ env Q Qv n q k => h B F H σ env _ _ n q fun v d F' H' ⟨b, e, q'⟩ e' n' t' => by
  subst e
  cases t'
  exact ⟨b, rfl, k b F' H' q' e' n'⟩
theorem ptd_cmp {op : CmpOp} {r : R2} {o : PyData → PyData → (PyData → Prop) → Prop} (ho : OpR X (compareOp op) r) (hd : OpD r o) (ha : PEr X a ta da) (hb : PEr X b tb db) (hm : behindInMarks op b = false := by rfl) : PTd X (.Compare a [op] [b] pos) (tTest (tOp r ta tb)) (dTest (d2 o da db)) := ⟨pt_cmpR ho ha.pe hb.pe hm, st_test (sd_op hd ha.s hb.s)⟩
theorem ptd_val (h : PEd X e te dd) (he : ∀ whole, isTrue e X.env whole = (do let v ← whole; standAt e.pos; holding [v] (truthy v)) := by intro _; rfl) : PTd X e (tB te) (dTest dd) := ⟨pt_val h.pe he, st_test h.s⟩
def dChain (o o' : PyData → PyData → (PyData → Prop) → Prop) (da db dc : DE) : DE := fun env Q => da env fun x => db env fun y => o x y fun z => ∃ k, z = .bool k ∧ (if k = true then dc env fun w => o' y w Q else Q (.bool false))
theorem sd_chain {r r' : R2} {o o' : PyData → PyData → (PyData → Prop) → Prop} (hd : OpD r o) (hd' : OpD r' o') (ha : Sr ta da) (hb : Sr tb db) (hc : Sr tc dc) : Sd (tChain r r' ta tb tc) (dChain o o' da db dc) := fun B F H σ env Q Qv n q k =>
  ha B F H σ env _ _ n q fun v d F1 H1 q1 e1 n1 r1 => hb B F1 H1 σ env _ _ n1 q1 fun w f F2 H2 q2 e2 n2 r2 =>
    hd F2 H2 v w d f _ _ n2.g.fh ((r1.up e2).rb n2) (r2.rb n2) q2 fun z f' F3 H3 ⟨kk, ek, q3⟩ g3 t3 => by
      subst ek
      cases t3
      have e3 := (e1.trans e2).trans (g3.ex n2.g.fh)
      have n3 := n2.gro g3
      refine ⟨kk, rfl, ?_⟩
      cases kk with
      | false => exact k _ _ _ _ q3 e3 n3 (.bl false)
      | true => exact hc B F3 H3 σ env _ _ n3 q3 fun u g F4 H4 q4 e4 n4 r4 => hd' F4 H4 w u f g Q Qv n4.g.fh (((r2.up (g3.ex n2.g.fh)).up e4).rb n4) (r4.rb n4) q4 fun z f F' H' q' g' t' => k z f F' H' q' ((e3.trans e4).trans (g'.ex n4.g.fh)) (n4.gro g') t'
theorem ped_chain {op op' : CmpOp} {r r' : R2} {o o' : PyData → PyData → (PyData → Prop) → Prop} (ho : OpR X (compareOp op) r) (hd : OpD r o) (ho' : OpR X (compareOp op') r') (hd' : OpD r' o') (ha : PEr X a ta da) (hb : PEr X b tb db) (hc : PEr X c tc dc)
    (hm : lastMarks [op, op'] [b, c] = false := by with_unfolding_all rfl) : PEd X (.Compare a [op, op'] [b, c] pos) (tChain r r' ta tb tc) (dChain o o' da db dc) := ⟨pe_chain ho ho' ha.pe hb.pe hc.pe hm, sd_chain hd hd' ha.s hb.s hc.s⟩

/-! ### and, or, not, if -/
def dAnd (t u : DT) : DT := fun env Q => t env fun c => if c = true then u env Q else Q false
def dOr (t u : DT) : DT := fun env Q => t env fun c => if c = true then Q true else u env Q
def dNot (t : DT) : DT := fun env Q => t env fun c => Q (!c)
theorem pwd_and1 (ha : PTd X a tA dt) : PWd X (.BoolOp .And [a] pos) tA dt := ⟨pw_and1 ha.pt, ha.s⟩
theorem pwd_or1 (ha : PTd X a tA dt) : PWd X (.BoolOp .Or [a] pos) tA dt := ⟨pw_or1 ha.pt, ha.s⟩
theorem pwd_and (ha : PTd X a tA dt) (hb : PWd X (.BoolOp .And (b :: es) pos) tB' du) : PWd X (.BoolOp .And (a :: b :: es) pos) (tAnd tA tB') (dAnd dt du) := ⟨pw_and ha.pt hb.pw, fun B F H σ env Q Qv n q k =>
  ha.s B F H σ env _ _ n q fun c F1 H1 q1 e1 n1 => by
    cases c with
    | true => exact hb.s B F1 H1 σ env _ _ n1 q1 fun c F2 H2 q2 e2 n2 => k c F2 H2 q2 (e1.trans e2) n2
    | false => exact k _ _ _ q1 e1 n1⟩
theorem pwd_or (ha : PTd X a tA dt) (hb : PWd X (.BoolOp .Or (b :: es) pos) tB' du) : PWd X (.BoolOp .Or (a :: b :: es) pos) (tOr tA tB') (dOr dt du) := ⟨pw_or ha.pt hb.pw, fun B F H σ env Q Qv n q k =>
  ha.s B F H σ env _ _ n q fun c F1 H1 q1 e1 n1 => by
    cases c with
    | false => exact hb.s B F1 H1 σ env _ _ n1 q1 fun c F2 H2 q2 e2 n2 => k c F2 H2 q2 (e1.trans e2) n2
    | true => exact k _ _ _ q1 e1 n1⟩
theorem ptd_w (h : PWd X a tA dt) : PTd X a tA dt := ⟨h.pw.pt, h.s⟩
theorem ptd_not (ha : PTd X a tA dt) : PTd X (.UnaryOp .Not a pos) (tNot tA) (dNot dt) := ⟨pt_not ha.pt, fun B F H σ env Q Qv n q k => ha.s B F H σ env _ _ n q fun c F1 H1 q1 e1 n1 => k _ _ _ q1 e1 n1⟩
def dAndV (t u : DE) : DE := fun env Q => t env fun d => ∃ c, d = .bool c ∧ (if c = true then u env Q else Q (.bool false))
def dOrV (t u : DE) : DE := fun env Q => t env fun d => ∃ c, d = .bool c ∧ (if c = true then Q (.bool true) else u env Q)
def dNotV (t : DE) : DE := fun env Q => t env fun d => ∃ c, d = .bool c ∧ Q (.bool (!c))
theorem ped_one {op} (h : PEd X a ta da) : PEd X (.BoolOp op [a] pos) ta da := ⟨pe_one h.pe, h.s⟩
theorem ped_and (ha : PEd X a ta da) (hb : PEd X (.BoolOp .And (b :: es) pos) tb db) : PEd X (.BoolOp .And (a :: b :: es) pos) (tAndV ta tb) (dAndV da db) := ⟨pe_and ha.pe hb.pe, fun B F H σ env Q Qv n q k =>
  ha.s B F H σ env _ _ n q fun v d F1 H1 ⟨c, e, q1⟩ e1 n1 t1 => by
    subst e
    cases t1
    refine ⟨c, rfl, ?_⟩
    cases c with
    | true => exact hb.s B F1 H1 σ env _ _ n1 q1 fun v d F2 H2 q2 e2 n2 t2 => k v d F2 H2 q2 (e1.trans e2) n2 t2
    | false => exact k _ _ _ _ q1 e1 n1 (.bl false)⟩
theorem ped_or (ha : PEd X a ta da) (hb : PEd X (.BoolOp .Or (b :: es) pos) tb db) : PEd X (.BoolOp .Or (a :: b :: es) pos) (tOrV ta tb) (dOrV da db) := ⟨pe_or ha.pe hb.pe, fun B F H σ env Q Qv n q k =>
  ha.s B F H σ env _ _ n q fun v d F1 H1 ⟨c, e, q1⟩ e1 n1 t1 => by
    subst e
    cases t1
    refine ⟨c, rfl, ?_⟩
    cases c with
    | false => exact hb.s B F1 H1 σ env _ _ n1 q1 fun v d F2 H2 q2 e2 n2 t2 => k v d F2 H2 q2 (e1.trans e2) n2 t2
    | true => exact k _ _ _ _ q1 e1 n1 (.bl true)⟩
theorem ped_not (ha : PEd X a ta da) : PEd X (.UnaryOp .Not a pos) (tNotV ta) (dNotV da) := ⟨pe_not ha.pe, fun B F H σ env Q Qv n q k =>
  ha.s B F H σ env _ _ n q fun v d F1 H1 ⟨c, e, q1⟩ e1 n1 t1 => by
    subst e
    cases t1
    exact ⟨c, rfl, k _ _ _ _ q1 e1 n1 (.bl _)⟩⟩
def dIf (t : DT) (da db : DE) : DE := fun env Q => t env fun c => if c = true then da env Q else db env Q
theorem ped_if (hc : PTd X c tA dt) (ha : PEd X a ta da) (hb : PEd X b tb db) : PEd X (.IfExp c a b pos) (tIf tA ta tb) (dIf dt da db) := ⟨pe_ifExp hc.pt ha.pe hb.pe, fun B F H σ env Q Qv n q k =>
  hc.s B F H σ env _ _ n q fun c F1 H1 q1 e1 n1 => by
    cases c with
    | true => exact ha.s B F1 H1 σ env _ _ n1 q1 fun v d F2 H2 q2 e2 n2 t2 => k v d F2 H2 q2 (e1.trans e2) n2 t2
    | false => exact hb.s B F1 H1 σ env _ _ n1 q1 fun v d F2 H2 q2 e2 n2 t2 => k v d F2 H2 q2 (e1.trans e2) n2 t2⟩

/-! ### argument lists, displays -/
def nNil : DN := fun _ Q => Q []
def nCons (da : DE) (dn : DN) : DN := fun env Q => da env fun x => dn env fun xs => Q (x :: xs)
variable {tA1 : TA}
theorem par_nil : PAr X [] tNil nNil := ⟨pa_nil, fun B F H σ env Q Qv n q k => k [] [] F H q (Ex.refl F) n .nil⟩
theorem Paired.imp {α β : Type} {R S : α → β → Prop} : ∀ {l : List α} {m : List β}, Paired R l m → (∀ a b, R a b → S a b) → Paired S l m
  | _, _, .nil, _ => .nil
  | _, _, .cons r t, f => .cons (f _ _ r) (Paired.imp t f)
theorem par_cons (ha : PEr X e te dd) (hr : PAr X es tA1 dn) (hs : starEach (e :: es) X.env = (false, eval e X.env) :: starEach es X.env := by rfl) : PAr X (e :: es) (tCons te tA1) (nCons dd dn) := ⟨pa_cons ha.pe hr.pa hs, fun B F H σ env Q Qv n q k =>
  ha.s B F H σ env _ _ n q fun v d F1 H1 q1 e1 n1 r1 => hr.s B F1 H1 σ env _ _ n1 q1 fun vs ds F2 H2 q2 e2 n2 r2 => k (v :: vs) (d :: ds) F2 H2 q2 (e1.trans e2) n2 (.cons (r1.up e2) r2)⟩
theorem paf_nil : PAf X [] tNil nNil := ⟨pa_nil, fun B F H σ env Q Qv n q k => k [] [] F H q (Ex.refl F) n .nil⟩
theorem paf_cons (ha : PEd X e te dd) (hr : PAf X es tA1 dn) (hs : starEach (e :: es) X.env = (false, eval e X.env) :: starEach es X.env := by rfl) : PAf X (e :: es) (tCons te tA1) (nCons dd dn) := ⟨pa_cons ha.pe hr.pa hs, fun B F H σ env Q Qv n q k =>
  ha.s B F H σ env _ _ n q fun v d F1 H1 q1 e1 n1 r1 => hr.s B F1 H1 σ env _ _ n1 q1 fun vs ds F2 H2 q2 e2 n2 r2 => k (v :: vs) (d :: ds) F2 H2 q2 (e1.trans e2) n2 (.cons (r1.up e2) r2)⟩
def dTup (dn : DN) : DE := fun env Q => dn env fun ds => ds.length ≤ 1000 ∧ Q (.tuple ds)
def nLst (dn : DN) : DN := fun env Q => dn env fun ds => ds.length ≤ 1000 ∧ Q ds
theorem size1000 {n : Nat} (h : n ≤ 1000) : n ≤ sizeLine := Nat.le_trans h (by decide)
theorem ped_tup {x1} (h : PAf X es tA1 dn) : PEd X (.Tuple es x1 pos) (tTup tA1) (dTup dn) := ⟨pe_tup h.pa, fun B F H σ env Q Qv n q k =>
  h.s B F H σ env _ _ n q fun vs ds F1 H1 ⟨hl, q1⟩ e1 n1 t1 => ⟨by rw [t1.len]; exact size1000 hl, fun p hp => by
    have g : Gro F1 H1 (upd F1 p (.tup vs)) (upd H1 p (.tup vs)) := .new hp
    exact k _ _ _ _ q1 (e1.trans (g.ex n1.g.fh)) (n1.gro g) (.tup upd_same (t1.up (g.ex n1.g.fh)))⟩⟩
theorem pen_lst (h : PAf X es tA1 dn) : PEn X (.List es pos) (tLst tA1) (nLst dn) := ⟨pe_lst h.pa, fun B F H σ env Q Qv n q k =>
  h.s B F H σ env _ _ n q fun vs ds F1 H1 ⟨hl, q1⟩ e1 n1 t1 => ⟨by rw [t1.len]; exact size1000 hl, fun p hp => by
    obtain ⟨f1, f2⟩ := Fresh.of n1 hp t1
    exact k p vs ds F1 _ q1 e1 f2 f1⟩⟩

/-! ### calls of built-ins -/
def CallD (r : List V → Hp → VK → Prop) (o : List PyData → (PyData → Prop) → Prop) : Prop := ∀ F H xs ds (Q : PyData → Prop) (Qv : VK), Ex F H → Paired (Rb F H) xs ds → o ds Q → (∀ z f F' H', Q f → Gro F H F' H' → Dt F' z f → Qv z H') → r xs H Qv
def CallN (r : List V → Hp → VK → Prop) (o : List PyData → (List PyData → Prop) → Prop) : Prop := ∀ F H xs ds (Q : List PyData → Prop) (Qv : VK), Ex F H → Paired (Rb F H) xs ds → o ds Q → (∀ p vs es, Q es → H p = none → DtA F vs es → Qv (.ref p) (upd H p (.lst vs))) → r xs H Qv
def dCB (o : List PyData → (PyData → Prop) → Prop) (dn : DN) : DE := fun env Q => dn env fun ds => o ds Q
def nCB (o : List PyData → (List PyData → Prop) → Prop) (dn : DN) : DN := fun env Q => dn env fun ds => o ds Q
variable {r : List V → Hp → VK → Prop} {id T : String} {x : Str} {p : Pos}
theorem sd_cb {o : List PyData → (PyData → Prop) → Prop} (hd : CallD r o) (ha : Sa tA1 dn) : Sd (tCB r tA1) (dCB o dn) := fun B F H σ env Q Qv n q k =>
  ha B F H σ env _ _ n q fun vs ds F1 H1 q1 e1 n1 r1 => hd F1 H1 vs ds Q Qv n1.g.fh (Paired.imp r1 fun _ _ h => h.rb n1) q1 fun z f F' H' q' g' t' => k z f F' H' q' (e1.trans (g'.ex n1.g.fh)) (n1.gro g') t'
theorem sn_cb {o : List PyData → (List PyData → Prop) → Prop} (hd : CallN r o) (ha : Sa tA1 dn) : Sn (tCB r tA1) (nCB o dn) := fun B F H σ env Q Qv n q k =>
  ha B F H σ env _ _ n q fun vs ds F1 H1 q1 e1 n1 r1 => hd F1 H1 vs ds Q Qv n1.g.fh (Paired.imp r1 fun _ _ h => h.rb n1) q1 fun p vs es q' hp t' => by
    obtain ⟨f1, f2⟩ := Fresh.of n1 hp t'
    exact k p vs es F1 _ q' e1 f2 f1
theorem ped_callB {o : List PyData → (PyData → Prop) → Prop} (hc : CallR X (.builtin id) r) (hd : CallD r o) (hg : Gl X x) (hm : X.mg x = none) (hv : bootBuiltins x = some (.builtin id)) (ha : PAr X (e :: es) tA1 dn) (hn : x ≠ "__name__" := by decide) (hdb : (x == ("__debug__" : Str)) = false := by decide)
    (he : starEach (e :: es) X.env = (false, eval e X.env) :: starEach es X.env := by rfl) (hpl : (backTo pos (starEach es X.env)).any (·.1) = false := by rfl) : PEd X (.Call (.Name x p) (e :: es) [] pos) (tCB r tA1) (dCB o dn) := ⟨pe_callB hc hg hm hv ha.pa hn hdb he hpl, sd_cb hd ha.s⟩
theorem ped_callTy {o : List PyData → (PyData → Prop) → Prop} (hc : CallR X (.type T) r) (hd : CallD r o) (hg : Gl X x) (hm : X.mg x = none) (hv : bootBuiltins x = some (.type T)) (ha : PAr X (e :: es) tA1 dn) (hn : x ≠ "__name__" := by decide) (hdb : (x == ("__debug__" : Str)) = false := by decide)
    (he : starEach (e :: es) X.env = (false, eval e X.env) :: starEach es X.env := by rfl) (hpl : (backTo pos (starEach es X.env)).any (·.1) = false := by rfl) : PEd X (.Call (.Name x p) (e :: es) [] pos) (tCB r tA1) (dCB o dn) := ⟨pe_callTy hc hg hm hv ha.pa hn hdb he hpl, sd_cb hd ha.s⟩
theorem pen_callTy {o : List PyData → (List PyData → Prop) → Prop} (hc : CallR X (.type T) r) (hd : CallN r o) (hg : Gl X x) (hm : X.mg x = none) (hv : bootBuiltins x = some (.type T)) (ha : PAr X (e :: es) tA1 dn) (hn : x ≠ "__name__" := by decide) (hdb : (x == ("__debug__" : Str)) = false := by decide)
    (he : starEach (e :: es) X.env = (false, eval e X.env) :: starEach es X.env := by rfl) (hpl : (backTo pos (starEach es X.env)).any (·.1) = false := by rfl) : PEn X (.Call (.Name x p) (e :: es) [] pos) (tCB r tA1) (nCB o dn) := ⟨pe_callTy hc hg hm hv ha.pa hn hdb he hpl, sn_cb hd ha.s⟩
theorem pen_callB {o : List PyData → (List PyData → Prop) → Prop} (hc : CallR X (.builtin id) r) (hd : CallN r o) (hg : Gl X x) (hm : X.mg x = none) (hv : bootBuiltins x = some (.builtin id)) (ha : PAr X (e :: es) tA1 dn) (hn : x ≠ "__name__" := by decide) (hdb : (x == ("__debug__" : Str)) = false := by decide)
    (he : starEach (e :: es) X.env = (false, eval e X.env) :: starEach es X.env := by rfl) (hpl : (backTo pos (starEach es X.env)).any (·.1) = false := by rfl) : PEn X (.Call (.Name x p) (e :: es) [] pos) (tCB r tA1) (nCB o dn) := ⟨pe_callB hc hg hm hv ha.pa hn hdb he hpl, sn_cb hd ha.s⟩

/-! ### one-place operators, subscripts, slices -/
def d1 (o : PyData → (PyData → Prop) → Prop) (da : DE) : DE := fun env Q => da env fun x => o x Q
def negD : PyData → (PyData → Prop) → Prop
  | .int i, Q => Q (.int (-i))
  | _, _ => False
theorem ped_neg (ha : PEr X a ta da) : PEd X (.UnaryOp .USub a pos) (tUn (rU fun i => .int (-i)) ta) (d1 negD da) := ⟨pe_un un_neg ha.pe, fun B F H σ env Q Qv n q k =>
  ha.s B F H σ env _ _ n q fun v d F1 H1 q1 e1 n1 r1 => by
    cases d with
    | int i => exact ⟨i, (r1.rb n1).int, k _ _ _ _ q1 e1 n1 (.int _)⟩
    | _ => exact q1.elim⟩
theorem ped_ix {r : R2} {o : PyData → PyData → (PyData → Prop) → Prop} (hr : IxR X r) (hd : OpD r o) (ha : PEr X a ta da) (hb : PEr X b tb db) (hs : PlainIx b := by intro _ _; rfl) : PEd X (.Subscript a b pos) (tOp r ta tb) (d2 o da db) := ⟨pe_ix hr ha.pe hb.pe hs, sd_op hd ha.s hb.s⟩
abbrev DO := Denv → (Option Int → Prop) → Prop
def So (to : TO) (t : DO) : Prop := ∀ B F H σ env Q Qv, Den B F H σ env → t env Q → (∀ i F' H', Q i → Ex F F' → Den B F' H' σ env → Qv i H') → to σ H Qv
structure POd (X : Cx) (e : Option Expr) (to : TO) (t : DO) : Prop where
  po : PO X e to
  s : So to t
def oNone : DO := fun _ Q => Q none
def oSome (t : DE) : DO := fun env Q => t env fun d => ∃ i, d = .int i ∧ Q (some i)
theorem pod_none : POd X none tNoPart oNone := ⟨po_none, fun B F H σ env Q Qv n q k => k none F H q (Ex.refl F) n⟩
theorem pod_some (h : PEd X e te dd) : POd X (some e) (tPart te) (oSome dd) := ⟨po_some h.pe, fun B F H σ env Q Qv n q k => h.s B F H σ env _ _ n q fun v d F1 H1 ⟨i, e, q1⟩ e1 n1 t1 => by
  subst e
  cases t1
  exact ⟨i, rfl, k _ _ _ q1 e1 n1⟩⟩
def cutD (ds : List PyData) (lo hi : Option Int) : List PyData := (ds.drop (HT.sIx ds.length 0 lo)).take (HT.sIx ds.length ds.length hi - HT.sIx ds.length 0 lo)
theorem DtA.cut {F : Hp} {vs : List V} {ds : List PyData} (h : DtA F vs ds) (lo hi : Option Int) : DtA F (cutV vs lo hi) (cutD ds lo hi) := by
  unfold cutV cutD
  rw [h.len]
  exact (h.drop _).take _
def nSlL (da : DE) (lo hi : DO) : DN := fun env Q => da env fun d => lo env fun l => hi env fun u => ∃ ds, d = .list ds ∧ Q (cutD ds l u)
def dSlT (da : DE) (lo hi : DO) : DE := fun env Q => da env fun d => lo env fun l => hi env fun u => ∃ ds, d = .tuple ds ∧ Q (.tuple (cutD ds l u))
variable {lo hi : Option Expr} {tl th : TO} {dl dh : DO} {p2 : Pos}
theorem pen_slL (ha : PEr X a ta da) (hl : POd X lo tl dl) (hh : POd X hi th dh) : PEn X (.Subscript a (.Slice lo hi none p2) pos) (tSl (rSlL X.K) ta tl th) (nSlL da dl dh) := ⟨pe_slice sl_list ha.pe hl.po hh.po, fun B F H σ env Q Qv n q k =>
  ha.s B F H σ env _ _ n q fun v d F1 H1 q1 e1 n1 r1 => hl.s B F1 H1 σ env _ _ n1 q1 fun l F2 H2 q2 e2 n2 => hh.s B F2 H2 σ env _ _ n2 q2 fun u F3 H3 ⟨ds, ed, q3⟩ e3 n3 => by
    subst ed
    obtain ⟨a', vs, rfl, h1, h2⟩ := ((r1.up (e2.trans e3)).rb n3).list n3.g.fh
    refine ⟨a', vs, rfl, SqL.of h1, fun p hp => ?_⟩
    obtain ⟨f1, f2⟩ := Fresh.of n3 hp (h2.cut l u)
    exact k p _ _ F3 _ q3 (e1.trans (e2.trans e3)) f2 f1⟩
theorem cut_all {F : Hp} {vs : List V} {ds : List PyData} (h : DtA F vs ds) {lo hi : Option Int} (h0 : HT.sIx vs.length 0 lo = 0 ∧ HT.sIx vs.length vs.length hi = vs.length) : cutD ds lo hi = ds := by
  unfold cutD
  rw [← h.len, h0.1, h0.2, h.len]
  simp
theorem ped_slT (ha : PEr X a ta da) (hl : POd X lo tl dl) (hh : POd X hi th dh) : PEd X (.Subscript a (.Slice lo hi none p2) pos) (tSl (rSlA X.K) ta tl th) (dSlT da dl dh) := ⟨pe_slice sl_tupA ha.pe hl.po hh.po, fun B F H σ env Q Qv n q k =>
  ha.s B F H σ env _ _ n q fun v d F1 H1 q1 e1 n1 r1 => hl.s B F1 H1 σ env _ _ n1 q1 fun l F2 H2 q2 e2 n2 => hh.s B F2 H2 σ env _ _ n2 q2 fun u F3 H3 ⟨ds, ed, q3⟩ e3 n3 => by
    subst ed
    obtain ⟨a', vs, rfl, h1, h2⟩ := ((r1.up (e2.trans e3)).rb n3).tuple
    refine ⟨a', vs, rfl, SqT.of (n3.g.fh _ _ h1), fun h0 => ?_, fun h0 p hp => ?_⟩
    · rw [cut_all h2 h0] at q3
      exact k _ _ _ _ q3 (e1.trans (e2.trans e3)) n3 (.tup h1 h2)
    · have g : Gro F3 H3 (upd F3 p (.tup (cutV vs l u))) (upd H3 p (.tup (cutV vs l u))) := .new hp
      exact k _ _ _ _ q3 ((e1.trans (e2.trans e3)).trans (g.ex n3.g.fh)) (n3.gro g) (.tup upd_same ((h2.cut l u).up (g.ex n3.g.fh)))⟩
def nRevL (da : DE) : DN := fun env Q => da env fun d => ∃ ds, d = .list ds ∧ Q ds.reverse
theorem pen_revL {k : Nat} {p1 p2 p3 : Pos} (ha : PEr X a ta da) : PEn X (.Subscript a (.Slice none none (some (.UnaryOp .USub (.Constant (.int 1) k p1) p2)) p3) pos) (tRevL X.K ta) (nRevL da) := ⟨pe_revL ha.pe, fun B F H σ env Q Qv n q k =>
  ha.s B F H σ env _ _ n q fun v d F1 H1 ⟨ds, ed, q1⟩ e1 n1 r1 => by
    subst ed
    obtain ⟨a', vs, rfl, h1, h2⟩ := (r1.rb n1).list n1.g.fh
    refine ⟨a', vs, rfl, SqL.of h1, fun p hp => ?_⟩
    obtain ⟨f1, f2⟩ := Fresh.of n1 hp h2.rev
    exact k p _ _ F1 _ q1 e1 f2 f1⟩
end

/-! ### the operators over data -/
section
variable {X : Cx}
def mulOk (i j : Int) : Prop := (i.natAbs < 2 ^ 1000 ∧ j.natAbs < 2 ^ 1000) ∨ j = 0 ∨ j = 1
def addD : PyData → PyData → (PyData → Prop) → Prop
  | .int i, .int j, Q => Q (.int (i + j))
  | .list xs, .list ys, Q => xs.length + ys.length ≤ 1000000 ∧ Q (.list (xs ++ ys))
  | .tuple xs, .tuple ys, Q => xs.length + ys.length ≤ 1000000 ∧ Q (.tuple (xs ++ ys))
  | _, _, _ => False
def subD : PyData → PyData → (PyData → Prop) → Prop
  | .int i, .int j, Q => Q (.int (i - j))
  | _, _, _ => False
def mulD : PyData → PyData → (PyData → Prop) → Prop
  | .int i, .int j, Q => mulOk i j ∧ Q (.int (i * j))
  | .list xs, .int j, Q => 0 ≤ j ∧ j ≤ 1000 ∧ xs.length ≤ 1000 ∧ Q (.list (List.replicate j.toNat xs).flatten)
  | .tuple xs, .int j, Q => 2 ≤ j ∧ j ≤ 1000 ∧ xs.length ≤ 1000 ∧ xs ≠ [] ∧ Q (.tuple (List.replicate j.toNat xs).flatten)
  | _, _, _ => False
def fdivD : PyData → PyData → (PyData → Prop) → Prop
  | .int i, .int j, Q => (0 < j ∧ j.natAbs < 2 ^ 1000) ∧ Q (.int (i / j))
  | _, _, _ => False
def modD : PyData → PyData → (PyData → Prop) → Prop
  | .int i, .int j, Q => 0 < j ∧ Q (.int (i % j))
  | _, _, _ => False
def powD : PyData → PyData → (PyData → Prop) → Prop
  | .int i, .int j, Q => (0 ≤ j ∧ j ≤ 1000 ∧ i.natAbs < 2 ^ 64) ∧ Q (.int (i ^ j.toNat))
  | _, _, _ => False
def ltD : PyData → PyData → (PyData → Prop) → Prop
  | .int i, .int j, Q => Q (.bool (decide (i < j)))
  | _, _, _ => False
def leD : PyData → PyData → (PyData → Prop) → Prop
  | .int i, .int j, Q => Q (.bool (decide (i ≤ j)))
  | _, _, _ => False
def gtD : PyData → PyData → (PyData → Prop) → Prop
  | .int i, .int j, Q => Q (.bool (decide (j < i)))
  | _, _, _ => False
def geD : PyData → PyData → (PyData → Prop) → Prop
  | .int i, .int j, Q => Q (.bool (decide (j ≤ i)))
  | _, _, _ => False

theorem rep_dta {F : Hp} {vs : List V} {ds : List PyData} (h : DtA F vs ds) : ∀ n : Nat, DtA F (List.replicate n vs).flatten (List.replicate n ds).flatten
  | 0 => .nil
  | n + 1 => by
    rw [List.replicate_succ, List.replicate_succ, List.flatten_cons, List.flatten_cons]
    exact h.app (rep_dta h n)
theorem OpR.or {f : Value → Value → Sem Value} {r r' : R2} (h : OpR X f r) (h' : OpR X f r') : OpR X f (fun x y H Q => r x y H Q ∨ r' x y H Q) := fun pins s σ H x y v u Q I rx ry q => by
  rcases q with q | q
  · exact h pins s σ H x y v u Q I rx ry q
  · exact h' pins s σ H x y v u Q I rx ry q
def rAddA (K : PySem.W.Frag) : R2 := fun x y H Q => (rI0 fun i j => .int (i + j)) x y H Q ∨ (rCat x y H Q ∨ rCatA K x y H Q)
theorem op_addA : OpR X (binaryOp .Add) (rAddA X.K) := OpR.or op_add (OpR.or op_cat op_catA)
theorem dta_nil {F : Hp} {vs : List V} (h : DtA F vs []) : vs = [] := by
  cases h
  rfl
theorem dta_nil' {F : Hp} {ds : List PyData} (h : DtA F [] ds) : ds = [] := by
  cases h
  rfl
theorem od_add {K : PySem.W.Frag} : OpD (rAddA K) addD := fun F H x y d e Q Qv ex rx ry q k => by
  cases d with
  | int i =>
    cases e with
    | int j => exact .inl ⟨i, j, rx.int, ry.int, k _ _ F H q .refl (.int _)⟩
    | _ => exact q.elim
  | list xs =>
    cases e with
    | list ys =>
      obtain ⟨hl, q⟩ := (show xs.length + ys.length ≤ 1000000 ∧ Q (.list (xs ++ ys)) from q)
      obtain ⟨a, vs, rfl, h1, h2⟩ := rx.list ex
      obtain ⟨b, ws, rfl, h3, h4⟩ := ry.list ex
      refine .inr (.inl ⟨a, b, vs, ws, rfl, rfl, h1, h3, ?_, fun p hp => ?_⟩)
      · rw [h2.len, h4.len]
        exact Nat.le_trans hl (by decide)
      · have g : Gro F H (upd F p (.lst (vs ++ ws))) (upd H p (.lst (vs ++ ws))) := .new hp
        exact k _ _ _ _ q g (.lst upd_same ((h2.app h4).up (g.ex ex)))
    | _ => exact q.elim
  | tuple xs =>
    cases e with
    | tuple ys =>
      obtain ⟨hl, q⟩ := (show xs.length + ys.length ≤ 1000000 ∧ Q (.tuple (xs ++ ys)) from q)
      obtain ⟨a, vs, rfl, h1, h2⟩ := rx.tuple
      obtain ⟨b, ws, rfl, h3, h4⟩ := ry.tuple
      refine .inr (.inr ⟨a, b, vs, ws, rfl, rfl, SqT.of (ex _ _ h1), SqT.of (ex _ _ h3), ?_, fun z => ?_, fun _ z => ?_, fun _ _ p hp => ?_⟩)
      · rw [h2.len, h4.len]
        exact Nat.le_trans hl (by decide)
      · subst z
        rw [dta_nil' h2] at q
        exact k _ _ F H q .refl (.tup h3 h4)
      · subst z
        rw [dta_nil' h4, List.append_nil] at q
        exact k _ _ F H q .refl (.tup h1 h2)
      · have g : Gro F H (upd F p (.tup (vs ++ ws))) (upd H p (.tup (vs ++ ws))) := .new hp
        exact k _ _ _ _ q g (.tup upd_same ((h2.app h4).up (g.ex ex)))
    | _ => exact q.elim
  | _ => exact q.elim
/-- a list + a list, new -/
def catN : PyData → PyData → (List PyData → Prop) → Prop
  | .list xs, .list ys, Q => xs.length + ys.length ≤ 1000000 ∧ Q (xs ++ ys)
  | _, _, _ => False
theorem on_cat : OpN rCat catN := fun F H x y d e Q Qv ex rx ry q k => by
  cases d with
  | list xs =>
    cases e with
    | list ys =>
      obtain ⟨hl, q⟩ := (show xs.length + ys.length ≤ 1000000 ∧ Q (xs ++ ys) from q)
      obtain ⟨a, vs, rfl, h1, h2⟩ := rx.list ex
      obtain ⟨b, ws, rfl, h3, h4⟩ := ry.list ex
      refine ⟨a, b, vs, ws, rfl, rfl, h1, h3, ?_, fun p hp => k p _ _ q hp (h2.app h4)⟩
      rw [h2.len, h4.len]
      exact Nat.le_trans hl (by decide)
    | _ => exact q.elim
  | _ => exact q.elim
theorem od_int0 {g : Int → Int → Int} {o : PyData → PyData → (PyData → Prop) → Prop} (h : ∀ d e Q, o d e Q → ∃ i j, d = .int i ∧ e = .int j ∧ Q (.int (g i j))) : OpD (rI0 fun i j => .int (g i j)) o := fun F H x y d e Q Qv ex rx ry q k => by
  obtain ⟨i, j, rfl, rfl, q1⟩ := h d e Q q
  exact ⟨i, j, rx.int, ry.int, k _ _ F H q1 .refl (.int _)⟩
theorem od_bool0 {g : Int → Int → Bool} {o : PyData → PyData → (PyData → Prop) → Prop} (h : ∀ d e Q, o d e Q → ∃ i j, d = .int i ∧ e = .int j ∧ Q (.bool (g i j))) : OpD (rI0 fun i j => .bl (g i j)) o := fun F H x y d e Q Qv ex rx ry q k => by
  obtain ⟨i, j, rfl, rfl, q1⟩ := h d e Q q
  exact ⟨i, j, rx.int, ry.int, k _ _ F H q1 .refl (.bl _)⟩
theorem od_sub : OpD (rI0 fun i j => .int (i - j)) subD := od_int0 fun d e Q q => by
  cases d <;> cases e <;> first | exact q.elim | exact ⟨_, _, rfl, rfl, q⟩
theorem od_lt : OpD (rI0 fun i j => .bl (decide (i < j))) ltD := od_bool0 fun d e Q q => by
  cases d <;> cases e <;> first | exact q.elim | exact ⟨_, _, rfl, rfl, q⟩
theorem od_le : OpD (rI0 fun i j => .bl (decide (i ≤ j))) leD := od_bool0 fun d e Q q => by
  cases d <;> cases e <;> first | exact q.elim | exact ⟨_, _, rfl, rfl, q⟩
theorem od_gt : OpD (rI0 fun i j => .bl (decide (j < i))) gtD := od_bool0 fun d e Q q => by
  cases d <;> cases e <;> first | exact q.elim | exact ⟨_, _, rfl, rfl, q⟩
theorem od_ge : OpD (rI0 fun i j => .bl (decide (j ≤ i))) geD := od_bool0 fun d e Q q => by
  cases d <;> cases e <;> first | exact q.elim | exact ⟨_, _, rfl, rfl, q⟩
theorem od_mod : OpD (rI (fun _ j => 0 < j) fun i j => .int (i % j)) modD := fun F H x y d e Q Qv ex rx ry q k => by
  cases d <;> cases e <;> first | exact q.elim | exact ⟨_, _, rx.int, ry.int, q.1, k _ _ F H q.2 .refl (.int _)⟩
theorem od_fdiv : OpD (rI CDivW fun i j => .int (i / j)) fdivD := fun F H x y d e Q Qv ex rx ry q k => by
  cases d <;> cases e <;> first | exact q.elim | exact ⟨_, _, rx.int, ry.int, wide_div q.1.1 q.1.2 (by decide) (by decide), k _ _ F H q.2 .refl (.int _)⟩
theorem od_pow : OpD (rI CPow fun i j => .int (i ^ j.toNat)) powD := fun F H x y d e Q Qv ex rx ry q k => by
  cases d <;> cases e <;> first | exact q.elim | exact ⟨_, _, rx.int, ry.int, ⟨q.1.1, Int.le_trans q.1.2.1 (by decide), q.1.2.2⟩, k _ _ F H q.2 .refl (.int _)⟩
def CMulA (i j : Int) : Prop := CMul i j ∨ CMulW i j
theorem op_mulA : OpR X (binaryOp .Mult) (rI CMulA fun i j => .int (i * j)) := fun pins s σ H x y v u Q I rx ry q => by
  obtain ⟨i, j, e1, e2, c | c, q⟩ := q
  · exact op_mul pins s σ H x y v u Q I rx ry ⟨i, j, e1, e2, c, q⟩
  · exact op_mulW pins s σ H x y v u Q I rx ry ⟨i, j, e1, e2, c, q⟩
theorem mulOk.a {i j : Int} (h : mulOk i j) : CMulA i j := by
  rcases h with ⟨h1, h2⟩ | rfl | rfl
  · exact .inr (wide_mul h1 h2 (by decide) (by decide) (by decide))
  · exact .inl (.inr ⟨by decide, by decide⟩)
  · exact .inl (.inr ⟨by decide, by decide⟩)
def rMulA (K : PySem.W.Frag) : R2 := fun x y H Q => (rI CMulA fun i j => .int (i * j)) x y H Q ∨ (rRep x y H Q ∨ rRepT K x y H Q)
theorem op_mulB : OpR X (binaryOp .Mult) (rMulA X.K) := OpR.or op_mulA (OpR.or op_rep op_repT)
theorem od_mul {K : PySem.W.Frag} : OpD (rMulA K) mulD := fun F H x y d e Q Qv ex rx ry q k => by
  cases d with
  | int i =>
    cases e with
    | int j => exact .inl ⟨i, j, rx.int, ry.int, q.1.a, k _ _ F H q.2 .refl (.int _)⟩
    | _ => exact q.elim
  | list xs =>
    cases e with
    | int j =>
      obtain ⟨h0, h9, hl, q⟩ := (show 0 ≤ j ∧ j ≤ 1000 ∧ xs.length ≤ 1000 ∧ Q (.list (List.replicate j.toNat xs).flatten) from q)
      obtain ⟨a, vs, rfl, h1, h2⟩ := rx.list ex
      refine .inr (.inl ⟨a, j, vs, rfl, ry.int, h1, by omega, by omega, ?_, fun p hp => ?_⟩)
      · rw [h2.len]
        refine Nat.le_trans (Nat.mul_le_mul hl (show j.toNat ≤ 1000 by omega)) (by decide)
      · have g : Gro F H (upd F p (.lst (List.replicate j.toNat vs).flatten)) (upd H p (.lst (List.replicate j.toNat vs).flatten)) := .new hp
        exact k _ _ _ _ q g (.lst upd_same ((rep_dta h2 _).up (g.ex ex)))
    | _ => exact q.elim
  | tuple xs =>
    cases e with
    | int j =>
      obtain ⟨h0, h9, hl, hn, q⟩ := (show 2 ≤ j ∧ j ≤ 1000 ∧ xs.length ≤ 1000 ∧ xs ≠ [] ∧ Q (.tuple (List.replicate j.toNat xs).flatten) from q)
      obtain ⟨a, vs, rfl, h1, h2⟩ := rx.tuple
      refine .inr (.inr ⟨a, j, vs, rfl, ry.int, SqT.of (ex _ _ h1), fun z => ?_, h0, h9, by rw [h2.len]; exact hl, fun p hp => ?_⟩)
      · subst z
        exact hn (dta_nil' h2)
      · have g : Gro F H (upd F p (.tup (List.replicate j.toNat vs).flatten)) (upd H p (.tup (List.replicate j.toNat vs).flatten)) := .new hp
        exact k _ _ _ _ q g (.tup upd_same ((rep_dta h2 _).up (g.ex ex)))
    | _ => exact q.elim
  | _ => exact q.elim

/-! ### ==, !=, is None, in -/
def eqD (d e : PyData) (Q : PyData → Prop) : Prop := SeqAt.shaped d = true ∧ SeqAt.shaped e = true ∧ Q (.bool (PyData.eqv d e))
def neD (d e : PyData) (Q : PyData → Prop) : Prop := SeqAt.shaped d = true ∧ SeqAt.shaped e = true ∧ Q (.bool (!PyData.eqv d e))
theorem od_eq {K : PySem.W.Frag} : OpD (rEqD K) eqD := fun F H x y d e Q Qv ex rx ry q k => ⟨d, e, (rx.dt ex).dp, (ry.dt ex).dp, q.1, q.2.1, k _ _ F H q.2.2 .refl (.bl _)⟩
theorem od_ne {K : PySem.W.Frag} : OpD (rNeD K) neD := fun F H x y d e Q Qv ex rx ry q k => ⟨d, e, (rx.dt ex).dp, (ry.dt ex).dp, q.1, q.2.1, k _ _ F H q.2.2 .refl (.bl _)⟩
def isNone : PyData → Bool
  | .none => true
  | _ => false
def isD (d e : PyData) (Q : PyData → Prop) : Prop := e = .none ∧ Q (.bool (isNone d))
def isntD (d e : PyData) (Q : PyData → Prop) : Prop := e = .none ∧ Q (.bool (!isNone d))
theorem isNone_v {F : Hp} {H : Hp} {v : V} {d : PyData} (h : Rb F H v d) : decide (v = .non) = isNone d := by
  rcases h with h | ⟨l, vs, ds, rfl, rfl, _⟩
  · cases h <;> rfl
  · rfl
theorem od_is : OpD (fun x y H Q => y = .non ∧ Q (.bl (decide (x = .non))) H) isD := fun F H x y d e Q Qv ex rx ry q k => by
  obtain ⟨rfl, q⟩ := q
  refine ⟨ry.none, ?_⟩
  rw [isNone_v rx]
  exact k _ _ F H q .refl (.bl _)
theorem od_isnt : OpD (fun x y H Q => y = .non ∧ Q (.bl (!decide (x = .non))) H) isntD := fun F H x y d e Q Qv ex rx ry q k => by
  obtain ⟨rfl, q⟩ := q
  refine ⟨ry.none, ?_⟩
  rw [isNone_v rx]
  exact k _ _ F H q .refl (.bl _)
/-- an int in a tuple of ints; data in a list of data -/
def inD (neg : Bool) : PyData → PyData → (PyData → Prop) → Prop
  | .int i, .tuple ds, Q => ∃ ns : List Int, ds = ns.map .int ∧ Q (.bool (if neg = true then !decide (i ∈ ns) else decide (i ∈ ns)))
  | d, .list ds, Q => SeqAt.shaped d = true ∧ SeqAt.shaped (.list ds) = true ∧ Q (.bool (if neg = true then !(ds.any fun z => PyData.eqv z d) else ds.any fun z => PyData.eqv z d))
  | _, _, _ => False
theorem inV_ints (i : Int) : ∀ ns : List Int, inV (.int i) (ns.map V.int) = decide (i ∈ ns)
  | [] => by rfl
  | n :: ns => by
    show ((eqV (.int n) (.int i)) || inV (.int i) (ns.map V.int)) = _
    rw [inV_ints i ns]
    have : eqV (.int n) (.int i) = decide (n = i) := by
      rw [show eqV (.int n) (.int i) = (n == i) from rfl]
      rw [Bool.eq_iff_iff]
      simp
    rw [this, Bool.eq_iff_iff]
    simp
    constructor
    · rintro (h | h)
      · exact .inl h.symm
      · exact .inr h
    · rintro (h | h)
      · exact .inl h.symm
      · exact .inr h
theorem flat_ints : ∀ ns : List Int, (ns.map V.int).all flatV = true
  | [] => rfl
  | n :: ns => by
    show (flatV (.int n) && (ns.map V.int).all flatV) = true
    rw [flat_ints ns]
    rfl
def rInA (K : PySem.W.Frag) : R2 := fun x y H Q => rIn K false x y H Q ∨ rInD K x y H Q
def rNiA (K : PySem.W.Frag) : R2 := fun x y H Q => rIn K true x y H Q ∨ rNotInD K x y H Q
theorem op_inA (hu : X.A.units + 65 < cLine) : OpR X (compareOp .In) (rInA X.K) := OpR.or op_in_seq (op_inD hu)
theorem op_niA (hu : X.A.units + 65 < cLine) : OpR X (compareOp .NotIn) (rNiA X.K) := OpR.or op_notIn_seq (op_notInD hu)
theorem od_in {K : PySem.W.Frag} : OpD (rInA K) (inD false) := fun F H x y d e Q Qv ex rx ry q k => by
  cases e with
  | list ds =>
    have q' : SeqAt.shaped d = true ∧ SeqAt.shaped (.list ds) = true ∧ Q (.bool (ds.any fun z => PyData.eqv z d)) := by
      cases d <;> exact q
    exact .inr ⟨d, ds, (rx.dt ex).dp, (ry.dt ex).dp, q'.1, q'.2.1, k _ _ F H q'.2.2 .refl (.bl _)⟩
  | tuple ds =>
    cases d with
    | int i =>
      obtain ⟨ns, rfl, q⟩ := q
      obtain ⟨a, vs, rfl, h1, h2⟩ := ry.tuple
      have := h2.ints
      subst this
      refine .inl ⟨a, _, rfl, .inr (SqT.of (ex _ _ h1)), by rw [rx.int]; rfl, flat_ints ns, ?_⟩
      rw [rx.int, if_neg Bool.false_ne_true, inV_ints]
      exact k _ _ F H q .refl (.bl _)
    | _ => exact q.elim
  | _ => cases d <;> exact q.elim
theorem od_ni {K : PySem.W.Frag} : OpD (rNiA K) (inD true) := fun F H x y d e Q Qv ex rx ry q k => by
  cases e with
  | list ds =>
    have q' : SeqAt.shaped d = true ∧ SeqAt.shaped (.list ds) = true ∧ Q (.bool (!(ds.any fun z => PyData.eqv z d))) := by
      cases d <;> exact q
    exact .inr ⟨d, ds, (rx.dt ex).dp, (ry.dt ex).dp, q'.1, q'.2.1, k _ _ F H q'.2.2 .refl (.bl _)⟩
  | tuple ds =>
    cases d with
    | int i =>
      obtain ⟨ns, rfl, q⟩ := q
      obtain ⟨a, vs, rfl, h1, h2⟩ := ry.tuple
      have := h2.ints
      subst this
      refine .inl ⟨a, _, rfl, .inr (SqT.of (ex _ _ h1)), by rw [rx.int]; rfl, flat_ints ns, ?_⟩
      rw [rx.int, if_pos rfl, inV_ints]
      exact k _ _ F H q .refl (.bl _)
    | _ => exact q.elim
  | _ => cases d <;> exact q.elim

/-! ### subscripts -/
def ixD : PyData → PyData → (PyData → Prop) → Prop
  | .list ds, .int i, Q => ∃ z, atI ds i = some z ∧ Q z
  | .tuple ds, .int i, Q => ∃ z, atI ds i = some z ∧ Q z
  | _, _, _ => False
theorem atI_dta {F : Hp} {vs : List V} {ds : List PyData} {i : Int} {z : PyData} (h : DtA F vs ds) (e : atI ds i = some z) : ∃ v, atI vs i = some v ∧ Dt F v z := by
  unfold atI at e ⊢
  rw [h.len]
  cases q : ixN ds.length i with
  | none =>
    rw [q] at e
    cases e
  | some j =>
    rw [q] at e
    exact h.get e
theorem od_ix {K : PySem.W.Frag} : OpD (rIx K) ixD := fun F H x y d e Q Qv ex rx ry q k => by
  cases d with
  | list ds =>
    cases e with
    | int i =>
      obtain ⟨z, hz, q⟩ := q
      obtain ⟨a, vs, rfl, h1, h2⟩ := rx.list ex
      obtain ⟨v, h3, h4⟩ := atI_dta h2 hz
      exact .inl ⟨a, vs, i, v, rfl, ry.int, SqL.of h1, h3, k _ _ F H q .refl h4⟩
    | _ => exact q.elim
  | tuple ds =>
    cases e with
    | int i =>
      obtain ⟨z, hz, q⟩ := q
      obtain ⟨a, vs, rfl, h1, h2⟩ := rx.tuple
      obtain ⟨v, h3, h4⟩ := atI_dta h2 hz
      exact .inr (.inl ⟨a, vs, i, v, rfl, ry.int, SqT.of (ex _ _ h1), h3, k _ _ F H q .refl h4⟩)
    | _ => exact q.elim
  | _ => exact q.elim

/-! ### built-ins over data -/
theorem paired1 {α β : Type} {R : α → β → Prop} {xs : List α} {y : β} (h : Paired R xs [y]) : ∃ x, xs = [x] ∧ R x y := by
  cases h with
  | cons r t =>
    cases t
    exact ⟨_, rfl, r⟩
theorem paired2 {α β : Type} {R : α → β → Prop} {xs : List α} {y z : β} (h : Paired R xs [y, z]) : ∃ x w, xs = [x, w] ∧ R x y ∧ R w z := by
  cases h with
  | cons r t =>
    obtain ⟨w, rfl, r2⟩ := paired1 t
    exact ⟨_, w, rfl, r, r2⟩
def lenD : List PyData → (PyData → Prop) → Prop
  | [.list ds], Q => Q (.int ds.length)
  | [.tuple ds], Q => Q (.int ds.length)
  | _, _ => False
theorem cd_len : CallD (fun xs H Q => ∃ p ys, xs = [.ref p] ∧ (SqL X.K H p ys ∨ SqT X.K H p ys) ∧ Q (.int ys.length) H) lenD := fun F H xs ds Q Qv ex r q k => by
  unfold lenD at q
  split at q
  · obtain ⟨x, rfl, r1⟩ := paired1 r
    obtain ⟨a, vs, rfl, h1, h2⟩ := r1.list ex
    exact ⟨a, vs, rfl, .inl (SqL.of h1), by rw [h2.len]; exact k _ _ F H q .refl (.int _)⟩
  · obtain ⟨x, rfl, r1⟩ := paired1 r
    obtain ⟨a, vs, rfl, h1, h2⟩ := r1.tuple
    exact ⟨a, vs, rfl, .inr (SqT.of (ex _ _ h1)), by rw [h2.len]; exact k _ _ F H q .refl (.int _)⟩
  · exact q.elim
def intD : List PyData → (PyData → Prop) → Prop
  | [.int i], Q => Q (.int i)
  | [.bool b], Q => Q (.int (if b = true then 1 else 0))
  | _, _ => False
theorem cd_int : CallD (fun xs H Q => (∃ i, xs = [.int i] ∧ Q (.int i) H) ∨ ∃ k, xs = [.bl k] ∧ Q (.int (if k then 1 else 0)) H) intD := fun F H xs ds Q Qv ex r q k => by
  unfold intD at q
  split at q
  · obtain ⟨x, rfl, r1⟩ := paired1 r
    rw [r1.int]
    exact .inl ⟨_, rfl, k _ _ F H q .refl (.int _)⟩
  · obtain ⟨x, rfl, r1⟩ := paired1 r
    rw [r1.bool]
    exact .inr ⟨_, rfl, k _ _ F H q .refl (.int _)⟩
  · exact q.elim
def max2D : List PyData → (PyData → Prop) → Prop
  | [.int i, .int j], Q => Q (.int (max i j))
  | _, _ => False
def min2D : List PyData → (PyData → Prop) → Prop
  | [.int i, .int j], Q => Q (.int (min i j))
  | _, _ => False
theorem cd_max2 : CallD (fun xs H Q => ∃ i j, xs = [.int i, .int j] ∧ Q (.int (if j > i then j else i)) H) max2D := fun F H xs ds Q Qv ex r q k => by
  unfold max2D at q
  split at q
  · obtain ⟨x, y, rfl, r1, r2⟩ := paired2 r
    rw [r1.int, r2.int]
    refine ⟨_, _, rfl, ?_⟩
    rename_i i j
    have e : (if j > i then j else i) = max i j := by
      split <;> omega
    rw [e]
    exact k _ _ F H q .refl (.int _)
  · exact q.elim
theorem cd_min2 : CallD (fun xs H Q => ∃ i j, xs = [.int i, .int j] ∧ Q (.int (if j < i then j else i)) H) min2D := fun F H xs ds Q Qv ex r q k => by
  unfold min2D at q
  split at q
  · obtain ⟨x, y, rfl, r1, r2⟩ := paired2 r
    rw [r1.int, r2.int]
    refine ⟨_, _, rfl, ?_⟩
    rename_i i j
    have e : (if j < i then j else i) = min i j := by
      split <;> omega
    rw [e]
    exact k _ _ F H q .refl (.int _)
  · exact q.elim
/-- of one list of ints -/
def sumD (ds : List PyData) (Q : PyData → Prop) : Prop := ∃ ns : List Int, ds = [.list (ns.map .int)] ∧ Q (.int ns.sum)
def maxD (ds : List PyData) (Q : PyData → Prop) : Prop := ∃ ns : List Int, ds = [.list (ns.map .int)] ∧ ns ≠ [] ∧ ∀ m, m ∈ ns → (∀ y ∈ ns, y ≤ m) → Q (.int m)
def minD (ds : List PyData) (Q : PyData → Prop) : Prop := ∃ ns : List Int, ds = [.list (ns.map .int)] ∧ ns ≠ [] ∧ ∀ m, m ∈ ns → (∀ y ∈ ns, m ≤ y) → Q (.int m)
def allD (ds : List PyData) (Q : PyData → Prop) : Prop := ∃ bs : List Bool, ds = [.list (bs.map .bool)] ∧ Q (.bool (bs.all id))
theorem cd_sum {K : PySem.W.Frag} : CallD (rSum K) sumD := fun F H xs ds Q Qv ex r q k => by
  obtain ⟨ns, rfl, q⟩ := q
  obtain ⟨x, rfl, r1⟩ := paired1 r
  obtain ⟨a, vs, rfl, h1, h2⟩ := r1.list ex
  rw [h2.ints] at h1
  exact ⟨a, ns, rfl, SqL.of h1, k _ _ F H q .refl (.int _)⟩
theorem cd_max {K : PySem.W.Frag} : CallD (rMax K) maxD := fun F H xs ds Q Qv ex r q k => by
  obtain ⟨ns, rfl, hn, q⟩ := q
  obtain ⟨x, rfl, r1⟩ := paired1 r
  obtain ⟨a, vs, rfl, h1, h2⟩ := r1.list ex
  rw [h2.ints] at h1
  exact ⟨a, ns, rfl, SqL.of h1, List.length_pos_iff.mpr hn, fun m hm hy => k _ _ F H (q m hm hy) .refl (.int _)⟩
theorem cd_min {K : PySem.W.Frag} : CallD (rMin K) minD := fun F H xs ds Q Qv ex r q k => by
  obtain ⟨ns, rfl, hn, q⟩ := q
  obtain ⟨x, rfl, r1⟩ := paired1 r
  obtain ⟨a, vs, rfl, h1, h2⟩ := r1.list ex
  rw [h2.ints] at h1
  exact ⟨a, ns, rfl, SqL.of h1, List.length_pos_iff.mpr hn, fun m hm hy => k _ _ F H (q m hm hy) .refl (.int _)⟩
theorem cd_all {K : PySem.W.Frag} : CallD (rAll K) allD := fun F H xs ds Q Qv ex r q k => by
  obtain ⟨ns, rfl, q⟩ := q
  obtain ⟨x, rfl, r1⟩ := paired1 r
  obtain ⟨a, vs, rfl, h1, h2⟩ := r1.list ex
  rw [h2.bools] at h1
  exact ⟨a, ns, rfl, SqL.of h1, k _ _ F H q .refl (.bl _)⟩
/-- list(xs), tuple(xs) -/
def listN : List PyData → (List PyData → Prop) → Prop
  | [.list ds], Q => Q ds
  | [.tuple ds], Q => Q ds
  | _, _ => False
theorem cn_list : CallN (fun xs H Q => ∃ p ys, xs = [.ref p] ∧ (SqL X.K H p ys ∨ SqT X.K H p ys) ∧ ∀ l, H l = none → Q (.ref l) (upd H l (.lst ys))) listN := fun F H xs ds Q Qv ex r q k => by
  unfold listN at q
  split at q
  · obtain ⟨x, rfl, r1⟩ := paired1 r
    obtain ⟨a, vs, rfl, h1, h2⟩ := r1.list ex
    exact ⟨a, vs, rfl, .inl (SqL.of h1), fun p hp => k p vs _ q hp h2⟩
  · obtain ⟨x, rfl, r1⟩ := paired1 r
    obtain ⟨a, vs, rfl, h1, h2⟩ := r1.tuple
    exact ⟨a, vs, rfl, .inr (SqT.of (ex _ _ h1)), fun p hp => k p vs _ q hp h2⟩
  · exact q.elim
def tupleD : List PyData → (PyData → Prop) → Prop
  | [.list ds], Q => Q (.tuple ds)
  | [.tuple ds], Q => Q (.tuple ds)
  | _, _ => False
theorem cd_tuple : CallD (fun xs H Q => ∃ p ys, xs = [.ref p] ∧ ((SqL X.K H p ys ∧ ∀ l, H l = none → Q (.ref l) (upd H l (.tup ys))) ∨ (SqT X.K H p ys ∧ Q (.ref p) H))) tupleD := fun F H xs ds Q Qv ex r q k => by
  unfold tupleD at q
  split at q
  · obtain ⟨x, rfl, r1⟩ := paired1 r
    obtain ⟨a, vs, rfl, h1, h2⟩ := r1.list ex
    refine ⟨a, vs, rfl, .inl ⟨SqL.of h1, fun p hp => ?_⟩⟩
    have g : Gro F H (upd F p (.tup vs)) (upd H p (.tup vs)) := .new hp
    exact k _ _ _ _ q g (.tup upd_same (h2.up (g.ex ex)))
  · obtain ⟨x, rfl, r1⟩ := paired1 r
    obtain ⟨a, vs, rfl, h1, h2⟩ := r1.tuple
    exact ⟨a, vs, rfl, .inr ⟨SqT.of (ex _ _ h1), k _ _ F H q .refl (.tup h1 h2)⟩⟩
  · exact q.elim
/-! isinstance -/
def tyD : PyData → String
  | .none => "NoneType"
  | .bool _ => "bool"
  | .int _ => "int"
  | .str _ => "str"
  | .list _ => "list"
  | .tuple _ => "tuple"
  | .dict _ => "dict"
theorem ty_of {K : PySem.W.Frag} {H : Hp} {v : V} {d : PyData} (h : Dt H v d) : TyX K H v (.type (tyD d)) := by
  cases h with
  | non => exact .base .non
  | bl b => exact .base (.bl b)
  | int i => exact .base (.int i)
  | str x => exact .base (.str x)
  | lst h1 _ => exact .base (.lst h1)
  | tup h1 _ => exact .base (.tup h1)
def isiD (T : String) (d : PyData) (Q : PyData → Prop) : Prop := ∃ b, kitB (tyD d) T = some b ∧ Q (.bool b)
variable {a : Expr} {ta : TE} {da : DE} {p p2 pos : Pos} {x : Str}
theorem ped_isi {T : String} (hg : Gl X "isinstance") (hm : X.mg "isinstance" = none) (hgT : Gl X x) (hmT : X.mg x = none) (hv : bootBuiltins x = some (.type T)) (ha : PEr X a ta da) (hdb : (x == ("__debug__" : Str)) = false := by decide) (hnm : x ≠ "__name__" := by decide)
    (he : starEach [a, .Name x p2] X.env = (false, eval a X.env) :: starEach [.Name x p2] X.env := by rfl) (he2 : starEach [.Name x p2] X.env = (false, eval (.Name x p2) X.env) :: starEach [] X.env := by rfl) (hpl : (backTo pos (starEach [.Name x p2] X.env)).any (·.1) = false := by rfl) :
    PEd X (.Call (.Name "isinstance" p) [a, .Name x p2] [] pos) (tCB (rIsi X.K) (tCons ta (tCons (tC (.ty T)) tNil))) (d1 (isiD T) da) :=
  ⟨pe_callB call_isi hg hm (by decide +kernel) (pa_cons ha.pe (pa_cons (pe_bltn (v := .ty T) hgT hmT hv rfl hnm hdb) pa_nil he2) he) (by decide) (by decide) he hpl, fun B F H σ env Q Qv n q k =>
    ha.s B F H σ env _ _ n q fun v d F1 H1 ⟨b, eb, q1⟩ e1 n1 r1 => ⟨v, .ty T, .type (tyD d), .type T, b, rfl, .ty T, ty_of ((r1.rb n1).dt n1.g.fh), kit_ty eb, k _ _ _ _ q1 e1 n1 (.bl b)⟩⟩
end
end Pd

set_option maxRecDepth 100000
set_option maxHeartbeats 4000000
namespace Pd
open PySem L2
open Evl (Ex)

/-! ### statements -/
inductive RVd where
  | dat (d : PyData) | new (ds : List PyData)
def RVd.d : RVd → PyData
  | .dat d => d
  | .new ds => .list ds
structure DEnds where
  nx : Denv → Prop
  rt : RVd → Prop
  bk : Denv → Prop := fun _ => False
  ct : Denv → Prop := fun _ => False
abbrev DS := DEnds → Denv → Prop
def ROk (B : Bs) (F H : Hp) (v : V) : RVd → Prop
  | .dat d => Dt F v d
  | .new ds => ∃ l vs, v = .ref l ∧ B.H l = none ∧ F l = none ∧ H l = some (.lst vs) ∧ DtA F vs ds
structure EOk (B : Bs) (F : Hp) (Dd : DEnds) (D : Ends) : Prop where
  nx : ∀ F' H' σ' env', Ex F F' → Den B F' H' σ' env' → Dd.nx env' → D.nx σ' H'
  rt : ∀ F' H' v r, Ex F F' → Grow B F' H' → ROk B F' H' v r → Dd.rt r → D.rt v H'
  bk : ∀ F' H' σ' env', Ex F F' → Den B F' H' σ' env' → Dd.bk env' → D.bk σ' H'
  ct : ∀ F' H' σ' env', Ex F F' → Den B F' H' σ' env' → Dd.ct env' → D.ct σ' H'
theorem EOk.up {B : Bs} {F F' : Hp} {Dd : DEnds} {D : Ends} (h : EOk B F Dd D) (e : Ex F F') : EOk B F' Dd D :=
  ⟨fun F2 H2 σ2 env2 e2 => h.nx F2 H2 σ2 env2 (e.trans e2), fun F2 H2 v r e2 => h.rt F2 H2 v r (e.trans e2), fun F2 H2 σ2 env2 e2 => h.bk F2 H2 σ2 env2 (e.trans e2), fun F2 H2 σ2 env2 e2 => h.ct F2 H2 σ2 env2 (e.trans e2)⟩
def Ss (ts : TS) (t : DS) : Prop := ∀ B F H σ env D Dd, Den B F H σ env → EOk B F Dd D → t Dd env → ts D σ H
structure PSd (X : Cx) (st : Stmt) (ts : TS) (t : DS) : Prop where
  ps : PS X st ts
  s : Ss ts t
structure PSsd (X : Cx) (st : List Stmt) (ts : TS) (t : DS) : Prop where
  ps : PSs X st ts
  s : Ss ts t

section
variable {X : Cx} {e a b : Expr} {te ta tb : TE} {dd da db : DE} {dn dm : DN} {dt : DT} {tt : TT} {st : Stmt} {sts sts2 : List Stmt} {ts us : TS} {d u : DS} {pos : Pos}
def dNext : DS := fun D env => D.nx env
def dSeq (t u : DS) : DS := fun D env => t { D with nx := u D } env
theorem pssd_nil : PSsd X [] tNext dNext := ⟨pss_nil, fun B F H σ env D Dd n k q => k.nx F H σ env (Ex.refl F) n q⟩
theorem ss_seq (h1 : Ss ts d) (h2 : Ss us u) : Ss (tSeq ts us) (dSeq d u) := fun B F H σ env D Dd n k q =>
  h1 B F H σ env { D with nx := us D } { Dd with nx := u Dd } n ⟨fun F' H' σ' env' e' n' q' => h2 B F' H' σ' env' D Dd n' (k.up e') q', k.rt, k.bk, k.ct⟩ q
theorem pssd_cons (h1 : PSd X st ts d) (h2 : PSsd X sts us u) : PSsd X (st :: sts) (tSeq ts us) (dSeq d u) := ⟨pss_cons h1.ps h2.ps, ss_seq h1.s h2.s⟩
theorem pssd_one (h1 : PSd X st ts d) : PSsd X [st] ts d := ⟨pss_one h1.ps, h1.s⟩
/-- an own list is frozen ahead of a block -/
def dFreeze (i : Nat) (t : DS) : DS := fun D env => ∃ ds, env[i]? = some (some (.own ds)) ∧ t D (env.set i (some (.dat (.list ds))))
theorem pssd_freeze (i : Nat) (h : PSsd X sts ts d) : PSsd X sts ts (dFreeze i d) := ⟨h.ps, fun B F H σ env D Dd n k q => by
  obtain ⟨ds, h1, q⟩ := q
  obtain ⟨F', e', n'⟩ := n.freeze h1
  exact h.s B F' H σ _ D Dd n' (k.up e') q⟩
def dPass : DS := fun D env => D.nx env
def dNever : DS := fun _ _ => False
theorem psd_never : PSd X st tNever dNever := ⟨ps_never, fun _ _ _ _ _ _ _ _ _ q => q.elim⟩
theorem pssd_never : PSsd X sts tNever dNever := ⟨pss_never, fun _ _ _ _ _ _ _ _ _ q => q.elim⟩
def dDrop (t : DE) : DS := fun D env => t env fun _ => D.nx env
theorem psd_expr (h : PEd X e te dd) (hp : PS X (.Expr e pos) (tDrop te)) : PSd X (.Expr e pos) (tDrop te) (dDrop dd) := ⟨hp, fun B F H σ env D Dd n k q =>
  h.s B F H σ env _ _ n q fun v d F' H' q' e' n' _ => k.nx F' H' σ env e' n' q'⟩
def dRet (t : DE) : DS := fun D env => t env fun d => D.rt (.dat d)
def dRetN (t : DN) : DS := fun D env => t env fun ds => D.rt (.new ds)
def dRetO (i : Nat) : DS := fun D env => ∃ ds, env[i]? = some (some (.own ds)) ∧ D.rt (.new ds)
theorem psd_ret (h : PEd X e te dd) (hp : PS X (.Return (some e) pos) (tRet te)) : PSd X (.Return (some e) pos) (tRet te) (dRet dd) := ⟨hp, fun B F H σ env D Dd n k q =>
  h.s B F H σ env _ _ n q fun v d F' H' q' e' n' t' => k.rt F' H' v (.dat d) e' n'.g t' q'⟩
theorem psd_retN (h : PEn X e te dn) (hp : PS X (.Return (some e) pos) (tRet te)) : PSd X (.Return (some e) pos) (tRet te) (dRetN dn) := ⟨hp, fun B F H σ env D Dd n k q =>
  h.s B F H σ env _ _ n q fun l vs ds F' H' q' e' n' f => k.rt F' H' _ (.new ds) e' n'.g ⟨l, vs, rfl, f.b, f.f, f.h, f.d⟩ q'⟩
theorem psd_retO (i : Nat) (hp : PS X (.Return (some e) pos) (tRet (tVar i))) : PSd X (.Return (some e) pos) (tRet (tVar i)) (dRetO i) := ⟨hp, fun B F H σ env D Dd n k q => by
  obtain ⟨ds, h1, q⟩ := q
  obtain ⟨l, vs, h2, h3⟩ := n.own h1
  exact ⟨_, h2, k.rt F H _ (.new ds) (Ex.refl F) n.g ⟨l, vs, rfl, h3⟩ q⟩⟩
def dRet0 : DS := fun D _ => D.rt (.dat .none)
theorem psd_ret0 (hp : PS X (.Return none pos) tRetN) : PSd X (.Return none pos) tRetN dRet0 := ⟨hp, fun B F H σ env D Dd n k q => k.rt F H _ (.dat .none) (Ex.refl F) n.g .non q⟩
def dIfS (c : DT) (t u : DS) : DS := fun D env => c env fun b => if b = true then t D env else u D env
theorem psd_if {c : Expr} (hc : PTd X c tt dt) (h1 : PSsd X sts ts d) (h2 : PSsd X sts2 us u) (hp : PS X (.If c sts sts2 pos) (tIfS tt ts us)) : PSd X (.If c sts sts2 pos) (tIfS tt ts us) (dIfS dt d u) := ⟨hp, fun B F H σ env D Dd n k q =>
  hc.s B F H σ env _ _ n q fun b F' H' q' e' n' => by
    cases b with
    | true => exact h1.s B F' H' σ env D Dd n' (k.up e') q'
    | false => exact h2.s B F' H' σ env D Dd n' (k.up e') q'⟩

/-! ### targets -/
abbrev DG := PyData → Denv → (Denv → Prop) → Prop
abbrev DGs := List PyData → Denv → (Denv → Prop) → Prop
def Sg (g : TG) (dg : DG) (vs : List Nat) : Prop := ∀ B F H σ env v d Q Qg, Den B F H σ env → Dt F v d → dg d env Q → (∀ σ' env', Q env' → Den B F H σ' env' → σ'.length = σ.length → (∀ i, i ∉ vs → σ'[i]? = σ[i]?) → Qg σ' H) → g v σ H Qg
def Sgs (g : TGs) (dg : DGs) (vs : List Nat) : Prop := ∀ B F H σ env ws ds Q Qg, Den B F H σ env → DtA F ws ds → dg ds env Q → (∀ σ' env', Q env' → Den B F H σ' env' → σ'.length = σ.length → (∀ i, i ∉ vs → σ'[i]? = σ[i]?) → Qg σ' H) → g ws σ H Qg
structure PGd (X : Cx) (tg : Expr) (g : TG) (dg : DG) (vs : List Nat) : Prop where
  pg : PG X tg g
  s : Sg g dg vs
structure PGsd (X : Cx) (tgs : List Expr) (g : TGs) (dg : DGs) (vs : List Nat) : Prop where
  pg : PGs X tgs g
  s : Sgs g dg vs
def gdName (i : Nat) : DG := fun d env Q => Q (env.set i (some (.dat d)))
def gdNil : DGs := fun ds env Q => ds = [] ∧ Q env
def gdCons (g : DG) (gs : DGs) : DGs := fun ds env Q => ∃ d r, ds = d :: r ∧ g d env fun env' => gs r env' Q
def gdTup (n : Nat) (gs : DGs) : DG := fun d env Q => ∃ ds, d = .tuple ds ∧ ds.length = n ∧ gs ds env Q
theorem sg_name (i : Nat) : Sg (gName i) (gdName i) [i] := fun B F H σ env v d Q Qg n t q k => k _ _ q (n.setD t) (by rw [List.length_set]) fun j hj => by
  rw [List.getElem?_set_ne]
  intro z
  subst z
  exact hj List.mem_cons_self
theorem pgd_name (i : Nat) (h : PG X e (gName i)) : PGd X e (gName i) (gdName i) [i] := ⟨h, sg_name i⟩
theorem pgsd_nil : PGsd X [] gNil gdNil [] := ⟨pgs_nil, fun B F H σ env ws ds Q Qg n t q k => by
  obtain ⟨rfl, q⟩ := q
  cases t
  exact ⟨rfl, k _ _ q n rfl fun _ _ => rfl⟩⟩
variable {g : TG} {gs : TGs} {dg : DG} {dgs : DGs} {vs vs1 vs2 : List Nat} {es : List Expr}
theorem sgs_cons (h1 : Sg g dg vs1) (h2 : Sgs gs dgs vs2) : Sgs (gCons g gs) (gdCons dg dgs) (vs1 ++ vs2) := fun B F H σ env ws ds Q Qg n t q k => by
  obtain ⟨d, r, rfl, q⟩ := q
  cases t with
  | cons t1 t2 =>
    refine ⟨_, _, rfl, h1 B F H σ env _ d _ _ n t1 q fun σ1 env1 q1 n1 l1 s1 => h2 B F H σ1 env1 _ r Q _ n1 t2 q1 fun σ2 env2 q2 n2 l2 s2 => k σ2 env2 q2 n2 (l2.trans l1) fun i hi => ?_⟩
    rw [List.mem_append, not_or] at hi
    exact (s2 i hi.2).trans (s1 i hi.1)
theorem sg_tup {K : PySem.W.Frag} {m : Nat} (h : Sgs gs dgs vs) : Sg (gTup K m gs) (gdTup m dgs) vs := fun B F H σ env v d Q Qg n t q k => by
  obtain ⟨ds, rfl, hl, q⟩ := q
  cases t with
  | tup h1 h2 => exact ⟨_, _, rfl, SqT.of (n.g.fh _ _ h1), h2.len.trans hl, h B F H σ env _ ds Q Qg n h2 q k⟩
def dAsgG (t : DE) (g : DG) : DS := fun D env => t env fun d => g d env D.nx
theorem psd_asg {tg : Expr} (h : PEd X e te dd) (hg : Sg g dg vs) (hp : PS X (.Assign [tg] e pos) (tAsg te g)) : PSd X (.Assign [tg] e pos) (tAsg te g) (dAsgG dd dg) := ⟨hp, fun B F H σ env D Dd n k q =>
  h.s B F H σ env _ _ n q fun v d F' H' q' e' n' t' => hg B F' H' σ env v d _ _ n' t' q' fun σ' env' q2 n2 _ _ => k.nx F' H' σ' env' e' n2 q2⟩
/-- a new list for a name -/
def dAsgN (t : DN) (i : Nat) : DS := fun D env => t env fun ds => D.nx (env.set i (some (.own ds)))
theorem ss_asgN {i : Nat} (h : Sn te dn) : Ss (tAsg te (gName i)) (dAsgN dn i) := fun B F H σ env D Dd n k q =>
  h B F H σ env _ _ n q fun l vs ds F' H' q' e' n' f => k.nx F' H' _ _ e' (n'.setN f) q'
theorem ss_asgF {i : Nat} (h : Sn te dn) : Ss (tAsg te (gName i)) (dAsgG (dFr dn) (gdName i)) := fun B F H σ env D Dd n k q =>
  h B F H σ env _ _ n q fun l vs ds F' H' q' e' n' f => by
    obtain ⟨n2, e2, d2⟩ := f.freeze n'
    exact k.nx _ _ _ _ (e'.trans e2) (n2.setD d2) q'
theorem psd_asgN {i : Nat} {tg : Expr} (h : PEn X e te dn) (hp : PS X (.Assign [tg] e pos) (tAsg te (gName i))) : PSd X (.Assign [tg] e pos) (tAsg te (gName i)) (dAsgN dn i) := ⟨hp, ss_asgN h.s⟩
/-- a, b = x, y -/
def dPar (i j : Nat) (dn : DN) : DS := fun D env => dn env fun ds => ∃ x y, ds = [x, y] ∧ D.nx ((env.set i (some (.dat x))).set j (some (.dat y)))
theorem psd_par {i j : Nat} {tA : TA} (h : PAf X es tA dn) (hp : PS X st (tPar i j tA)) : PSd X st (tPar i j tA) (dPar i j dn) := ⟨hp, fun B F H σ env D Dd n k q =>
  h.s B F H σ env _ _ n q fun vs ds F' H' ⟨x, y, ed, q'⟩ e' n' t' => by
    subst ed
    cases t' with
    | cons t1 t2 =>
      cases t2 with
      | cons t2 t3 =>
        cases t3
        exact ⟨_, _, rfl, k.nx F' H' _ _ e' ((n'.setD t1).setD t2) q'⟩⟩
def dPar3 (i j l : Nat) (dn : DN) : DS := fun D env => dn env fun ds => ∃ x y z, ds = [x, y, z] ∧ D.nx (((env.set i (some (.dat x))).set j (some (.dat y))).set l (some (.dat z)))
theorem psd_par3 {i j l : Nat} {tA : TA} (h : PAf X es tA dn) (hp : PS X st (tPar3 i j l tA)) : PSd X st (tPar3 i j l tA) (dPar3 i j l dn) := ⟨hp, fun B F H σ env D Dd n k q =>
  h.s B F H σ env _ _ n q fun vs ds F' H' ⟨x, y, z, ed, q'⟩ e' n' t' => by
    subst ed
    cases t' with
    | cons t1 t2 =>
      cases t2 with
      | cons t2 t3 =>
        cases t3 with
        | cons t3 t4 =>
          cases t4
          exact ⟨_, _, _, rfl, k.nx F' H' _ _ e' (((n'.setD t1).setD t2).setD t3) q'⟩⟩

/-! ### an own list changed -/
def dApp (i : Nat) (t : DE) : DS := fun D env => ∃ ds, env[i]? = some (some (.own ds)) ∧ t env fun d => ds.length < 1000000 ∧ D.nx (env.set i (some (.own (ds ++ [d]))))
theorem psd_app {i : Nat} {c : Expr} (h : PEd X e te dd) (hp : PS X (.Expr c pos) (tDrop (tBM X.K "list" rAppend (tVar i) (tCons te tNil)))) : PSd X (.Expr c pos) (tDrop (tBM X.K "list" rAppend (tVar i) (tCons te tNil))) (dApp i dd) := ⟨hp, fun B F H σ env D Dd n k q => by
  obtain ⟨ds, h1, q⟩ := q
  obtain ⟨l, vs, h2, h3, h4, h5, h6⟩ := n.own h1
  refine ⟨_, h2, .inl ⟨rfl, vs, SqL.of h5⟩, h.s B F H σ env _ _ n q fun v d F' H' ⟨hl, q'⟩ e' n' t' => ?_⟩
  obtain ⟨l', ws, p2, p3, p4, p5, p6⟩ := n'.own h1
  rw [h2] at p2
  cases p2
  refine ⟨l, ws, v, rfl, rfl, p5, ?_, k.nx F' _ σ _ e' (n'.mut h1 h2 (p6.app (.cons t' .nil))) q'⟩
  rw [p6.len]
  exact Nat.lt_of_lt_of_le hl (by decide)⟩
def dSetI (i : Nat) (ti te : DE) : DS := fun D env => te env fun d => ∃ ds, env[i]? = some (some (.own ds)) ∧ ti env fun x => ∃ k j, x = .int k ∧ ixN ds.length k = some j ∧ D.nx (env.set i (some (.own (ds.set j d))))
theorem psd_setI {i : Nat} {o x : Expr} {ti : TE} {di : DE} {p : Pos} (h : PEd X e te dd) (hi : PEd X x ti di) (hp : PS X (.Assign [.Subscript o x p] e pos) (tAsg te (gSub (tVar i) ti rSetL))) : PSd X (.Assign [.Subscript o x p] e pos) (tAsg te (gSub (tVar i) ti rSetL)) (dSetI i di dd) := ⟨hp, fun B F H σ env D Dd n k q => by
  refine h.s B F H σ env _ _ n q fun v d F' H' ⟨ds, h1, q'⟩ e' n' t' => ?_
  obtain ⟨l, vs, h2, h3, h4, h5, h6⟩ := n'.own h1
  refine ⟨_, h2, hi.s B F' H' σ env _ _ n' q' fun w f F2 H2 ⟨kk, j, ef, hj, q2⟩ e2 n2 t2 => ?_⟩
  subst ef
  cases t2
  obtain ⟨l', ws, p2, p3, p4, p5, p6⟩ := n2.own h1
  rw [h2] at p2
  cases p2
  exact ⟨l, ws, kk, j, rfl, rfl, p5, by rw [p6.len]; exact hj, k.nx F2 _ σ _ (e'.trans e2) (n2.mut h1 h2 (DtA.set (t'.up e2) j p6)) q2⟩⟩

/-! ### what is walked -/
/-- the iterator yields these data -/
def Wk (J : It) (F : Hp) (its : List PyData) : Prop := ∀ F' H', Ex F F' → Ex F' H' → J.stop its.length H' ∧ ∀ (i : Nat) d, its[i]? = some d → J.go i H' ∧ ∀ x H'', J.yld i H' x H'' → ∃ F'', Gro F' H' F'' H'' ∧ Dt F'' x d
def Si (wi : TI) (it : DN) : Prop := ∀ B F H σ env Q R, Den B F H σ env → it env Q → (∀ its J F' H', Q its → Ex F F' → Den B F' H' σ env → Wk J F' its → R J H') → wi σ H R
structure PId (X : Cx) (tg iter : Expr) (wi : TI) (it : DN) : Prop where
  pi : PI X tg iter wi
  s : Si wi it
def seqD : PyData → Option (List PyData)
  | .list ds => some ds
  | .tuple ds => some ds
  | _ => none
def itSeq (t : DE) : DN := fun env Q => t env fun d => ∃ ds, seqD d = some ds ∧ Q ds
def iSeq (K : PySem.W.Frag) (tl : TE) : TI := fun σ H R => tl σ H fun x H1 => ∃ a, x = .ref a ∧ (((∃ xs, SqL K H1 a xs) ∧ R (Itl K a) H1) ∨ ((∃ xs, SqT K H1 a xs) ∧ R (Itt K a) H1))
theorem pi_seq {tg : Expr} (hl : PE X e te) : PI X tg e (iSeq X.K te) := by
  refine ⟨fun pins s σ H R I h => ?_⟩
  refine thn (hl.run pins s σ H _ I h) fun v s1 ⟨x, H1, I1, r1, q1⟩ => ?_
  obtain ⟨a, e, q1⟩ := q1
  subst e
  cases r1
  rcases q1 with ⟨⟨xs, hq⟩, q⟩ | ⟨⟨xs, hq⟩, q⟩
  · obtain ⟨its, rv, p, hz⟩ := I1.list hq
    refine wpAny_pyIter_list p.isList ?_
    refine ⟨s1.heap.objs.size, [s1.heap.objs.size], _, _, H1, rfl, I1.kept (t' := s1.toks) fun b o e => Heap.get?_push_of_some _ e, turn_list a _, ⟨_, Heap.get?_push_size _ rfl, rfl, rfl⟩, fun b hb => ?_, q⟩
    have e : b = s1.heap.objs.size := by simpa using hb
    subst e
    exact I1.fpOk (Nat.le_refl _) (I1.hok.fresh (Nat.le_refl _))
  · obtain ⟨its, rv, p, hz⟩ := I1.tuple hq
    refine wpAny_pyIter_tuple (show s1.heap.IsTuple a its.toArray from p) ?_
    refine ⟨s1.heap.objs.size, [s1.heap.objs.size], _, _, H1, rfl, I1.kept (t' := s1.toks) fun b o e => Heap.get?_push_of_some _ e, turn_tuple a _, ⟨_, Heap.get?_push_size _ rfl, rfl, rfl⟩, fun b hb => ?_, q⟩
    have e : b = s1.heap.objs.size := by simpa using hb
    subst e
    exact I1.fpOk (Nat.le_refl _) (I1.hok.fresh (Nat.le_refl _))
theorem sq_inj {K : PySem.W.Frag} {H : Hp} {a : Addr} {xs ys : List V} (h : H a = some (.lst xs)) (h2 : H a = some (.lst ys)) : xs = ys := by
  rw [h] at h2
  cases h2
  rfl
theorem si_seq {K : PySem.W.Frag} (h : Sd te dd) : Si (iSeq K te) (itSeq dd) := fun B F H σ env Q R n q k => by
  refine h B F H σ env _ _ n q fun v d F' H' ⟨ds, hd, q'⟩ e' n' t' => ?_
  cases t' with
  | @lst a xs ds' h1 h2 =>
    cases hd
    refine ⟨a, rfl, .inl ⟨⟨xs, SqL.of (n'.g.fh _ _ h1)⟩, k ds _ F' H' q' e' n' fun F2 H2 e2 eh => ⟨⟨xs, SqL.of (eh _ _ (e2 _ _ h1)), Nat.le_of_eq h2.len⟩, fun i d hi => ?_⟩⟩⟩
    obtain ⟨v, hv, tv⟩ := (h2.up e2).get hi
    exact ⟨⟨xs, v, SqL.of (eh _ _ (e2 _ _ h1)), hv⟩, fun x H'' ⟨eH, y⟩ => by
      subst eH
      have := y xs (SqL.of (eh _ _ (e2 _ _ h1)))
      rw [hv] at this
      cases this
      exact ⟨F2, .refl, tv⟩⟩
  | @tup a xs ds' h1 h2 =>
    cases hd
    refine ⟨a, rfl, .inr ⟨⟨xs, SqT.of (n'.g.fh _ _ h1)⟩, k ds _ F' H' q' e' n' fun F2 H2 e2 eh => ⟨⟨xs, SqT.of (eh _ _ (e2 _ _ h1)), Nat.le_of_eq h2.len⟩, fun i d hi => ?_⟩⟩⟩
    obtain ⟨v, hv, tv⟩ := (h2.up e2).get hi
    exact ⟨⟨xs, v, SqT.of (eh _ _ (e2 _ _ h1)), hv⟩, fun x H'' ⟨eH, y⟩ => by
      subst eH
      have := y xs (SqT.of (eh _ _ (e2 _ _ h1)))
      rw [hv] at this
      cases this
      exact ⟨F2, .refl, tv⟩⟩
  | _ => cases hd
theorem pid_seq {tg : Expr} (h : PEd X e te dd) : PId X tg e (iSeq X.K te) (itSeq dd) := ⟨pi_seq h.pe, si_seq h.s⟩
def rngD (lo : Int) (n : Nat) : List PyData := (List.range n).map fun i => .int (lo + (i : Nat))
theorem rngD_len (lo : Int) (n : Nat) : (rngD lo n).length = n := by simp [rngD]
theorem wk_rng {F : Hp} {lo : Int} {n : Nat} : Wk (Itr lo n) F (rngD lo n) := fun F2 H2 e2 eh => ⟨by
    rw [rngD_len]
    exact Nat.le_refl n, fun i d hi => by
    have hl : i < n := by
      have := (List.getElem?_eq_some_iff.mp hi).1
      rw [rngD_len] at this
      exact this
    have : d = .int (lo + (i : Nat)) := by
      unfold rngD at hi
      rw [List.getElem?_map, List.getElem?_range hl] at hi
      cases hi
      rfl
    subst this
    exact ⟨hl, fun x H'' ⟨eH, ex⟩ => by
      subst eH
      subst ex
      exact ⟨F2, .refl, .int _⟩⟩⟩
def itR1 (dn : DN) : DN := fun env Q => dn env fun ds => ∃ j : Int, ds = [.int j] ∧ (-(2 ^ 62) ≤ j ∧ j < 2 ^ 62) ∧ Q (rngD 0 j.toNat)
def itR2 (dn : DN) : DN := fun env Q => dn env fun ds => ∃ i j : Int, ds = [.int i, .int j] ∧ (-(2 ^ 62) ≤ i ∧ i < 2 ^ 62 ∧ -(2 ^ 62) ≤ j ∧ j < 2 ^ 62) ∧ Q (rngD i (j - i).toNat)
variable {tA : TA}
theorem vok_int {σ : St} {env : Denv} {F : Hp} {v : V} {i : Int} (h : VOk σ env F v (.int i)) : v = .int i := by
  rcases h with h | ⟨_, _, _, _, h⟩
  · cases h
    rfl
  · cases h
theorem pid_r1 {tg : Expr} {p : Pos} (hg : Gl X "range") (hm : X.mg "range" = none) (h : PAr X [a] tA dn) (hs : starEach [a] X.env = [(false, eval a X.env)] := by rfl) : PId X tg (.Call (.Name "range" p) [a] [] pos) (iRng1 tA) (itR1 dn) := ⟨pi_range1 hg hm h.pa hs, fun B F H σ env Q R n q k =>
  h.s B F H σ env _ _ n q fun vs ds F' H' ⟨j, ed, hj, q'⟩ e' n' r' => by
    subst ed
    obtain ⟨x, rfl, r1⟩ := paired1 r'
    rw [vok_int r1]
    exact ⟨j, rfl, hj.1, hj.2, k _ _ F' H' q' e' n' wk_rng⟩⟩
theorem pid_r2 {tg : Expr} {p : Pos} (hg : Gl X "range") (hm : X.mg "range" = none) (h : PAr X [a, b] tA dn) (hs : starEach [a, b] X.env = [(false, eval a X.env), (false, eval b X.env)] := by rfl) (hs2 : starEach [b] X.env = [(false, eval b X.env)] := by rfl) : PId X tg (.Call (.Name "range" p) [a, b] [] pos) (iRng2 tA) (itR2 dn) := ⟨pi_range2 hg hm h.pa hs hs2, fun B F H σ env Q R n q k =>
  h.s B F H σ env _ _ n q fun vs ds F' H' ⟨i, j, ed, hj, q'⟩ e' n' r' => by
    subst ed
    obtain ⟨x, y, rfl, r1, r2⟩ := paired2 r'
    rw [vok_int r1, vok_int r2]
    exact ⟨i, j, rfl, hj, k _ _ F' H' q' e' n' wk_rng⟩⟩
def enumD : Nat → List PyData → List PyData
  | _, [] => []
  | n, d :: ds => .tuple [.int (n : Nat), d] :: enumD (n + 1) ds
theorem enumD_len : ∀ (n : Nat) (ds : List PyData), (enumD n ds).length = ds.length
  | _, [] => rfl
  | n, d :: ds => by
    show (enumD (n + 1) ds).length + 1 = ds.length + 1
    rw [enumD_len]
theorem enumD_get : ∀ (n : Nat) (ds : List PyData) (i : Nat), (enumD n ds)[i]? = (ds[i]?).map fun d => .tuple [.int ((n + i : Nat) : Int), d]
  | _, [], i => by simp [enumD]
  | n, d :: ds, 0 => by simp [enumD]
  | n, d :: ds, i + 1 => by
    show (enumD (n + 1) ds)[i]? = _
    rw [enumD_get (n + 1) ds i, List.getElem?_cons_succ]
    congr 1
    funext d
    rw [show n + 1 + i = n + (i + 1) by omega]
def itEnum (dn : DN) : DN := fun env Q => dn env fun ds' => ∃ ds, ds' = [.list ds] ∧ Q (enumD 0 ds)
theorem pid_enumL {p tpos : Pos} {elts : List Expr} {kk : Nat} (hg : Gl X "enumerate") (hm : X.mg "enumerate" = none) (h : PAf X [a] tA dn) (hs : starEach [a] X.env = [(false, eval a X.env)] := by rfl) : PId X (.Tuple elts kk tpos) (.Call (.Name "enumerate" p) [a] [] pos) (iEnum X.K tA) (itEnum dn) := ⟨pi_enum hg hm h.pa hs, fun B F H σ env Q R n q k =>
  h.s B F H σ env _ _ n q fun vs ds F' H' ⟨ds', ed, q'⟩ e' n' r' => by
    subst ed
    cases r' with
    | cons r1 r2 =>
      cases r2
      cases r1 with
      | @lst l ws _ h1 h2 =>
        refine ⟨l, ws, rfl, SqL.of (n'.g.fh _ _ h1), k _ _ F' H' q' e' n' fun F2 H2 e2 eh => ⟨⟨ws, SqL.of (eh _ _ (e2 _ _ h1)), ?_⟩, fun i d hi => ?_⟩⟩
        · rw [enumD_len, h2.len]
          exact Nat.le_refl _
        · rw [enumD_get] at hi
          cases hd : ds'[i]? with
          | none =>
            rw [hd] at hi
            cases hi
          | some z =>
            rw [hd] at hi
            cases hi
            obtain ⟨v, hv, tv⟩ := (h2.up e2).get hd
            refine ⟨⟨ws, v, SqL.of (eh _ _ (e2 _ _ h1)), hv⟩, fun x H'' ⟨T, y, ex, hT, eH, hy⟩ => ?_⟩
            have := hy ws (SqL.of (eh _ _ (e2 _ _ h1)))
            rw [hv] at this
            cases this
            subst ex
            subst eH
            have g : Gro F2 H2 (upd F2 T (.tup [.int (i : Nat), v])) (upd H2 T (.tup [.int (i : Nat), v])) := .new hT
            refine ⟨_, g, .tup upd_same (.cons ?_ (.cons (tv.up (g.ex eh)) .nil))⟩
            rw [Nat.zero_add]
            exact .int _⟩
def zipD (xs ys : List PyData) : List PyData := List.zipWith (fun x y => .tuple [x, y]) xs ys
/-! ### for -/
def dForL (g : DG) (tb : DS) : List PyData → DS
  | [], D, env => D.nx env
  | d :: ds, D, env => g d env fun env' => tb { D with nx := dForL g tb ds D, ct := dForL g tb ds D, bk := D.nx } env'
def dFor (it : DN) (g : DG) (tb : DS) : DS := fun D env => it env fun its => dForL g tb its D env
variable {wi : TI} {it : DN}
theorem ss_for (hi : Si wi it) (hg : Sg g dg vs) (hb : Ss ts d) : Ss (tFor wi g ts) (dFor it dg d) := fun B F H σ env D Dd n k q => by
  refine hi B F H σ env _ _ n q fun its J F1 H1 q1 e1 n1 wk => ?_
  refine ⟨fun i m σ' H' => m = its.length - i ∧ i ≤ its.length ∧ ∃ F' env', Ex F1 F' ∧ Den B F' H' σ' env' ∧ dForL dg d (its.drop i) Dd env', ⟨its.length, rfl, Nat.zero_le _, F1, env, Ex.refl _, n1, q1⟩, ?_⟩
  rintro i m σ' H' ⟨rfl, hi', F', env', e', n', q'⟩
  obtain ⟨w1, w2⟩ := wk F' H' e' n'.g.fh
  by_cases hlt : i < its.length
  · refine .inr ⟨(w2 i its[i] (List.getElem?_eq_getElem hlt)).1, fun σ2 H2 => ∃ F2 env2, Ex F1 F2 ∧ Den B F2 H2 σ2 env2 ∧ dForL dg d (its.drop (i + 1)) Dd env2, fun σ2 H2 ⟨F2, env2, p1, p2, p3⟩ => ⟨its.length - (i + 1), by omega, rfl, hlt, F2, env2, p1, p2, p3⟩, fun x H'' hy => ?_⟩
    obtain ⟨F'', g'', t''⟩ := (w2 i its[i] (List.getElem?_eq_getElem hlt)).2 x H'' hy
    rw [List.drop_eq_getElem_cons hlt] at q'
    have n'' := n'.gro g''
    have e'' := e'.trans (g''.ex n'.g.fh)
    refine hg B F'' H'' σ' env' x _ _ _ n'' t'' q' fun σ2 env2 q2 n2 _ _ => hb B F'' H'' σ2 env2 _ { Dd with nx := dForL dg d (its.drop (i + 1)) Dd, ct := dForL dg d (its.drop (i + 1)) Dd, bk := Dd.nx } n2 ⟨fun F3 H3 σ3 env3 e3 n3 q3 => ⟨F3, env3, e''.trans e3, n3, q3⟩, fun F3 H3 v r e3 => k.rt F3 H3 v r ((e1.trans e'').trans e3), fun F3 H3 σ3 env3 e3 => k.nx F3 H3 σ3 env3 ((e1.trans e'').trans e3), fun F3 H3 σ3 env3 e3 n3 q3 => ⟨F3, env3, e''.trans e3, n3, q3⟩⟩ q2
  · have ei : i = its.length := by omega
    subst ei
    rw [List.drop_length] at q'
    exact .inl ⟨w1, k.nx F' H' σ' env' (e1.trans e') n' q'⟩
theorem psd_for {tg iter : Expr} {body : List Stmt} (hi : PId X tg iter wi it) (hg : PGd X tg g dg vs) (hb : PSsd X body ts d) (hp : PS X (.For tg iter body [] pos) (tFor wi g ts)) : PSd X (.For tg iter body [] pos) (tFor wi g ts) (dFor it dg d) := ⟨hp, ss_for hi.s hg.s hb.s⟩
/-! ### while -/
def dWhile (c : DT) (tb : DS) : DS := fun D env => ∃ W : Nat → Denv → Prop, (∃ m, W m env) ∧ ∀ m env, W m env → c env fun b => if b = true then ∃ N : Denv → Prop, (∀ env', N env' → ∃ m', m' < m ∧ W m' env') ∧ tb { D with nx := N, ct := N, bk := D.nx } env else D.nx env
theorem ss_while (hc : St' tt dt) (hb : Ss ts d) : Ss (tWhile tt ts) (dWhile dt d) := fun B F H σ env D Dd n k q => by
  obtain ⟨W, ⟨m0, w0⟩, turn⟩ := q
  refine ⟨fun m σ' H' => ∃ F' env', Ex F F' ∧ Den B F' H' σ' env' ∧ W m env', ⟨m0, F, env, Ex.refl _, n, w0⟩, fun m σ' H' ⟨F', env', e', n', w'⟩ => ?_⟩
  refine hc B F' H' σ' env' _ _ n' (turn m env' w') fun b F2 H2 q2 e2 n2 => ?_
  cases b with
  | true =>
    obtain ⟨N, hN, q2⟩ := q2
    refine ⟨fun σ3 H3 => ∃ F3 env3, Ex F F3 ∧ Den B F3 H3 σ3 env3 ∧ N env3, fun σ3 H3 ⟨F3, env3, p1, p2, p3⟩ => ?_, hb B F2 H2 σ' env' _ { Dd with nx := N, ct := N, bk := Dd.nx } n2 ⟨fun F3 H3 σ3 env3 e3 n3 q3 => ⟨F3, env3, (e'.trans e2).trans e3, n3, q3⟩, fun F3 H3 v r e3 => k.rt F3 H3 v r ((e'.trans e2).trans e3), fun F3 H3 σ3 env3 e3 => k.nx F3 H3 σ3 env3 ((e'.trans e2).trans e3), fun F3 H3 σ3 env3 e3 n3 q3 => ⟨F3, env3, (e'.trans e2).trans e3, n3, q3⟩⟩ q2⟩
    obtain ⟨m', hm, w3⟩ := hN env3 p3
    exact ⟨m', hm, F3, env3, p1, p2, w3⟩
  | false => exact k.nx F2 H2 σ' env' (e'.trans e2) n2 q2
theorem psd_while {c : Expr} {body : List Stmt} (hc : PTd X c tt dt) (hb : PSsd X body ts d) (hp : PS X (.While c body [] pos) (tWhile tt ts)) : PSd X (.While c body [] pos) (tWhile tt ts) (dWhile dt d) := ⟨hp, ss_while hc.s hb.s⟩
/-! ### comprehensions -/
def wipeD (env : Denv) : List Nat → Denv
  | [] => env
  | v :: vs => (wipeD env vs).set v none
theorem wipeD_length (env : Denv) : ∀ vs : List Nat, (wipeD env vs).length = env.length
  | [] => rfl
  | v :: vs => by unfold wipeD; rw [List.length_set, wipeD_length env vs]
theorem wipeD_some {env : Denv} {i : Nat} {x : SV} : ∀ {vs : List Nat}, (wipeD env vs)[i]? = some (some x) → env[i]? = some (some x) ∧ i ∉ vs
  | [], h => ⟨h, by simp⟩
  | v :: vs, h => by
    unfold wipeD at h
    by_cases hi : v = i
    · subst hi
      by_cases hv : v < (wipeD env vs).length
      · rw [List.getElem?_set_self hv] at h; cases h
      · rw [List.getElem?_eq_none (by simpa using hv)] at h; cases h
    · rw [List.getElem?_set_ne hi] at h
      obtain ⟨h1, h2⟩ := wipeD_some h
      exact ⟨h1, by simp only [List.mem_cons, not_or]; exact ⟨fun e => hi e.symm, h2⟩⟩
theorem wipe_get {σ : St} {i : Nat} : ∀ {vs : List Nat}, i ∉ vs → (wipe σ vs)[i]? = σ[i]?
  | [], _ => rfl
  | v :: vs, h => by
    unfold wipe
    simp only [List.mem_cons, not_or] at h
    rw [List.getElem?_set_ne (fun z => h.1 z.symm), wipe_get h.2]
theorem wipe_at {σ : St} {i : Nat} : ∀ {vs : List Nat}, i ∈ vs → i < σ.length → (wipe σ vs)[i]? = some none
  | v :: vs, h, hl => by
    unfold wipe
    by_cases hi : v = i
    · subst hi
      rw [List.getElem?_set_self (by rw [wipe_length]; exact hl)]
    · rw [List.getElem?_set_ne hi]
      rcases List.mem_cons.mp h with z | z
      · exact absurd z.symm hi
      · exact wipe_at z hl
theorem wipe_congr {σ τ : St} {vs : List Nat} (hl : σ.length = τ.length) (h : ∀ i, i ∉ vs → σ[i]? = τ[i]?) : wipe σ vs = wipe τ vs := by
  refine List.ext_getElem? fun i => ?_
  by_cases hi : i ∈ vs
  · by_cases hx : i < σ.length
    · rw [wipe_at hi hx, wipe_at hi (by omega)]
    · rw [List.getElem?_eq_none (by rw [wipe_length]; omega), List.getElem?_eq_none (by rw [wipe_length]; omega)]
  · rw [wipe_get hi, wipe_get hi, h i hi]
theorem wipe_wipe {σ : St} {vs : List Nat} : wipe (wipe σ vs) vs = wipe σ vs := wipe_congr (wipe_length σ vs) fun i hi => wipe_get hi
theorem Den.wipe {B : Bs} {F H : Hp} {σ : St} {env : Denv} (n : Den B F H σ env) (vs : List Nat) : Den B F H (wipe σ vs) (wipeD env vs) := n.forget (by rw [wipeD_length, wipe_length, n.len]) fun i sv h => by
  obtain ⟨h1, h2⟩ := wipeD_some h
  exact ⟨h1, wipe_get h2⟩
def dropO (env : Denv) : Denv := env.map fun o => match o with
  | some (.own _) => none
  | x => x
theorem dropO_some {env : Denv} {i : Nat} {x : SV} (h : (dropO env)[i]? = some (some x)) : env[i]? = some (some x) ∧ ∀ ds, x ≠ .own ds := by
  unfold dropO at h
  rw [List.getElem?_map] at h
  cases e : env[i]? with
  | none =>
    rw [e] at h
    cases h
  | some o =>
    rw [e] at h
    cases o with
    | none => cases h
    | some sv =>
      cases sv with
      | own ds => cases h
      | dat d =>
        cases h
        exact ⟨rfl, fun _ z => nomatch z⟩
      | bag =>
        cases h
        exact ⟨rfl, fun _ z => nomatch z⟩
/-- the slots that a block may read -/
structure SlC (fp : Addr → Prop) (F : Hp) (σ : St) (env : Denv) : Prop where
  len : env.length = σ.length
  no : ∀ (i : Nat) ds, env[i]? ≠ some (some (.own ds))
  dat : ∀ (i : Nat) d, env[i]? = some (some (.dat d)) → ∃ v, σ[i]? = some (some v) ∧ Dt F v d
  bag : ∀ (i : Nat), env[i]? = some (some .bag) → ∃ b, σ[i]? = some (some (.ref b)) ∧ fp b
theorem SlC.up {fp : Addr → Prop} {F F' : Hp} {σ : St} {env : Denv} (h : SlC fp F σ env) (e : Ex F F') : SlC fp F' σ env := ⟨h.len, h.no, fun i d hi => by
  obtain ⟨v, h1, h2⟩ := h.dat i d hi
  exact ⟨v, h1, h2.up e⟩, h.bag⟩
theorem SlC.den {B : Bs} {F H : Hp} {σ : St} {env : Denv} (h : SlC B.fp F σ env) (g : Grow B F H) : Den ⟨H, F, B.fp⟩ F H σ env := ⟨Grow.start g.fh fun b hb => ⟨g.bagNF hb, g.bag b hb⟩, h.len, fun i sv hi => by
  cases sv with
  | dat d => exact h.dat i d hi
  | own ds => exact absurd hi (h.no i ds)
  | bag =>
    obtain ⟨b, h1, h2⟩ := h.bag i hi
    exact ⟨_, h1, b, rfl, h2⟩, fun i j ds es l h1 _ _ _ => absurd h1 (h.no i ds)⟩
theorem Den.slC {B : Bs} {F H : Hp} {σ : St} {env : Denv} (n : Den B F H σ env) (vs : List Nat) : SlC B.fp F (L2.wipe σ vs) (dropO (wipeD env vs)) := ⟨by
    unfold dropO
    rw [List.length_map, wipeD_length, wipe_length, n.len], fun i ds h => (dropO_some h).2 ds rfl, fun i d h => by
    obtain ⟨h1, _⟩ := dropO_some h
    obtain ⟨h2, h3⟩ := wipeD_some h1
    obtain ⟨v, h4, h5⟩ := n.slot i _ h2
    exact ⟨v, by rw [wipe_get h3]; exact h4, h5⟩, fun i h => by
    obtain ⟨h1, _⟩ := dropO_some h
    obtain ⟨h2, h3⟩ := wipeD_some h1
    obtain ⟨v, h4, b, rfl, h5⟩ := n.slot i _ h2
    exact ⟨b, by rw [wipe_get h3]; exact h4, h5⟩⟩
def lcL (g : DG) (tt : DT) (te : DE) (env : Denv) : List PyData → (List PyData → Prop) → Prop
  | [], Q => Q []
  | d :: ds, Q => g d env fun env' => tt env' fun b => if b = true then te env' fun y => lcL g tt te env ds fun ys => Q (y :: ys) else lcL g tt te env ds Q
def nLc (it : DN) (g : DG) (tt : DT) (te : DE) (vs : List Nat) : DN := fun env Q => it env fun its => its.length ≤ 1000000 ∧ lcL g tt te (dropO (wipeD env vs)) its Q
def dYes : DT := fun _ Q => Q true
theorem st_yes : St' tYes dYes := fun B F H σ env Q Qv n q k => k true F H q (Ex.refl F) n
theorem lcL_mono {g : DG} {tt : DT} {te : DE} {env : Denv} (hg : ∀ d env Q Q', (∀ x, Q x → Q' x) → g d env Q → g d env Q') (ht : ∀ env (Q Q' : Bool → Prop), (∀ x, Q x → Q' x) → tt env Q → tt env Q') (he : ∀ env (Q Q' : PyData → Prop), (∀ x, Q x → Q' x) → te env Q → te env Q') :
    ∀ (ds : List PyData) (Q Q' : List PyData → Prop), (∀ x, Q x → Q' x) → lcL g tt te env ds Q → lcL g tt te env ds Q'
  | [], Q, Q', h, q => h _ q
  | d :: ds, Q, Q', h, q => hg d env _ _ (fun env' q1 => ht env' _ _ (fun b q2 => by
      cases b with
      | true => exact he env' _ _ (fun y q3 => lcL_mono hg ht he ds _ _ (fun ys q4 => h _ q4) q3) q2
      | false => exact lcL_mono hg ht he ds _ _ h q2) q1) q
theorem sn_lc {wi : TI} {it : DN} {g : TG} {dg : DG} {vs vs' : List Nat} {tt : TT} {dt : DT} {te : TE} {dd : DE} (hi : Si wi it) (hg : Sg g dg vs') (hv : ∀ i ∈ vs', i ∈ vs) (ht : St' tt dt) (he : Sd te dd) : Sn (tLc wi g tt te vs) (nLc it dg dt dd vs) := fun B F H σ env Q Qv n q k => by
  refine hi B F H σ env _ _ n q fun its J F1 H1 ⟨hz, q1⟩ e1 n1 wk => ?_
  intro D hD
  have sl1 := n1.slC vs
  refine ⟨fun i m H' => m = its.length - i ∧ i ≤ its.length ∧ ∃ F' accv acc, Grow ⟨H1, F1, B.fp⟩ F' H' ∧ H' D = some (.lst accv) ∧ F' D = none ∧ DtA F' accv acc ∧ acc.length ≤ i ∧ lcL dg dt dd (dropO (wipeD env vs)) (its.drop i) fun ys => Q (acc ++ ys), ⟨its.length, rfl, Nat.zero_le _, F1, [], [], ?_, upd_same, Ex.none n1.g.fh hD, .nil, Nat.le_refl _, q1⟩, ?_⟩
  · exact (Grow.start n1.g.fh fun b hb => ⟨n1.g.bagNF hb, n1.g.bag b hb⟩).own hD
  · rintro i m H' ⟨rfl, hi', F', accv, acc, g', hD', fD', ta, hl, q'⟩
    have eF : Ex F1 F' := g'.bf
    obtain ⟨w1, w2⟩ := wk F' H' eF g'.fh
    have nD : ¬ B.fp D := fun z => by
      obtain ⟨_, o, h2⟩ := n1.g.fpn D z
      rw [n1.g.new0 hD] at h2
      cases h2
    by_cases hlt : i < its.length
    · refine .inr ⟨(w2 i its[i] (List.getElem?_eq_getElem hlt)).1, fun H2 => ∃ F2 accv acc, Grow ⟨H1, F1, B.fp⟩ F2 H2 ∧ H2 D = some (.lst accv) ∧ F2 D = none ∧ DtA F2 accv acc ∧ acc.length ≤ i + 1 ∧ lcL dg dt dd (dropO (wipeD env vs)) (its.drop (i + 1)) fun ys => Q (acc ++ ys), fun H2 ⟨F2, av, ac, p⟩ => ⟨its.length - (i + 1), by omega, rfl, hlt, F2, av, ac, p⟩, fun x H'' hy => ?_⟩
      obtain ⟨F'', g'', t''⟩ := (w2 i its[i] (List.getElem?_eq_getElem hlt)).2 x H'' hy
      rw [List.drop_eq_getElem_cons hlt] at q'
      have n' : Den ⟨H', F', B.fp⟩ F' H' (wipe σ vs) (dropO (wipeD env vs)) := SlC.den (B := ⟨H1, F1, B.fp⟩) (sl1.up eF) g'
      have n'' := n'.gro g''
      refine hg _ F'' H'' (wipe σ vs) _ x _ _ _ n'' t'' q' fun σ2 env2 q2 n2 l2 s2 => ⟨?_, ?_⟩
      · rw [wipe_congr l2 fun i hi => s2 i fun z => hi (hv i z), wipe_wipe]
      · refine ht _ F'' H'' σ2 env2 _ _ n2 q2 fun b F3 H3 q3 e3 n3 => ?_
        have back : ∀ {F4 H4 : Hp}, Den ⟨H', F', B.fp⟩ F4 H4 σ2 env2 → Grow ⟨H1, F1, B.fp⟩ F4 H4 ∧ H4 D = some (.lst accv) ∧ F4 D = none ∧ Ex F' F4 := fun {F4 H4} n4 => ⟨g'.call n4.g, n4.g.keep D _ nD hD', n4.g.nofr D _ hD' fD', n4.g.bf⟩
        cases b with
        | false =>
          obtain ⟨b1, b2, b3, b4⟩ := back n3
          exact ⟨F3, accv, acc, b1, b2, b3, ta.up b4, by omega, q3⟩
        | true =>
          refine he _ F3 H3 σ2 env2 _ _ n3 q3 fun y d F4 H4 q4 e4 n4 t4 => ?_
          obtain ⟨b1, b2, b3, b4⟩ := back n4
          refine ⟨accv, b2, ?_, F4, accv ++ [y], acc ++ [d], b1.mut (n1.g.new0 hD ▸ hD) b3, upd_same, b3, (ta.up b4).app (.cons t4 .nil), ?_, ?_⟩
          · rw [ta.len]
            exact Nat.lt_of_le_of_lt hl (Nat.lt_of_lt_of_le hlt (Nat.le_trans hz (by decide)))
          · rw [List.length_append]
            show acc.length + 1 ≤ i + 1
            omega
          · show lcL dg dt dd (dropO (wipeD env vs)) (its.drop (i + 1)) fun ys => Q ((acc ++ [d]) ++ ys)
            have ea : (fun ys : List PyData => Q ((acc ++ [d]) ++ ys)) = fun ys => Q (acc ++ d :: ys) := by
              funext ys
              rw [List.append_assoc]
              rfl
            rw [ea]
            exact q4
    · have ei : i = its.length := by omega
      subst ei
      rw [List.drop_length] at q'
      refine .inl ⟨w1, ?_⟩
      have q2 : Q (acc ++ []) := q'
      rw [List.append_nil] at q2
      refine k D accv acc F' H' q2 (e1.trans eF) (n1.call g') ⟨n1.g.new0 hD, fD', hD', ta, fun i es hi z => ?_⟩
      obtain ⟨l, ws, p1, p2, p3, p4, p5⟩ := n1.own hi
      rw [z] at p1
      cases p1
      rw [hD] at p4
      cases p4
end
section
variable {X : Cx} {elt tg iter : Expr} {ifs : List Expr} {scope : Scope} {own : List (Str × Nat)} {pos spos : Pos} {wi : TI} {it : DN} {g : TG} {dg : DG} {vs' : List Nat} {tt : TT} {dt : DT} {te : TE} {dd : DE}
structure PTsd (X : Cx) (ifs : List Expr) (tt : TT) (t : DT) : Prop where
  pt : PTs X ifs tt
  s : St' tt t
theorem ptsd_nil : PTsd X [] tYes dYes := ⟨pts_nil, st_yes⟩
theorem ptsd_one {c : Expr} (h : PTd X c tt dt) : PTsd X [c] tt dt := ⟨pts_one h.pt, h.s⟩
theorem pen_lc (hc : X.calm = true) (hN : X.N.Nodup) (hi : PId X tg iter wi it) (ok : BlkOk X.N X.env.scope scope own)
    (hg : ∀ (s : Shared) (H : Hp) (C : Addr) (cl : List (Str × Addr)) (fp : List Addr), PGd (X.blk s H scope (compEnvC scope cl C X.env) fp) tg g dg vs') (hv : ∀ i ∈ vs', i ∈ own.map (·.2)) (ht : ∀ (s : Shared) (H : Hp) (C : Addr) (cl : List (Str × Addr)) (fp : List Addr), PTsd (X.blk s H scope (compEnvC scope cl C X.env) fp) ifs tt dt)
    (he : ∀ (s : Shared) (H : Hp) (C : Addr) (cl : List (Str × Addr)) (fp : List Addr), PEd (X.blk s H scope (compEnvC scope cl C X.env) fp) elt te dd) (hs : ∀ x, foldedSetIterable iter X.env x = pure x := by intro _; rfl) :
    PEn X (.ListComp elt [⟨tg, iter, ifs, 0⟩] scope pos) (tLc wi g tt te (own.map (·.2))) (nLc it dg dt dd (own.map (·.2))) :=
  ⟨pe_lc hc hN hi.pi ok (fun s H C cl fp => (hg s H C cl fp).pg) (fun s H C cl fp => (ht s H C cl fp).pt) (fun s H C cl fp => (he s H C cl fp).pe) hs,
    sn_lc hi.s (hg ({} : Shared) (fun _ => none) 0 [] []).s hv (ht ({} : Shared) (fun _ => none) 0 [] []).s (he ({} : Shared) (fun _ => none) 0 [] []).s⟩
end
end Pd

set_option maxRecDepth 100000
set_option maxHeartbeats 4000000
namespace Pd
open PySem L2
open PyProof.Rows (envOfC)
open Evl (Ex)

/-! ### defs and their calls -/
abbrev DSp := List SV → (RVd → Prop) → Prop
abbrev DA := Denv → (List SV → Prop) → Prop
def ArgOk (fp : Addr → Prop) (F : Hp) (v : V) : SV → Prop
  | .dat d => Dt F v d
  | .bag => ∃ b, v = .ref b ∧ fp b
  | .own _ => False
def lift (dsp : DSp) : Sp := fun vs H Q _ => ∃ (F : Hp) (fp : Addr → Prop) (svs : List SV) (R : RVd → Prop), Ex F H ∧ Paired (ArgOk fp F) vs svs ∧ (∀ b, fp b → F b = none ∧ BagAt F H b) ∧ dsp svs R ∧
  ∀ v r F' H', R r → Grow ⟨H, F, fp⟩ F' H' → ROk ⟨H, F, fp⟩ F' H' v r → Q v H'
theorem ArgOk.up {fp : Addr → Prop} {F F' : Hp} {v : V} {sv : SV} (h : ArgOk fp F v sv) (e : Ex F F') : ArgOk fp F' v sv := by
  cases sv with
  | dat d => exact Dt.up h e
  | bag => exact h
  | own ds => exact h
def Sc (ta : TA) (da : DA) : Prop := ∀ B F H σ env Q Qv, Den B F H σ env → da env Q → (∀ vs svs F' H', Q svs → Ex F F' → Den B F' H' σ env → Paired (ArgOk B.fp F') vs svs → Qv vs H') → ta σ H Qv
structure PAc (X : Cx) (es : List Expr) (ta : TA) (da : DA) : Prop where
  pa : PA X es ta
  s : Sc ta da
def aNil : DA := fun _ Q => Q []
def aDat (t : DE) (r : DA) : DA := fun env Q => t env fun d => r env fun svs => Q (.dat d :: svs)
def aBag (i : Nat) (r : DA) : DA := fun env Q => env[i]? = some (some .bag) ∧ r env fun svs => Q (.bag :: svs)
section
variable {X : Cx} {e : Expr} {es : List Expr} {te : TE} {ta : TA} {dd : DE} {da : DA} {pos p : Pos} {x : Str} {dsp : DSp}
theorem pac_nil : PAc X [] tNil aNil := ⟨pa_nil, fun B F H σ env Q Qv n q k => k [] [] F H q (Ex.refl F) n .nil⟩
theorem pac_d (ha : PEd X e te dd) (hr : PAc X es ta da) (hs : starEach (e :: es) X.env = (false, eval e X.env) :: starEach es X.env := by rfl) : PAc X (e :: es) (tCons te ta) (aDat dd da) := ⟨pa_cons ha.pe hr.pa hs, fun B F H σ env Q Qv n q k =>
  ha.s B F H σ env _ _ n q fun v d F1 H1 q1 e1 n1 r1 => hr.s B F1 H1 σ env _ _ n1 q1 fun vs svs F2 H2 q2 e2 n2 r2 => k (v :: vs) (.dat d :: svs) F2 H2 q2 (e1.trans e2) n2 (.cons (Dt.up r1 e2) r2)⟩
theorem pac_bag (i : Nat) (h : PE X e (tVar i)) (hr : PAc X es ta da) (hs : starEach (e :: es) X.env = (false, eval e X.env) :: starEach es X.env := by rfl) : PAc X (e :: es) (tCons (tVar i) ta) (aBag i da) := ⟨pa_cons h hr.pa hs, fun B F H σ env Q Qv n q k => by
  obtain ⟨h1, q⟩ := q
  obtain ⟨v, h2, b, rfl, h3⟩ := n.slot i _ h1
  exact ⟨_, h2, hr.s B F H σ env _ _ n q fun vs svs F2 H2 q2 e2 n2 r2 => k (.ref b :: vs) (.bag :: svs) F2 H2 q2 e2 n2 (.cons ⟨b, rfl, h3⟩ r2)⟩⟩
def dCall (dsp : DSp) (da : DA) : DE := fun env Q => da env fun svs => dsp svs fun r => Q r.d
def nCall (dsp : DSp) (da : DA) : DN := fun env Q => da env fun svs => dsp svs fun r => ∃ ds, r = .new ds ∧ Q ds
/-- what a call leaves, for its caller -/
theorem ROk.back {B : Bs} {F H F' H' : Hp} {σ : St} {env : Denv} {l : Addr} {vs : List V} {ds : List PyData} (n : Den B F H σ env) (c : Grow ⟨H, F, B.fp⟩ F' H') (h1 : H l = none) (h2 : F' l = none) (h3 : H' l = some (.lst vs)) (h4 : DtA F' vs ds) : Fresh B F' H' σ env l vs ds := ⟨n.g.new0 h1, h2, h3, h4, fun i es hi z => by
  obtain ⟨l', ws, p1, p2, p3, p4, p5⟩ := n.own hi
  rw [z] at p1
  cases p1
  rw [h1] at p4
  cases p4⟩
theorem sd_call {E : XK} (ha : Sc ta da) : Sd (tCall (lift dsp) [] E ta) (dCall dsp da) := fun B F H σ env Q Qv n q k =>
  ha B F H σ env _ _ n q fun vs svs F1 H1 q1 e1 n1 r1 => by
    rw [List.append_nil]
    refine ⟨F1, B.fp, svs, _, n1.g.fh, r1, fun b hb => ⟨n1.g.bagNF hb, n1.g.bag b hb⟩, q1, fun v r F' H' q' g' r' => ?_⟩
    cases r with
    | dat d => exact k v d F' H' q' (e1.trans g'.bf) (n1.call g') r'
    | new ds =>
      obtain ⟨l, ws, rfl, h1, h2, h3, h4⟩ := r'
      have n' := n1.call g'
      obtain ⟨n2, e2, d2⟩ := (ROk.back n1 g' h1 h2 h3 h4).freeze n'
      exact k _ _ _ _ q' ((e1.trans g'.bf).trans e2) n2 d2
theorem sn_call {E : XK} (ha : Sc ta da) : Sn (tCall (lift dsp) [] E ta) (nCall dsp da) := fun B F H σ env Q Qv n q k =>
  ha B F H σ env _ _ n q fun vs svs F1 H1 q1 e1 n1 r1 => by
    rw [List.append_nil]
    refine ⟨F1, B.fp, svs, _, n1.g.fh, r1, fun b hb => ⟨n1.g.bagNF hb, n1.g.bag b hb⟩, q1, fun v r F' H' q' g' r' => ?_⟩
    obtain ⟨ds, rfl, q'⟩ := q'
    obtain ⟨l, ws, rfl, h1, h2, h3, h4⟩ := r'
    exact k l ws ds F' H' q' (e1.trans g'.bf) (n1.call g') (ROk.back n1 g' h1 h2 h3 h4)
variable {k : Nat} {f : Addr} {fd : FuncData} {ps : List Str}
theorem ped_call (F : FnOk X.prog X.w X.K X.mg X.base CX0 k f fd ps (lift dsp)) (hr : Room k X.A) (hg : Gl X x) (hm : X.mg x = some (.ref f)) (hk : PySem.W.keepIn X.K (.ref f) = true) (hb : Binds X.K fd ps []) (ha : PAc X (e :: es) ta da) (hdb : (x == ("__debug__" : Str)) = false := by decide)
    (he : starEach (e :: es) X.env = (false, eval e X.env) :: starEach es X.env := by rfl) (hpl : (backTo pos (starEach es X.env)).any (·.1) = false := by rfl) : PEd X (.Call (.Name x p) (e :: es) [] pos) (tCall (lift dsp) [] E0 ta) (dCall dsp da) := ⟨pe_call F hr hg hm hk hb .nil pass0 ha.pa hdb he hpl, sd_call ha.s⟩
theorem pen_call (F : FnOk X.prog X.w X.K X.mg X.base CX0 k f fd ps (lift dsp)) (hr : Room k X.A) (hg : Gl X x) (hm : X.mg x = some (.ref f)) (hk : PySem.W.keepIn X.K (.ref f) = true) (hb : Binds X.K fd ps []) (ha : PAc X (e :: es) ta da) (hdb : (x == ("__debug__" : Str)) = false := by decide)
    (he : starEach (e :: es) X.env = (false, eval e X.env) :: starEach es X.env := by rfl) (hpl : (backTo pos (starEach es X.env)).any (·.1) = false := by rfl) : PEn X (.Call (.Name x p) (e :: es) [] pos) (tCall (lift dsp) [] E0 ta) (nCall dsp da) := ⟨pe_call F hr hg hm hk hb .nil pass0 ha.pa hdb he hpl, sn_call ha.s⟩
theorem ped_call0 (F : FnOk X.prog X.w X.K X.mg X.base CX0 k f fd ps (lift dsp)) (hr : Room k X.A) (hg : Gl X x) (hm : X.mg x = some (.ref f)) (hk : PySem.W.keepIn X.K (.ref f) = true) (hb : Binds X.K fd ps []) (hdb : (x == ("__debug__" : Str)) = false := by decide) :
    PEd X (.Call (.Name x p) [] [] pos) (tCall (lift dsp) [] E0 tNil) (dCall dsp aNil) := ⟨pe_call0 F hr hg hm hk hb .nil pass0 hdb, sd_call (pac_nil (X := X)).s⟩
end
/-! ### a def by its body -/
def startd (n : Nat) (svs : List SV) : Denv := svs.map some ++ List.replicate (n - svs.length) none
theorem pairedLen {α β : Type} {R : α → β → Prop} : ∀ {l : List α} {m : List β}, Paired R l m → l.length = m.length
  | _, _, .nil => rfl
  | _, _, .cons _ t => by rw [List.length_cons, List.length_cons, pairedLen t]
theorem pairedGet {α β : Type} {R : α → β → Prop} : ∀ {l : List α} {m : List β} {i : Nat} {y : β}, Paired R l m → m[i]? = some y → ∃ x, l[i]? = some x ∧ R x y
  | _, _, _, _, .nil, e => by simp at e
  | _, _, 0, _, .cons r _, e => by
    simp at e
    subst e
    exact ⟨_, rfl, r⟩
  | _, _, i + 1, y, .cons _ t, e => by
    obtain ⟨u, h1, h2⟩ := pairedGet (i := i) (y := y) t (by simpa using e)
    exact ⟨u, by simpa using h1, h2⟩
theorem start_den {F H : Hp} {fp : Addr → Prop} {vs : List V} {svs : List SV} {N : List Str} (e : Ex F H) (hb : ∀ b, fp b → F b = none ∧ BagAt F H b) (r : Paired (ArgOk fp F) vs svs) : Den ⟨H, F, fp⟩ F H (L2.start N vs) (startd N.length svs) := by
  have hl := pairedLen r
  have key : ∀ (i : Nat) sv, (startd N.length svs)[i]? = some (some sv) → ∃ v, (L2.start N vs)[i]? = some (some v) ∧ ArgOk fp F v sv := fun i sv h => by
    unfold startd at h
    unfold L2.start
    by_cases hi : i < svs.length
    · rw [List.getElem?_append_left (by simpa using hi), List.getElem?_map] at h
      rw [List.getElem?_append_left (by simpa [hl] using hi), List.getElem?_map]
      cases e1 : svs[i]? with
      | none =>
        rw [e1] at h
        cases h
      | some s =>
        rw [e1] at h
        cases h
        obtain ⟨v, h1, h2⟩ := pairedGet r e1
        exact ⟨v, by rw [h1]; rfl, h2⟩
    · rw [List.getElem?_append_right (by simpa using hi), List.getElem?_replicate] at h
      split at h <;> cases h
  refine ⟨Grow.start e hb, ?_, fun i sv h => ?_, fun i j ds es l h _ _ _ => ?_⟩
  · unfold startd L2.start
    rw [List.length_append, List.length_map, List.length_replicate, List.length_append, List.length_map, List.length_replicate, hl]
  · obtain ⟨v, h1, h2⟩ := key i sv h
    refine ⟨v, h1, ?_⟩
    cases sv with
    | dat d => exact h2
    | bag => exact h2
    | own ds => exact h2.elim
  · obtain ⟨v, _, h2⟩ := key i _ h
    exact h2.elim
section
variable {P : Program} {w : World} {K : PySem.W.Frag} {mg : Str → Option Value} {base : Heap}
theorem fun_d {x qual : Str} {st : Stmt} {f : Addr} {fd : FuncData} {N ps : List Str} {k : Nat} {dsp : DSp} {t : DS} (F : Fun K x qual st f fd) (S : FnScope N ps (defScope st)) (len : ∀ svs R, dsp svs R → svs.length = ps.length)
    (hb : ∀ (cdv : Value) (A : Around) (outer : List Env) (s : Shared) (H : Hp) (E : XK), Room k (A.deeper (envOfC qual (defScope st) s.heap.objs.size f cdv)) → ∃ ts, PSsd (cxOf CX0 P w K mg base N qual (defScope st) f cdv A outer s H E).nox (defBody st) ts t)
    (rd : ∀ svs R, dsp svs R → t { nx := fun _ => R (.dat .none), rt := R } (startd N.length svs)) : FnOk P w K mg base CX0 (k + 1) f fd ps (lift dsp) := by
  refine F.ok S (fun vs H Q E h => ?_) (fun cdv A outer s H vs Q E hr h => ?_)
  · obtain ⟨F', fp, svs, R, _, r, _, q, _⟩ := h
    rw [pairedLen r]
    exact len svs R q
  · obtain ⟨F', fp, svs, R, e, r, hb', q, kk⟩ := h
    obtain ⟨ts, ht⟩ := hb cdv A outer s H E hr
    exact ⟨ts, ht.ps, ht.s ⟨H, F', fp⟩ F' H _ _ _ { nx := fun _ => R (.dat .none), rt := R } (start_den e hb' r) ⟨fun F2 H2 σ2 env2 e2 n2 q2 => kk _ (.dat .none) F2 H2 q2 n2.g Dt.non, fun F2 H2 v r e2 g2 r2 q2 => kk v r F2 H2 q2 g2 r2, fun _ _ _ _ _ _ z => z.elim, fun _ _ _ _ _ _ z => z.elim⟩ (rd svs R q)⟩
end

/-! ### the bag: a draw -/
def spTake : DSp := fun svs R => ∃ m : Int, svs = [.bag, .dat (.int m)] ∧ 0 < m ∧ ∀ r : Int, 0 ≤ r → r < m → R (.dat (.int r))
def rLenQ (K : PySem.W.Frag) : List V → Hp → VK → Prop := fun xs H Q => ∃ p ys, xs = [.ref p] ∧ (SqL K H p ys ∨ SqT K H p ys) ∧ Q (.int ys.length) H
def tTake (K : PySem.W.Frag) : TS := tSeq (tAsg (tOp (rI0 fun i j => .int (i + j)) (tOp (rIxL K) (tVar 0) (tC (.int 1))) (tC (.int 1))) (gSub (tVar 0) (tC (.int 1)) rSetL))
  (tRet (tOp (rI (fun _ j => 0 < j) fun i j => .int (i % j)) (tOp (rIxL K) (tOp (rIxL K) (tVar 0) (tC (.int 0))) (tOp (rI (fun _ j => 0 < j) fun i j => .int (i % j)) (tOp (rIxL K) (tVar 0) (tC (.int 1))) (tCB (rLenQ K) (tCons (tOp (rIxL K) (tVar 0) (tC (.int 0))) tNil)))) (tVar 1)))
theorem rd_take {K : PySem.W.Frag} {vs : List V} {H : Hp} {Q : VK} {E : XK} (h : lift spTake vs H Q E) : tTake K { nx := fun _ H' => Q .non H', rt := Q } (L2.start ["bag", "many"] vs) H := by
  obtain ⟨F, fp, svs, R, e, r, hb, ⟨m, rfl, hm, hR⟩, k⟩ := h
  obtain ⟨v, u, rfl, ⟨b, rfl, hf⟩, r2⟩ := paired2 r
  cases r2
  obtain ⟨nF, l, n, ns, h1, h2, h3, h4, h5⟩ := hb b hf
  have hbl : b ≠ l := fun z => by
    subst z
    rw [nF] at h3
    cases h3
  have hl : upd H b (.lst [.ref l, .int (n + 1)]) l = some (.lst (ns.map V.int)) := by
    rw [upd_ne hbl.symm]
    exact e _ _ h3
  have hlen : ((ns.map V.int).length : Int) = 400 := by
    rw [List.length_map, h4]
    rfl
  refine ⟨_, rfl, b, _, 1, .int n, rfl, rfl, SqL.of h1, rfl, n, 1, rfl, rfl, _, rfl, b, _, 1, 1, rfl, rfl, h1, rfl, ?_⟩
  have hmod : 0 ≤ (n + 1) % ((ns.map V.int).length : Int) ∧ (n + 1) % ((ns.map V.int).length : Int) < 400 := by
    rw [hlen]
    omega
  obtain ⟨x, hx⟩ : ∃ x, ns[((n + 1) % ((ns.map V.int).length : Int)).toNat]? = some x := ⟨_, List.getElem?_eq_getElem (by omega)⟩
  have hx2 : atI (ns.map V.int) ((n + 1) % ((ns.map V.int).length : Int)) = some (.int x) := by
    refine at_of (j := ((n + 1) % ((ns.map V.int).length : Int)).toNat) (by omega) ?_
    rw [List.getElem?_map, hx]
    rfl
  refine ⟨_, rfl, b, _, 0, .ref l, rfl, rfl, SqL.of upd_same, rfl, _, rfl, b, _, 1, .int (n + 1), rfl, rfl, SqL.of upd_same, rfl, _, rfl, b, _, 0, .ref l, rfl, rfl, SqL.of upd_same, rfl, l, _, rfl, .inl (SqL.of hl), n + 1, _, rfl, rfl, ?_, l, _, _, .int x, rfl, rfl, SqL.of hl, hx2, _, rfl, x, m, rfl, rfl, hm, ?_⟩
  · show (0 : Int) < ((ns.map V.int).length : Int)
    rw [hlen]
    decide
  · refine k _ (.dat (.int (x % m))) F _ (hR _ (Int.emod_nonneg _ (by omega)) (Int.emod_lt_of_pos _ hm)) ⟨Ex.mut e nF, Ex.refl _, fun a o ha h => ?_, fun _ _ _ h => h, fun b' hb' => ?_, fun b' hb' => ⟨(hb b' hb').1, ?_⟩⟩ (.int _)
    · rw [upd_ne (fun z => ha (by rw [z]; exact hf))]
      exact h
    · by_cases hbb : b' = b
      · subst hbb
        exact ⟨l, n + 1, ns, upd_same, by omega, h3, h4, h5⟩
      · refine (hb b' hb').2.mono (Ex.refl _) fun o ho => ?_
        rw [upd_ne hbb]
        exact ho
    · obtain ⟨l', n', ns', p, _⟩ := (hb b' hb').2
      exact ⟨_, p⟩
end Pd

set_option maxRecDepth 100000
set_option maxHeartbeats 4000000
/-! ### enumerate of a tuple -/
namespace PySem
open Sem (wp)
open AutoSeq1 (wpAny_loadPart')
theorem pd_enum_newT (l : Addr) (items : Array Value) (n : Nat) (dct : Option Addr) (sl : Array (Option Value)) :
    Meets (Builtin.«enumerate.__new__» ⟨[.type "enumerate", .ref l], []⟩) (fun _ R s => s.heap.get? l = some { cls := .type "tuple", dict := dct, data := .seq items n, slots := sl } ∧
      R (.ok (.ret (.ref (s.heap.push { cls := .type "tuple_iterator", data := .fields #[.ref l, .int 0 0] }).objs.size)))
        { s with heap := (s.heap.push { cls := .type "tuple_iterator", data := .fields #[.ref l, .int 0 0] }).push { cls := .type "enumerate", data := .fields #[.none, .bool false, .ref s.heap.objs.size, rawInt 0, .none, .none] } }) :=
  .of_wp fun prog w A R s h => by
    obtain ⟨hp, g, d, tk, os⟩ := s; obtain ⟨hl, h⟩ := h
    have hsub := sub_enumerate
    have hL : Heap.IsTuple (Shared.heap ⟨hp, g, d, tk, os⟩) l items := ⟨_, hl, rfl, n, rfl⟩
    wp_walk using wpAny_loadPart' hl
    refine wpAny_stack_any fun st => wpAny_pure ?_
    split
    · rename_i c _ _ _ _ _
      cases (c == Value.type "enumerate")
      · wp_walk using wpAny_loadPart' hl, wpAny_pyIter_tuple hL
        exact ⟨_, rfl, h⟩
      · wp_walk using wpAny_loadPart' hl, wpAny_pyIter_tuple hL
        exact ⟨_, rfl, h⟩
    · wp_walk using wpAny_loadPart' hl, wpAny_pyIter_tuple hL
      exact ⟨_, rfl, h⟩
section
variable {prog : Program} {w : World} {A : Around} {E : Value → Shared → Prop} {s : Shared}
theorem pd_call_enumT {l : Addr} {items : Array Value} {Q : Value → Shared → Prop} (hL : s.heap.IsTuple l items)
    (h : ∀ h', IsEnum h' (s.heap.objs.size + 1) s.heap.objs.size 0 .none → h'.IsTupleIter s.heap.objs.size l 0 → h'.objs.size = s.heap.objs.size + 2 →
      (∀ b o, s.heap.get? b = some o → h'.get? b = some o) → Q (.ref (s.heap.objs.size + 1)) { s with heap := h' }) :
    wpAny (model prog w) A (call (.type "enumerate") [.ref l]) Q E s := by
  obtain ⟨⟨c, dct, dt, sl⟩, hl, hc, n, hd⟩ := hL
  replace hc : c = .type "tuple" := hc
  replace hd : dt = .seq items n := hd
  subst hc hd
  refine callType_new F.called_enumerate (by decide) (F.typeCall_enumerate_1 _) (F.newCall_enumerate_1 _) (fun obj => F.args_object_init_2 obj _) F.entry_enumerate_new
    (pd_enum_newT l items n dct sl) ⟨hl, ?_⟩
  have hz : (s.heap.push { cls := .type "tuple_iterator", data := .fields #[.ref l, .int 0 0] }).objs.size = s.heap.objs.size + 1 := Heap.size_push ..
  show _ ∧ _
  rw [hz]
  have he : IsEnum ((s.heap.push { cls := .type "tuple_iterator", data := .fields #[.ref l, .int 0 0] }).push
      { cls := .type "enumerate", data := .fields #[.none, .bool false, .ref s.heap.objs.size, rawInt 0, .none, .none] }) (s.heap.objs.size + 1) s.heap.objs.size 0 .none := by
    have := Heap.get?_push_size (s.heap.push { cls := .type "tuple_iterator", data := .fields #[.ref l, .int 0 0] })
      (o := { cls := .type "enumerate", data := .fields #[.none, .bool false, .ref s.heap.objs.size, rawInt 0, .none, .none] }) rfl
    rw [hz] at this; exact this
  refine ⟨⟨_, he, rfl⟩, h _ he ⟨_, Heap.get?_push_of_some _ (Heap.get?_push_size _ rfl), rfl, rfl⟩ (by rw [Heap.size_push, hz]) fun b o x => Heap.get?_push_of_some _ (Heap.get?_push_of_some _ x)⟩
end
end PySem
namespace Pd
open PySem PySem.Spec PyProof.Rows L2
open Evl (Ex)
abbrev St := L2.St
def IteT (K : PySem.W.Frag) (a : Addr) : It :=
  ⟨fun i H => ∃ (xs : List V) (x : V), SqT K H a xs ∧ xs[i]? = some x, fun i H v H' => ∃ T x, v = .ref T ∧ H T = none ∧ H' = upd H T (.tup [.int (i : Nat), x]) ∧ ∀ xs, SqT K H a xs → xs[i]? = some x, fun i H => ∃ xs : List V, SqT K H a xs ∧ xs.length = i⟩
theorem turn_enumT {P : Program} {w : World} {K : PySem.W.Frag} {elts : List Expr} {kk : Nat} {tpos : Pos} (a e it : Addr) (hae : a ≠ e) (hai : a ≠ it) :
    Turn P w K (.Tuple elts kk tpos) (IteT K a) [e, it] e (fun i h => (∃ old, IsEnum h e it ((i : Nat) : Int) old) ∧ h.IsTupleIter it a i ∧ e ≠ it) where
  mem := by simp
  obj := fun i h st b hb => by
    obtain ⟨⟨old, he⟩, ⟨o, ho, hc, hd⟩, _⟩ := st
    have e' : b = e ∨ b = it := by simpa using hb
    rcases e' with z | z
    · rw [z]; exact ⟨_, he, fun v q => nomatch q⟩
    · rw [z]; exact ⟨o, ho, fun v q => by rw [hd] at q; cases q⟩
  keep := fun i h h' st k => let ⟨⟨old, he⟩, hi, hne⟩ := st; ⟨⟨old, k e (by simp) _ he⟩, hi.at fun o q => k it (by simp) o q, hne⟩
  item := by
    intro X hP hw hK hc i pins s σ H E I hf st hg
    subst hP hw hK
    obtain ⟨⟨old, he⟩, hit, hne⟩ := st
    obtain ⟨xs, x, hq, hx⟩ := hg
    obtain ⟨its, rv, p, hz⟩ := I.tuple hq
    obtain ⟨u, hu, ru⟩ := rv.get hx
    have hel : e < s.heap.objs.size := Heap.lt_size he
    have hil : it < s.heap.objs.size := by obtain ⟨_, q, _⟩ := hit; exact Heap.lt_size q
    have hlt : i < its.toArray.size := by
      have := (List.getElem?_eq_some_iff.mp hu).1
      simpa using this
    refine wpAny_pyNext_enum_itemD (Draws.tuple (A := X.A.in1) (I.ok.hd hc) it a hai its.toArray) he ⟨hit, p⟩ hlt hne (by
      intro z
      have : e = it ∨ e = a := by simpa using z
      rcases this with z | z
      · exact hne z
      · exact hae z.symm) fun x' h' tk hP ho hit' hT hsz hk => ?_
    have ex' : u = x' := by
      have h1 : its.toArray[i]? = some u := by simpa using hu
      rw [h1] at hP
      exact Option.some.inj hP
    subst ex'
    refine ⟨_, rfl, wpAny_letOwnedTupleGo_enum (s := { s with heap := h', toks := tk + 1 }) ho fun h'' he' sb => ?_⟩
    have hT2 : h''.get? s.heap.objs.size = some { cls := .type "tuple", data := .seq #[.int i tk, u] } := (sb.2 _ (Nat.ne_of_gt hel)).trans hT
    have new : ObjOk X.prog X.w (upd H s.heap.objs.size (.tup [.int (i : Nat), x])) h'' s.heap.objs.size (.tup [.int (i : Nat), x]) :=
      ⟨by show 2 ≤ sizeLine; decide, [.int i tk, u], .cons ⟨_, rfl⟩ (.cons ru .nil), ⟨_, hT2, rfl, _, rfl⟩⟩
    have I1 : Inv X pins σ (upd H s.heap.objs.size (.tup [.int (i : Nat), x])) { s with heap := h'', toks := tk + 1 } :=
      I.turnedNew (ch := [e, it]) (fun b ob hb q => (sb.2 b (fun z => hb (by simp [z]))).trans (hk b ob (fun z => hb (by simp [z])) (fun z => hb (by simp [z])) q)) hf (Nat.le_refl _) new
    refine ⟨.ref s.heap.objs.size, _, I1, rfl, ⟨_, x, rfl, I.hok.fresh (Nat.le_refl _), rfl, fun ys hy => by rw [I.tuple_inj hy hq]; exact hx⟩, ⟨⟨u, ?_⟩, hit'.1.at fun o q => (sb.2 it (Ne.symm hne)).trans q, hne⟩, fun b hb => ?_⟩
    · have e1 : ((i + 1 : Nat) : Int) = (i : Int) + 1 := by omega
      rw [e1]; exact he'
    · have hb' : b < s.heap.objs.size := by
        have e' : b = e ∨ b = it := by simpa using hb
        rcases e' with z | z
        · rw [z]; exact hel
        · rw [z]; exact hil
      rw [upd_ne (Nat.ne_of_lt hb')]
      exact (hf b hb).1
  done := by
    intro X hP hw hK hc i pins s σ H E I hf st hg
    subst hP hw hK
    obtain ⟨⟨old, he⟩, hit, hne⟩ := st
    obtain ⟨xs, hq, hx⟩ := hg
    obtain ⟨its, rv, p, hz⟩ := I.tuple hq
    obtain ⟨f0, f1, f2, f3, f4, f5⟩ := hf it (by simp)
    have hl := rv.length
    have hn : its.toArray.size = i := by
      simp
      omega
    exact wpAny_pyNext_enum_endD (Draws.tuple (A := X.A.in1) (I.ok.hd hc) it a hai its.toArray) he (by rw [hn]; exact ⟨hit, p⟩) fun h' eb => ⟨rfl, I.turned (t' := s.toks) (fun b o hb q => eb b o hb q) f0 f1 f3 f4 f5⟩
  self := fun A i s Q E st h => let ⟨⟨_, he⟩, _⟩ := st; wpAny_pyIter_enum he h
def iEnumT (K : PySem.W.Frag) (ta : TA) : TI := fun σ H R => ta σ H fun vs H1 => ∃ a xs, vs = [.ref a] ∧ ((SqL K H1 a xs ∧ R (Ite K a) H1) ∨ (SqT K H1 a xs ∧ R (IteT K a) H1))
theorem pi_enumA {X : Cx} {e : Expr} {ta : TA} {p pos tpos : Pos} {elts : List Expr} {kk : Nat} (hg : Gl X "enumerate") (hm : X.mg "enumerate" = none) (ha : PA X [e] ta) (hs : starEach [e] X.env = [(false, eval e X.env)] := by rfl) :
    PI X (.Tuple elts kk tpos) (.Call (.Name "enumerate" p) [e] [] pos) (iEnumT X.K ta) := by
  refine ⟨fun pins s σ H R I h => ?_⟩
  refine Call_ (ld_blt I hg hm boot_enumerate (PyProof.Rows.callWith_type1 (thn (ha.run pos pins s σ H _ I h) fun us s1 ⟨vs, H1, I1, r1, q1⟩ => ?_) hs rfl))
  obtain ⟨a, xs, ex, q1⟩ := q1
  subst ex
  cases r1 with
  | cons r rr =>
    cases rr
    cases r
    have fin : ∀ b, b = s1.heap.objs.size + 1 ∨ b = s1.heap.objs.size → FpOk X pins H1 b := fun b e' => by
      have hle : s1.heap.objs.size ≤ b := by
        rcases e' with z | z
        · rw [z]; exact Nat.le_add_right _ _
        · rw [z]; exact Nat.le_refl _
      exact I1.fpOk hle (I1.hok.fresh hle)
    rcases q1 with ⟨hq, q⟩ | ⟨hq, q⟩
    · obtain ⟨its, rv, p', hz⟩ := I1.list hq
      refine call_enumerate_list p'.isList fun h' he hit hsz hk => wpAny_pyIter_enum he ?_
      have I2 : Inv X pins σ H1 { s1 with heap := h' } := I1.kept (t' := s1.toks) hk
      exact ⟨s1.heap.objs.size + 1, [s1.heap.objs.size + 1, s1.heap.objs.size], _, _, H1, rfl, I2, turn_enum a (s1.heap.objs.size + 1) s1.heap.objs.size, ⟨⟨.none, he⟩, hit, Nat.succ_ne_self _⟩, fun b hb => fin b (by simpa using hb), q⟩
    · obtain ⟨its, rv, p', hz⟩ := I1.tuple hq
      have hal : a < s1.heap.objs.size := p'.lt
      refine pd_call_enumT p' fun h' he hit hsz hk => wpAny_pyIter_enum he ?_
      have I2 : Inv X pins σ H1 { s1 with heap := h' } := I1.kept (t' := s1.toks) hk
      exact ⟨s1.heap.objs.size + 1, [s1.heap.objs.size + 1, s1.heap.objs.size], _, _, H1, rfl, I2, turn_enumT a (s1.heap.objs.size + 1) s1.heap.objs.size (Nat.ne_of_lt (Nat.lt_succ_of_lt hal)) (Nat.ne_of_lt hal), ⟨⟨.none, he⟩, hit, Nat.succ_ne_self _⟩, fun b hb => fin b (by simpa using hb), q⟩
end Pd

set_option maxRecDepth 100000
set_option maxHeartbeats 4000000
namespace Pd
open PySem L2
open Evl (Ex)
open PyProof.Rows (envOfC)
/-! ### list.count of flat things -/
section
variable {X : Cx}
def rCntF (K : PySem.W.Frag) : V → List V → Hp → VK → Prop := fun x xs H Q => ∃ (p : Addr) (ys : List V) (y : V), x = .ref p ∧ xs = [y] ∧ SqL K H p ys ∧ flatV y = true ∧ ys.all flatV = true ∧ Q (.int (ys.countP fun z => eqV z y : Nat)) H
theorem count_eqU {x : V} : ∀ {xs : List V} {us : List Value}, Vals xs us → xs.all flatV = true → us.countP (eqU x) = xs.countP fun y => eqV y x
  | _, _, .nil, _ => rfl
  | y :: xs, u :: us, .cons r t, f => by
    rw [List.all_cons, Bool.and_eq_true] at f
    rw [List.countP_cons, List.countP_cons, eqU_of r f.1, count_eqU t f.2]
theorem mt_countF : MtR X "list.count" (rCntF X.K) := by
  intro pins s σ H x xs v us Q I rx rxs h
  obtain ⟨p, ys, y, rfl, rfl, hs, fy, fs, q⟩ := h
  cases rx
  cases rxs with
  | cons ru rr =>
    cases rr
    obtain ⟨its, rv, ⟨⟨cls, dd, data, sl⟩, n, ho, hc, hdn, hd⟩, hlen⟩ := I.list hs
    simp only at hc hd
    subst hc hd
    refine PySem.call_meets PySem.F.slot_list_count ⟨_, ho, rfl⟩ PySem.F.entry_list_count (PySem.F.args_list_count_2 _ _)
      (SeqAt.list_countAt p its.toArray n dd sl _ (eqU y)) ⟨ho, fun w hw => mem_eqAt ru fy rv fs w (by simpa using hw), ?_⟩
    have ec : its.toArray.toList.countP (eqU y) = ys.countP fun z => eqV z y := by
      simpa using count_eqU rv fs
    refine ⟨.int (ys.countP fun z => eqV z y : Nat), H, I.tok _, ⟨s.toks, ?_⟩, q⟩
    show Value.int ((its.toArray.toList.countP (eqU y) : Nat) : Int) s.toks = Value.int ((ys.countP fun z => eqV z y : Nat) : Int) s.toks
    rw [ec]
end
def optD : Option Int → PyData
  | none => .none
  | some i => .int i
def optV : Option Int → V
  | none => .non
  | some i => .int i
theorem dt_opt {F : Hp} {v : V} {o : Option Int} (h : Dt F v (optD o)) : v = optV o := by
  cases o with
  | none => cases h; rfl
  | some i => cases h; rfl
theorem dta_opts {F : Hp} : ∀ {vs : List V} {os : List (Option Int)}, DtA F vs (os.map optD) → vs = os.map optV
  | _, [], h => by cases h; rfl
  | _, o :: os, h => by
    cases h with
    | cons h1 h2 =>
      rw [dt_opt h1, dta_opts h2]
      rfl
theorem flat_opt (o : Option Int) : flatV (optV o) = true := by cases o <;> rfl
theorem flat_opts : ∀ os : List (Option Int), (os.map optV).all flatV = true
  | [] => rfl
  | o :: os => by
    rw [List.map_cons, List.all_cons, flat_opt, flat_opts os]
    rfl
theorem eqV_opt (a b : Option Int) : eqV (optV a) (optV b) = decide (a = b) := by
  cases a <;> cases b
  · rfl
  · rfl
  · rfl
  · rename_i x y
    show (x == y) = decide (some x = some y)
    rw [Bool.eq_iff_iff]
    simp
theorem count_opts (o : Option Int) : ∀ os : List (Option Int), (os.map optV).countP (fun z => eqV z (optV o)) = os.count o
  | [] => rfl
  | a :: os => by
    rw [List.map_cons, List.countP_cons, count_opts o os, List.count_cons, eqV_opt]
    congr 1
    by_cases h : a = o
    · simp [h]
    · simp [h]
def dCnt (da db : DE) : DE := fun env Q => da env fun d => ∃ os : List (Option Int), d = .list (os.map optD) ∧ db env fun y => ∃ o : Option Int, y = optD o ∧ Q (.int (os.count o : Nat))
section
variable {X : Cx} {a b c e : Expr} {es : List Expr} {ta tb te tc : TE} {tA tB' : TT} {da db dc dd : DE} {dn dm : DN} {dt du : DT} {pos apos cpos : Pos} {tA1 : TA}
theorem ped_count (ha : PEr X a ta da) (hb : PEr X b tb db)
    (hbase : attributeBase a "count" X.env (eval a X.env) = eval a X.env := by rfl)
    (hfew : ((backTo cpos (starEach [b] X.env)).all (fun x => !x.1) && (backToKw cpos (keywordEach [] X.env)).all (fun x => x.1.isSome)
      && decide ([b].length + ([] : List Keyword).length + (if ([] : List Keyword).isEmpty then 0 else 1) < 30)) = true := by rfl)
    (hline : (apos.endLine == cpos.line) = true := by rfl) (hs : starEach [b] X.env = (false, eval b X.env) :: starEach [] X.env := by rfl) (hplain : (backTo cpos (starEach [] X.env)).any (·.1) = false := by rfl) :
    PEd X (.Call (.Attribute a "count" apos) [b] [] cpos) (tBM X.K "list" (rCntF X.K) ta (tCons tb tNil)) (dCnt da db) := ⟨pe_bm PySem.F.plainAttrs_list PySem.F.slot_list_count PySem.F.type_list_count mt_countF ha.pe (pa_cons hb.pe pa_nil hs) hbase hfew hline hs hplain, fun B F H σ env Q Qv n q k =>
  ha.s B F H σ env _ _ n q fun v d F1 H1 ⟨os, ed, q1⟩ e1 n1 r1 => by
    subst ed
    obtain ⟨l, vs, rfl, h1, h2⟩ := (r1.rb n1).list n1.g.fh
    refine ⟨.inl ⟨rfl, vs, SqL.of h1⟩, hb.s B F1 H1 σ env _ _ n1 q1 fun w f F2 H2 ⟨o, ef, q2⟩ e2 n2 r2 => ?_⟩
    subst ef
    obtain ⟨l', vs', el, h1', h2'⟩ := ((r1.up e2).rb n2).list n2.g.fh
    cases el
    have ev := dta_opts h2'
    subst ev
    have ew : w = optV o := by
      rcases r2 with r2 | ⟨_, _, _, _, z⟩
      · exact dt_opt r2
      · cases o <;> cases z
    subst ew
    refine ⟨_, _, _, rfl, rfl, SqL.of h1', flat_opt o, flat_opts os, ?_⟩
    rw [count_opts]
    exact k _ _ _ _ q2 (e1.trans e2) n2 (.int _)⟩
/-! ### tests that chain -/
theorem ptd_chain {op op' : CmpOp} {r r' : R2} {o o' : PyData → PyData → (PyData → Prop) → Prop} (ho : OpR X (compareOp op) r) (hd : OpD r o) (ho' : OpR X (compareOp op') r') (hd' : OpD r' o') (ha : PEr X a ta da) (hb : PEr X b tb db) (hc : PEr X c tc dc)
    (hm : lastMarks [op, op'] [b, c] = false := by with_unfolding_all rfl) : PTd X (.Compare a [op, op'] [b, c] pos) (tTest (tChain r r' ta tb tc)) (dTest (dChain o o' da db dc)) := ⟨pt_chain ho ho' ha.pe hb.pe hc.pe hm, st_test (sd_chain hd hd' ha.s hb.s hc.s)⟩
/-! ### a slice of a list or a tuple, frozen -/
def dSl (da : DE) (lo hi : DO) : DE := fun env Q => da env fun d => lo env fun l => hi env fun u => match d with
  | .list ds => Q (.list (cutD ds l u))
  | .tuple ds => Q (.tuple (cutD ds l u))
  | _ => False
def rSlB (K : PySem.W.Frag) : V → Option Int → Option Int → Hp → VK → Prop := fun x lo hi H Q => rSlL K x lo hi H Q ∨ rSlA K x lo hi H Q
variable {lo hi : Option Expr} {tl th : TO} {dl dh : DO} {p2 : Pos}
theorem ped_sl (ha : PEr X a ta da) (hl : POd X lo tl dl) (hh : POd X hi th dh) : PEd X (.Subscript a (.Slice lo hi none p2) pos) (tSl (rSlB X.K) ta tl th) (dSl da dl dh) := ⟨pe_slice (SlR.or sl_list sl_tupA) ha.pe hl.po hh.po, fun B F H σ env Q Qv n q k =>
  ha.s B F H σ env _ _ n q fun v d F1 H1 q1 e1 n1 r1 => hl.s B F1 H1 σ env _ _ n1 q1 fun l F2 H2 q2 e2 n2 => hh.s B F2 H2 σ env _ _ n2 q2 fun u F3 H3 q3 e3 n3 => by
    have e13 := e1.trans (e2.trans e3)
    cases d with
    | list ds =>
      obtain ⟨a', vs, rfl, h1, h2⟩ := ((r1.up (e2.trans e3)).rb n3).list n3.g.fh
      refine .inl ⟨a', vs, rfl, SqL.of h1, fun p hp => ?_⟩
      have g : Gro F3 H3 (upd F3 p (.lst (cutV vs l u))) (upd H3 p (.lst (cutV vs l u))) := .new hp
      exact k _ _ _ _ q3 (e13.trans (g.ex n3.g.fh)) (n3.gro g) (.lst upd_same ((h2.cut l u).up (g.ex n3.g.fh)))
    | tuple ds =>
      obtain ⟨a', vs, rfl, h1, h2⟩ := ((r1.up (e2.trans e3)).rb n3).tuple
      refine .inr ⟨a', vs, rfl, SqT.of (n3.g.fh _ _ h1), fun h0 => ?_, fun h0 p hp => ?_⟩
      · have q3' : Q (.tuple (cutD ds l u)) := q3
        rw [cut_all h2 h0] at q3'
        exact k _ _ _ _ q3' e13 n3 (.tup h1 h2)
      · have g : Gro F3 H3 (upd F3 p (.tup (cutV vs l u))) (upd H3 p (.tup (cutV vs l u))) := .new hp
        exact k _ _ _ _ q3 (e13.trans (g.ex n3.g.fh)) (n3.gro g) (.tup upd_same ((h2.cut l u).up (g.ex n3.g.fh)))
    | _ => exact q3.elim⟩
/-! ### enumerate of a list or a tuple -/
def itEn (dn : DN) : DN := fun env Q => dn env fun ds' => ∃ d ds, ds' = [d] ∧ seqD d = some ds ∧ Q (enumD 0 ds)
theorem pid_enum {p tpos : Pos} {elts : List Expr} {kk : Nat} (hg : Gl X "enumerate") (hm : X.mg "enumerate" = none) (h : PAf X [a] tA1 dn) (hs : starEach [a] X.env = [(false, eval a X.env)] := by rfl) : PId X (.Tuple elts kk tpos) (.Call (.Name "enumerate" p) [a] [] pos) (iEnumT X.K tA1) (itEn dn) := ⟨pi_enumA hg hm h.pa hs, fun B F H σ env Q R n q k =>
  h.s B F H σ env _ _ n q fun vs ds F' H' ⟨d', ds', ed, hd', q'⟩ e' n' r' => by
    subst ed
    cases r' with
    | cons r1 r2 =>
      cases r2
      cases r1 with
      | @lst l ws dss h1 h2 =>
        cases hd'
        refine ⟨l, ws, rfl, .inl ⟨SqL.of (n'.g.fh _ _ h1), k _ _ F' H' q' e' n' fun F2 H2 e2 eh => ⟨⟨ws, SqL.of (eh _ _ (e2 _ _ h1)), ?_⟩, fun i d hi => ?_⟩⟩⟩
        · rw [enumD_len, h2.len]
          exact Nat.le_refl _
        · rw [enumD_get] at hi
          cases hd : ds'[i]? with
          | none =>
            rw [hd] at hi
            cases hi
          | some z =>
            rw [hd] at hi
            cases hi
            obtain ⟨v, hv, tv⟩ := (h2.up e2).get hd
            refine ⟨⟨ws, v, SqL.of (eh _ _ (e2 _ _ h1)), hv⟩, fun x H'' ⟨T, y, ex, hT, eH, hy⟩ => ?_⟩
            have := hy ws (SqL.of (eh _ _ (e2 _ _ h1)))
            rw [hv] at this
            cases this
            subst ex
            subst eH
            have g : Gro F2 H2 (upd F2 T (.tup [.int (i : Nat), v])) (upd H2 T (.tup [.int (i : Nat), v])) := .new hT
            refine ⟨_, g, .tup upd_same (.cons ?_ (.cons (tv.up (g.ex eh)) .nil))⟩
            rw [Nat.zero_add]
            exact .int _
      | @tup l ws dss h1 h2 =>
        cases hd'
        refine ⟨l, ws, rfl, .inr ⟨SqT.of (n'.g.fh _ _ h1), k _ _ F' H' q' e' n' fun F2 H2 e2 eh => ⟨⟨ws, SqT.of (eh _ _ (e2 _ _ h1)), ?_⟩, fun i d hi => ?_⟩⟩⟩
        · rw [enumD_len, h2.len]
        · rw [enumD_get] at hi
          cases hd : ds'[i]? with
          | none =>
            rw [hd] at hi
            cases hi
          | some z =>
            rw [hd] at hi
            cases hi
            obtain ⟨v, hv, tv⟩ := (h2.up e2).get hd
            refine ⟨⟨ws, v, SqT.of (eh _ _ (e2 _ _ h1)), hv⟩, fun x H'' ⟨T, y, ex, hT, eH, hy⟩ => ?_⟩
            have := hy ws (SqT.of (eh _ _ (e2 _ _ h1)))
            rw [hv] at this
            cases this
            subst ex
            subst eH
            have g : Gro F2 H2 (upd F2 T (.tup [.int (i : Nat), v])) (upd H2 T (.tup [.int (i : Nat), v])) := .new hT
            refine ⟨_, g, .tup upd_same (.cons ?_ (.cons (tv.up (g.ex eh)) .nil))⟩
            rw [Nat.zero_add]
            exact .int _
      | _ => cases hd'⟩

/-! ### the statements' front -/
variable {st : Stmt} {sts sts2 : List Stmt} {ts us : TS} {d u : DS} {g : TG} {gs : TGs} {dg : DG} {dgs : DGs} {vs vs1 vs2 : List Nat} {wi : TI} {it : DN}
theorem qs_expr (h : PEd X e te dd) (hs : swapsWith e none pos.line X.env = pure false := by rfl) : PSd X (.Expr e pos) (tDrop te) (dDrop dd) := psd_expr h (ps_expr h.pe hs)
theorem qs_ret (h : PEd X e te dd) : PSd X (.Return (some e) pos) (tRet te) (dRet dd) := psd_ret h (ps_ret h.pe)
theorem qs_retN (h : PEn X e te dn) : PSd X (.Return (some e) pos) (tRet te) (dRetN dn) := psd_retN h (ps_ret h.pe)
theorem qs_retO (i : Nat) (h : PE X e (tVar i)) : PSd X (.Return (some e) pos) (tRet (tVar i)) (dRetO i) := psd_retO i (ps_ret h)
theorem qs_ret0 : PSd X (.Return none pos) tRetN dRet0 := psd_ret0 ps_retN
theorem qs_if (hc : PTd X c tA dt) (h1 : PSsd X sts ts d) (h2 : PSsd X sts2 us u) : PSd X (.If c sts sts2 pos) (tIfS tA ts us) (dIfS dt d u) := psd_if hc h1 h2 (ps_if hc.pt h1.ps h2.ps)
theorem qs_for {tg iter : Expr} {body : List Stmt} (hp : PassesOwn (model X.prog X.w) X.A X.env X.xe) (hc : X.calm = true) (hi : PId X tg iter wi it) (hg : PGd X tg g dg vs) (hb : PSsd X body ts d) (hs : ∀ x, foldedSetIterable iter X.env x = pure x := by intro _; rfl) : PSd X (.For tg iter body [] pos) (tFor wi g ts) (dFor it dg d) := psd_for hi hg hb (ps_for hp hc hi.pi hg.pg hb.ps hs)
theorem qs_while {body : List Stmt} (hp : PassesOwn (model X.prog X.w) X.A X.env X.xe) (hc : PTd X c tA dt) (hb : PSsd X body ts d) : PSd X (.While c body [] pos) (tWhile tA ts) (dWhile dt d) := psd_while hc hb (ps_while hp hc.pt hb.ps)
theorem qs_set {i : Nat} {x : Str} {pos' : Pos} (hN : X.N.Nodup) (hi : X.N[i]? = some x) (hx : Loc X.env.scope x) (he : PEd X e te dd) (hs : swapsWith e (some (.Name x pos')) pos.line X.env = pure false := by rfl) (hf : X.fn x = true ∨ X.env.scope.names.lookup x = some .local := by first | exact .inl rfl | exact .inr rfl | assumption) :
    PSd X (.Assign [.Name x pos'] e pos) (tAsg te (gName i)) (dAsgG dd (gdName i)) := psd_asg he (sg_name i) (ps_set hN hi hx he.pe hs hf)
theorem qs_setN {i : Nat} {x : Str} {pos' : Pos} (hN : X.N.Nodup) (hi : X.N[i]? = some x) (hx : Loc X.env.scope x) (he : PEn X e te dn) (hs : swapsWith e (some (.Name x pos')) pos.line X.env = pure false := by rfl) (hf : X.fn x = true ∨ X.env.scope.names.lookup x = some .local := by first | exact .inl rfl | exact .inr rfl | assumption) :
    PSd X (.Assign [.Name x pos'] e pos) (tAsg te (gName i)) (dAsgN dn i) := psd_asgN he (ps_set hN hi hx he.pe hs hf)
theorem qs_asg {tg : Expr} (he : PEd X e te dd) (hg : PGd X tg g dg vs) (hs : swapsWithSole [tg] e pos.line X.env = pure false := by rfl) (hw : swappedStores [tg] e X.env = pure none := by rfl)
    (h1 : (assignEach [tg] X.env).map (·.2) = [assign tg X.env] := by rfl) : PSd X (.Assign [tg] e pos) (tAsg te g) (dAsgG dd dg) := psd_asg he hg.s (ps_asg he.pe hg.pg hs hw h1)
theorem qg_name {i : Nat} {x : Str} (hN : X.N.Nodup) (hi : X.N[i]? = some x) (hx : Loc X.env.scope x) (hf : X.fn x = true ∨ X.env.scope.names.lookup x = some .local := by first | exact .inl rfl | exact .inr rfl | assumption) : PGd X (.Name x pos) (gName i) (gdName i) [i] := pgd_name i (pg_name hN hi hx hf)
theorem qg_cons (h1 : PGd X e g dg vs1) (h2 : PGsd X es gs dgs vs2) (hs : (assignEach (e :: es) X.env).map (·.2) = assign e X.env :: (assignEach es X.env).map (·.2) := by rfl) : PGsd X (e :: es) (gCons g gs) (gdCons dg dgs) (vs1 ++ vs2) := ⟨pgs_cons h1.pg h2.pg hs, sgs_cons h1.s h2.s⟩
theorem qg_tup {k n : Nat} (hc : X.calm = true) (h : PGsd X es gs dgs vs) (hn : (assignEach es X.env).length = n := by rfl) (hst : (assignEach es X.env).findIdx? (·.1) = none := by rfl) : PGd X (.Tuple es k pos) (gTup X.K n gs) (gdTup n dgs) vs := ⟨pg_tup hc h.pg hn hst, sg_tup h.s⟩
theorem qs_app {i : Nat} {o : Expr} (ho : PE X o (tVar i)) (h : PEd X e te dd)
    (hbase : attributeBase o "append" X.env (eval o X.env) = eval o X.env := by rfl)
    (hfew : ((backTo cpos (starEach [e] X.env)).all (fun x => !x.1) && (backToKw cpos (keywordEach [] X.env)).all (fun x => x.1.isSome)
      && decide ([e].length + ([] : List Keyword).length + (if ([] : List Keyword).isEmpty then 0 else 1) < 30)) = true := by rfl)
    (hline : (apos.endLine == cpos.line) = true := by rfl) (hs : starEach [e] X.env = (false, eval e X.env) :: starEach [] X.env := by rfl) (hplain : (backTo cpos (starEach [] X.env)).any (·.1) = false := by rfl)
    (hsw : swapsWith (.Call (.Attribute o "append" apos) [e] [] cpos) none pos.line X.env = pure false := by rfl) :
    PSd X (.Expr (.Call (.Attribute o "append" apos) [e] [] cpos) pos) (tDrop (tBM X.K "list" rAppend (tVar i) (tCons te tNil))) (dApp i dd) := psd_app h (ps_expr (pe_bm PySem.F.plainAttrs_list PySem.F.slot_list_append PySem.F.type_list_append mt_append ho (pa_cons h.pe pa_nil hs) hbase hfew hline hs hplain) hsw)
theorem qs_setI {i : Nat} {o x : Expr} {ti : TE} {di : DE} {p : Pos} (ho : PE X o (tVar i)) (hi : PEd X x ti di) (h : PEd X e te dd) (hp : PSet X rSetL → PS X (.Assign [.Subscript o x p] e pos) (tAsg te (gSub (tVar i) ti rSetL))) : PSd X (.Assign [.Subscript o x p] e pos) (tAsg te (gSub (tVar i) ti rSetL)) (dSetI i di dd) := psd_setI h hi (hp set_list)
/-! y = [comprehension] -/
section
variable {elt tg iter : Expr} {ifs : List Expr} {scope : Scope} {own : List (Str × Nat)} {spos : Pos} {vs' : List Nat} {tt : TT}
theorem qs_lc {i : Nat} {y : Str} {py : Pos} (hc : X.calm = true) (hN : X.N.Nodup) (hy : X.N[i]? = some y) (hyl : X.env.scope.names.lookup y = some .local)
    (hsw : swapsWith (.ListComp elt [⟨tg, iter, ifs, 0⟩] scope pos) (some (.Name y py)) spos.line X.env = pure true) (hi : PId X tg iter wi it) (ok : BlkOk X.N X.env.scope scope own)
    (hg : ∀ (s : Shared) (H : Hp) (C : Addr) (cl : List (Str × Addr)) (fp : List Addr), PGd (X.blk s H scope (compEnvC scope cl C X.env) fp) tg g dg vs') (hv : ∀ i ∈ vs', i ∈ own.map (·.2)) (ht : ∀ (s : Shared) (H : Hp) (C : Addr) (cl : List (Str × Addr)) (fp : List Addr), PTsd (X.blk s H scope (compEnvC scope cl C X.env) fp) ifs tt dt)
    (he : ∀ (s : Shared) (H : Hp) (C : Addr) (cl : List (Str × Addr)) (fp : List Addr), PEd (X.blk s H scope (compEnvC scope cl C X.env) fp) elt te dd) (hs : ∀ x, foldedSetIterable iter X.env x = pure x := by intro _; rfl) :
    PSd X (.Assign [.Name y py] (.ListComp elt [⟨tg, iter, ifs, 0⟩] scope pos) spos) (tAsg (tLc wi g tt te (own.map (·.2))) (gName i)) (dAsgG (dFr (nLc it dg dt dd (own.map (·.2)))) (gdName i)) :=
  ⟨ps_setLc hc hN hy hyl hsw hi.pi ok (fun s H C cl fp => (hg s H C cl fp).pg) (fun s H C cl fp => (ht s H C cl fp).pt) (fun s H C cl fp => (he s H C cl fp).pe) hs,
    ss_asgF (sn_lc hi.s (hg ({} : Shared) (fun _ => none) 0 [] []).s hv (ht ({} : Shared) (fun _ => none) 0 [] []).s (he ({} : Shared) (fun _ => none) 0 [] []).s)⟩
theorem qs_lcN {i : Nat} {y : Str} {py : Pos} (hc : X.calm = true) (hN : X.N.Nodup) (hy : X.N[i]? = some y) (hyl : X.env.scope.names.lookup y = some .local)
    (hsw : swapsWith (.ListComp elt [⟨tg, iter, ifs, 0⟩] scope pos) (some (.Name y py)) spos.line X.env = pure true) (hi : PId X tg iter wi it) (ok : BlkOk X.N X.env.scope scope own)
    (hg : ∀ (s : Shared) (H : Hp) (C : Addr) (cl : List (Str × Addr)) (fp : List Addr), PGd (X.blk s H scope (compEnvC scope cl C X.env) fp) tg g dg vs') (hv : ∀ i ∈ vs', i ∈ own.map (·.2)) (ht : ∀ (s : Shared) (H : Hp) (C : Addr) (cl : List (Str × Addr)) (fp : List Addr), PTsd (X.blk s H scope (compEnvC scope cl C X.env) fp) ifs tt dt)
    (he : ∀ (s : Shared) (H : Hp) (C : Addr) (cl : List (Str × Addr)) (fp : List Addr), PEd (X.blk s H scope (compEnvC scope cl C X.env) fp) elt te dd) (hs : ∀ x, foldedSetIterable iter X.env x = pure x := by intro _; rfl) :
    PSd X (.Assign [.Name y py] (.ListComp elt [⟨tg, iter, ifs, 0⟩] scope pos) spos) (tAsg (tLc wi g tt te (own.map (·.2))) (gName i)) (dAsgN (nLc it dg dt dd (own.map (·.2))) i) :=
  ⟨ps_setLc hc hN hy hyl hsw hi.pi ok (fun s H C cl fp => (hg s H C cl fp).pg) (fun s H C cl fp => (ht s H C cl fp).pt) (fun s H C cl fp => (he s H C cl fp).pe) hs,
    ss_asgN (sn_lc hi.s (hg ({} : Shared) (fun _ => none) 0 [] []).s hv (ht ({} : Shared) (fun _ => none) 0 [] []).s (he ({} : Shared) (fun _ => none) 0 [] []).s)⟩
end
/-! a, b = x, [] and the like: lists of one's own on the right -/
def dParDE (i j : Nat) (t : DE) : DS := fun D env => t env fun d => D.nx ((env.set i (some (.dat d))).set j (some (.own [])))
def dParNE (i j : Nat) (t : DN) : DS := fun D env => t env fun ds => D.nx ((env.set i (some (.own ds))).set j (some (.own [])))
theorem psd_parDE {i j : Nat} (h : Sd te dd) (hp : PS X st (tPar i j (tCons te (tCons (tLst tNil) tNil)))) : PSd X st (tPar i j (tCons te (tCons (tLst tNil) tNil))) (dParDE i j dd) := ⟨hp, fun B F H σ env D Dd n k q =>
  h B F H σ env _ _ n q fun v d F' H' q' e' n' t' => ⟨Nat.zero_le _, fun p hp => by
    have n2 := n'.setD (i := i) t'
    obtain ⟨f1, f2⟩ := Fresh.of n2 hp DtA.nil
    exact ⟨_, _, rfl, k.nx F' _ _ _ e' (f2.setN f1) q'⟩⟩⟩
theorem psd_parNE {i j : Nat} (h : Sn te dn) (hp : PS X st (tPar i j (tCons te (tCons (tLst tNil) tNil)))) : PSd X st (tPar i j (tCons te (tCons (tLst tNil) tNil))) (dParNE i j dn) := ⟨hp, fun B F H σ env D Dd n k q =>
  h B F H σ env _ _ n q fun l vs ds F' H' q' e' n' f => ⟨Nat.zero_le _, fun p hp => by
    have n2 := n'.setN (i := i) f
    obtain ⟨f1, f2⟩ := Fresh.of n2 hp DtA.nil
    exact ⟨_, _, rfl, k.nx F' _ _ _ e' (f2.setN f1) q'⟩⟩⟩
end
end Pd

set_option maxRecDepth 100000
set_option maxHeartbeats 4000000
/-! The script's cells, bags of draws, and a law that goes through its bags. -/
namespace Pd
open PySem L2
open Evl (Ex)
open PyProof.Rows (envOfC)

/-! ### a cell of the script -/
def spCell (K : PySem.W.Frag) : Sp := fun vs H Q _ => ∃ (a : Addr) (ns : List Int) (k : Int), vs = [.ref a, .int k] ∧ SqL K H a (ns.map V.int) ∧ 0 ≤ k ∧ ∀ c : Int, Q (.int c) H
def tCell (K : PySem.W.Frag) : TS := tSeq (tIfS (tTest (tOp (rI0 fun i j => .bl (decide (i < j))) (tVar 1) (tCB (rLenQ K) (tCons (tVar 0) tNil)))) (tRet (tOp (rIxL K) (tVar 0) (tVar 1))) tNext) (tRet (tC (.int 0)))
theorem rd_cell {K : PySem.W.Frag} {vs : List V} {H : Hp} {Q : VK} {E : XK} (h : spCell K vs H Q E) : tCell K { nx := fun _ H' => Q .non H', rt := Q } (L2.start ["script", "k"] vs) H := by
  obtain ⟨a, ns, k, rfl, hS, h0, q⟩ := h
  refine ⟨_, rfl, _, rfl, a, _, rfl, .inl hS, k, _, rfl, rfl, _, rfl, ?_⟩
  refine ite2 (fun hk => ?_) (fun _ => q 0)
  have hk' : k < ((ns.map V.int).length : Int) := of_decide_eq_true hk
  rw [List.length_map] at hk'
  have hlt : k.toNat < ns.length := by omega
  refine ⟨_, rfl, _, rfl, a, _, k, .int ns[k.toNat], rfl, rfl, hS, at_of (j := k.toNat) (by omega) ?_, q _⟩
  rw [List.getElem?_map, List.getElem?_eq_getElem hlt]
  rfl

/-! ### draws: plain data -/
def spDraws : DSp := fun svs R => ∃ c : Int, svs = [.dat (.int c), .dat (.int 400), .dat (.int 1000)] ∧ ∀ ns : List Int, ns.length = 400 → (∀ x ∈ ns, 0 ≤ x ∧ x < 1000) → R (.new (ns.map .int))

/-! ### a bag, bags -/
def NewBag (H H' : Hp) (b : Addr) : Prop := H b = none ∧ ∃ (l : Addr) (ns : List Int), H l = none ∧ l ≠ b ∧ H' b = some (.lst [.ref l, .int 0]) ∧ H' l = some (.lst (ns.map V.int)) ∧ ns.length = 400 ∧ ∀ x ∈ ns, 0 ≤ x ∧ x < 1000
def spBag (K : PySem.W.Frag) : Sp := fun vs H Q _ => ∃ (a : Addr) (ns : List Int) (k : Int), vs = [.ref a, .int k] ∧ SqL K H a (ns.map V.int) ∧ 0 ≤ k ∧ ∀ (b : Addr) (H' : Hp), Ex H H' → NewBag H H' b → Q (.ref b) H'
def tBag (K : PySem.W.Frag) : TS := tRet (tLst (tCons (tCall (lift spDraws) [] E0 (tCons (tCall (spCell K) [] E0 (tCons (tVar 0) (tCons (tVar 1) tNil))) (tCons (tC (.int 400)) (tCons (tC (.int 1000)) tNil)))) (tCons (tC (.int 0)) tNil)))
theorem rd_bag {K : PySem.W.Frag} {vs : List V} {H : Hp} {Q : VK} {E : XK} (h : spBag K vs H Q E) : tBag K { nx := fun _ H' => Q .non H', rt := Q } (L2.start ["script", "k"] vs) H := by
  obtain ⟨a, ns, k, rfl, hS, h0, q⟩ := h
  refine ⟨_, rfl, _, rfl, a, ns, k, rfl, hS, h0, fun c => ?_⟩
  refine ⟨fun _ => none, fun _ => False, [.dat (.int c), .dat (.int 400), .dat (.int 1000)], fun r => ∃ ns : List Int, ns.length = 400 ∧ (∀ x ∈ ns, 0 ≤ x ∧ x < 1000) ∧ r = .new (ns.map .int), (fun _ _ z => nomatch z), .cons (Dt.int c) (.cons (Dt.int 400) (.cons (Dt.int 1000) .nil)), fun _ z => False.elim z, ⟨c, rfl, fun ns h1 h2 => ⟨ns, h1, h2, rfl⟩⟩, ?_⟩
  rintro v r F' H' ⟨ms, h1, h2, rfl⟩ g ⟨l, vs, rfl, hl, hF, hl', hd⟩
  have ev := hd.ints
  subst ev
  refine ⟨by show 2 ≤ sizeLine; decide, fun b hb => ?_⟩
  have e1 : Ex H H' := fun x o hx => g.keep x o (fun z => z) hx
  have hlb : l ≠ b := ne_of_none hl' hb
  refine q b _ (e1.trans (Ex.new hb)) ⟨Ex.none e1 hb, l, ms, hl, hlb, upd_same, ?_, h1, h2⟩
  rw [upd_ne hlb]
  exact hl'
def BagsAt (H H' : Hp) (bs : List Addr) : Prop := bs.Nodup ∧ ∀ b ∈ bs, NewBag H H' b
def spBags (K : PySem.W.Frag) : Sp := fun vs H Q _ => ∃ (a : Addr) (ns : List Int) (lim : Int), vs = [.ref a, .int lim] ∧ SqL K H a (ns.map V.int) ∧ 0 ≤ lim ∧ lim ≤ 63 ∧ ∀ (D : Addr) (bs : List Addr) (H' : Hp), Ex H H' → H' D = some (.lst (bs.map V.ref)) → D ∉ bs → BagsAt H H' bs → Q (.ref D) H'
def rMax2Q : List V → Hp → VK → Prop := fun xs H Q => ∃ i j, xs = [.int i, .int j] ∧ Q (.int (if j > i then j else i)) H
def rMin2Q : List V → Hp → VK → Prop := fun xs H Q => ∃ i j, xs = [.int i, .int j] ∧ Q (.int (if j < i then j else i)) H
def tBags (K : PySem.W.Frag) : TS := tRet (tLc (iRng1 (tCons (tCB rMax2Q (tCons (tC (.int 1)) (tCons (tCB rMin2Q (tCons (tVar 1) (tCons (tCB (rLenQ K) (tCons (tVar 0) tNil)) tNil))) tNil))) tNil)) (gName 2) tYes (tCall (spBag K) [] E0 (tCons (tVar 0) (tCons (tVar 2) tNil))) [2])
theorem NewBag.up {H H' H'' : Hp} {b : Addr} (h : NewBag H H' b) (e : Ex H' H'') : NewBag H H'' b := by
  obtain ⟨h1, l, ns, h2, h3, h4, h5, h6, h7⟩ := h
  exact ⟨h1, l, ns, h2, h3, e _ _ h4, e _ _ h5, h6, h7⟩
theorem NewBag.some {H H' : Hp} {b : Addr} (h : NewBag H H' b) : ∃ o, H' b = some o := by
  obtain ⟨h1, l, ns, h2, h3, h4, h5, h6, h7⟩ := h
  exact ⟨_, h4⟩
theorem rd_bags {K : PySem.W.Frag} {vs : List V} {H : Hp} {Q : VK} {E : XK} (h : spBags K vs H Q E) : tBags K { nx := fun _ H' => Q .non H', rt := Q } (L2.start ["script", "limit", "k"] vs) H := by
  obtain ⟨a, ns, lim, rfl, hS, h0, h63, q⟩ := h
  refine ⟨_, rfl, _, rfl, a, _, rfl, .inl hS, lim, _, rfl, 1, _, rfl, _, rfl, ?_, ?_, fun D hD => ?_⟩
  · split <;> split <;> omega
  · split <;> split <;> omega
  · refine lc_range (lo := 0) (fun i H' => ∃ bs : List Addr, Ex H H' ∧ H' D = some (.lst (bs.map V.ref)) ∧ bs.length = i ∧ D ∉ bs ∧ bs.Nodup ∧ ∀ b ∈ bs, NewBag H H' b) ⟨[], Ex.new hD, upd_same, rfl, by simp, List.nodup_nil, by simp⟩ ?_ ?_
    · rintro i H' hi ⟨bs, e, hD', hl, nD, nd, all⟩
      refine ⟨rfl, ?_⟩
      refine ⟨_, rfl, _, rfl, a, ns, _, rfl, Evl.ex_l e hS, by omega, fun b H2 e2 nb => ?_⟩
      have nbD : D ≠ b := ne_of_none hD' nb.1
      have hD2 : H2 D = Option.some (.lst (bs.map V.ref)) := e2 _ _ hD'
      have hi' : i < 63 := by
        have : (i : Nat) < _ := hi
        split at this <;> (try split at this) <;> omega
      refine ⟨_, hD2, ?_, bs ++ [b], (e.trans e2).mut hD, ?_, ?_, ?_, ?_, ?_⟩
      · rw [List.length_map, hl]
        exact Nat.lt_of_lt_of_le hi' (by decide)
      · rw [upd_same, List.map_append]
        rfl
      · rw [List.length_append, hl]
        rfl
      · rw [List.mem_append, not_or]
        exact ⟨nD, by simpa using nbD⟩
      · rw [List.nodup_append]
        refine ⟨nd, by simp, fun x hx y hy => ?_⟩
        have : y = b := by simpa using hy
        subst this
        obtain ⟨o, ho⟩ := (all x hx).some
        exact ne_of_none ho nb.1
      · intro x hx
        have up : ∀ {x : Addr} {H1 : Hp}, NewBag H1 H2 x → H1 D = none ∨ (∃ u, H1 D = Option.some u) → Ex H H1 → x ≠ D → NewBag H (upd H2 D (.lst (bs.map V.ref ++ [.ref b]))) x := by
          rintro x H1 ⟨h1, l, ms, h2, h3, h4, h5, h6, h7⟩ hD1 e1 hxD
          have hlD : l ≠ D := by
            intro z
            subst z
            rw [hD2] at h5
            have := (HO.lst.inj (Option.some.inj h5))
            cases bs with
            | nil =>
              have hz := congrArg List.length this
              rw [List.length_map, List.length_map, h6] at hz
              cases hz
            | cons x xs =>
              cases ms with
              | nil => cases this
              | cons m ms =>
                rw [List.map_cons, List.map_cons] at this
                cases this
          refine ⟨Ex.none e1 h1, l, ms, Ex.none e1 h2, h3, ?_, ?_, h6, h7⟩
          · rw [upd_ne hxD]
            exact h4
          · rw [upd_ne hlD]
            exact h5
        rcases List.mem_append.mp hx with hx | hx
        · exact up ((all x hx).up e2) (.inl hD) (Ex.refl H) (fun z => nD (z ▸ hx))
        · have : x = b := by simpa using hx
          subst this
          exact up nb (.inr ⟨_, hD'⟩) e nbD.symm
    · rintro H' ⟨bs, e, hD', hl, nD, nd, all⟩
      exact q D bs H' e hD' nD ⟨nd, all⟩

/-! ### a law that goes through its bags -/
def spLaw (K : PySem.W.Frag) : Sp := fun vs H Q _ => ∃ (a : Addr) (ns : List Int), vs = [.ref a] ∧ SqL K H a (ns.map V.int) ∧ ns.length ≤ 63 ∧ ∀ H', Q (.bl true) H'
def isTrue' : RVd → Prop := fun r => r = .dat (.bool true)
def blank (n : Nat) : Denv := List.replicate n none
def tLawFor (K : PySem.W.Frag) (lim : Int) (j : Nat) (tb : TS) : TS := tFor (iList K (tCall (spBags K) [] E0 (tCons (tVar 0) (tCons (tC (.int lim)) tNil)))) (gName j) tb
theorem rd_law0 {K : PySem.W.Frag} {N : List Str} {lim : Int} {j : Nat} {tb us : TS} {db dr : DS} (hb : Ss tb db) (hr : Ss us dr) (hj : j < N.length) (h0 : 0 ≤ lim) (h63 : lim ≤ 63)
    (rb : db { nx := fun env' => env'.length = N.length, ct := fun env' => env'.length = N.length, rt := isTrue' } ((blank N.length).set j (some .bag))) (rr : dr { nx := fun _ => False, rt := isTrue' } (blank N.length))
    {vs : List V} {H : Hp} {Q : VK} {E : XK} (h : spLaw K vs H Q E) (hN : 1 ≤ N.length) : tSeq (tLawFor K lim j tb) us { nx := fun _ H' => Q .non H', rt := Q } (L2.start N vs) H := by
  obtain ⟨a, ns, rfl, hS, hl, q⟩ := h
  have hst : (L2.start N [V.ref a])[0]? = some (some (V.ref a)) := by
    unfold L2.start
    rfl
  have hlen : (L2.start N [V.ref a]).length = N.length := by
    unfold L2.start
    rw [List.length_append, List.length_map, List.length_replicate]
    show 1 + (N.length - 1) = N.length
    omega
  refine ⟨_, hst, a, ns, lim, rfl, hS, h0, h63, fun D bs H1 e1 hD nD ⟨nd, all⟩ => ⟨D, rfl, ⟨_, SqL.of hD⟩, ?_⟩⟩
  have dec : ∀ x : Addr, x ∈ bs ∨ x ∉ bs := fun x => Classical.em _
  have retOk : ∀ {B : Bs} {F' H' : Hp} {v : V} {r : RVd}, ROk B F' H' v r → isTrue' r → Q v H' := by
    rintro B F' H' v r h1 rfl
    cases h1
    exact q H'
  refine for_list (K := K) (a := D) (xs := bs.map V.ref) (fun i σ H' => σ.length = N.length ∧ ∃ F, Ex F H' ∧ F D = some (.lst (bs.map V.ref)) ∧ ∀ k b, i ≤ k → bs[k]? = some b → F b = none ∧ BagAt F H' b) ?_ ?_ ?_ ?_
  · refine ⟨hlen, fun x => if x ∈ bs then none else H1 x, fun x o hx => ?_, ?_, fun k b _ hk => ?_⟩
    · have hx : (if x ∈ bs then none else H1 x) = some o := hx
      by_cases hm : x ∈ bs
      · rw [if_pos hm] at hx
        cases hx
      · rw [if_neg hm] at hx
        exact hx
    · show (if D ∈ bs then none else H1 D) = _
      rw [if_neg nD]
      exact hD
    · have hm : b ∈ bs := List.mem_of_getElem? hk
      refine ⟨if_pos hm, ?_⟩
      obtain ⟨h1, l, ms, h2, h3, h4, h5, h6, h7⟩ := all b hm
      refine ⟨l, 0, ms, h4, Int.le_refl 0, ?_, h6, h7⟩
      have hlm : l ∉ bs := fun z => by
        obtain ⟨_, l', ms', _, _, p4, _⟩ := all l z
        rw [h5] at p4
        have := HO.lst.inj (Option.some.inj p4)
        cases ms with
        | nil => cases this
        | cons m ms =>
          rw [List.map_cons] at this
          cases this
      show (if l ∈ bs then none else H1 l) = _
      rw [if_neg hlm]
      exact h5
  · rintro i σ H' _ ⟨_, F, e, hF, _⟩
    exact SqL.of (e _ _ hF)
  · rintro i x σ H' hi ⟨hl', F, e, hF, bags⟩
    obtain ⟨b, hb', rfl⟩ : ∃ b, bs[i]? = some b ∧ x = V.ref b := by
      rw [List.getElem?_map] at hi
      cases hz : bs[i]? with
      | none =>
        rw [hz] at hi
        cases hi
      | some b =>
        rw [hz] at hi
        cases hi
        exact ⟨b, rfl, rfl⟩
    obtain ⟨fb, bb⟩ := bags i b (Nat.le_refl i) hb'
    show tb _ (σ.set j (some (V.ref b))) H'
    have den : Den ⟨H', F, fun x => x = b⟩ F H' (σ.set j (some (V.ref b))) ((blank N.length).set j (some .bag)) := by
      refine ⟨Grow.start e fun x hx => by
        subst hx
        exact ⟨fb, bb⟩, ?_, fun k sv hk => ?_, fun k k' ds es l hk _ _ _ => ?_⟩
      · rw [List.length_set, List.length_set, hl']
        unfold blank
        rw [List.length_replicate]
      · rcases get_set hk with ⟨rfl, _, rfl⟩ | ⟨_, hk⟩
        · exact ⟨.ref b, List.getElem?_set_self (by rw [hl']; exact hj), b, rfl, rfl⟩
        · unfold blank at hk
          rw [List.getElem?_replicate] at hk
          split at hk <;> cases hk
      · rcases get_set hk with ⟨_, _, z⟩ | ⟨_, hk⟩
        · cases z
        · unfold blank at hk
          rw [List.getElem?_replicate] at hk
          split at hk <;> cases hk
    have nxt : ∀ {F' H2 : Hp} {σ' : St} {env' : Denv}, Den ⟨H', F, fun x => x = b⟩ F' H2 σ' env' → env'.length = N.length → σ'.length = N.length ∧ ∃ F, Ex F H2 ∧ F D = some (.lst (bs.map V.ref)) ∧ ∀ k b, i + 1 ≤ k → bs[k]? = some b → F b = none ∧ BagAt F H2 b := by
      intro F' H2 σ' env' n' hle
      refine ⟨n'.len ▸ hle, F', n'.g.fh, n'.g.bf _ _ hF, fun k c hk hc => ?_⟩
      obtain ⟨p1, p2⟩ := bags k c (by omega) hc
      have hcb : c ≠ b := fun z => by
        subst z
        have := nd_ix nd hb' hc
        omega
      obtain ⟨l, n, ms, b1, b2, b3, b4, b5⟩ := p2
      exact ⟨n'.g.nofr c _ b1 p1, l, n, ms, n'.g.keep c _ hcb b1, b2, n'.g.bf _ _ b3, b4, b5⟩
    exact hb _ F H' _ _ _ { nx := fun env' => env'.length = N.length, ct := fun env' => env'.length = N.length, rt := isTrue' } den ⟨fun F' H2 σ' env' _ n' hle => nxt n' hle, fun F' H2 v r _ _ h1 h2 => retOk h1 h2, fun _ _ _ _ _ _ z => False.elim z, fun F' H2 σ' env' _ n' hle => nxt n' hle⟩ rb
  · rintro σ H' ⟨hl', F, e, hF, _⟩
    refine hr ⟨H', F, fun _ => False⟩ F H' σ (blank N.length) _ { nx := fun _ => False, rt := isTrue' } ⟨Grow.start e fun _ z => False.elim z, ?_, fun k sv hk => ?_, fun k k' ds es l hk _ _ _ => ?_⟩ ⟨fun _ _ _ _ _ _ z => False.elim z, fun F' H2 v r _ _ h1 h2 => retOk h1 h2, fun _ _ _ _ _ _ z => False.elim z, fun _ _ _ _ _ _ z => False.elim z⟩ rr
    · unfold blank
      rw [List.length_replicate, hl']
    · unfold blank at hk
      rw [List.getElem?_replicate] at hk
      split at hk <;> cases hk
    · unfold blank at hk
      rw [List.getElem?_replicate] at hk
      split at hk <;> cases hk
theorem rd_law {K : PySem.W.Frag} (N : List Str) (n : Nat) (hn : N.length = n) (lim : Int) (j : Nat) {tb us : TS} {db dr : DS} (hb : Ss tb db) (hr : Ss us dr) (hj : j < n) (h0 : 0 ≤ lim) (h63 : lim ≤ 63) (hN : 1 ≤ n)
    (rb : db { nx := fun env' => env'.length = n, ct := fun env' => env'.length = n, rt := isTrue' } ((blank n).set j (some .bag))) (rr : dr { nx := fun _ => False, rt := isTrue' } (blank n))
    {vs : List V} {H : Hp} {Q : VK} {E : XK} (h : spLaw K vs H Q E) : tSeq (tFor (iList K (tCall (spBags K) [] E0 (tCons (tVar 0) (tCons (tC (.int lim)) tNil)))) (gName j) tb) us { nx := fun _ H' => Q .non H', rt := Q } (L2.start N vs) H := by
  subst hn
  exact rd_law0 hb hr hj h0 h63 rb rr h hN
end Pd

set_option maxRecDepth 100000
set_option maxHeartbeats 4000000
namespace Pd
open PySem L2
open Evl (Ex)
open PyProof.Rows (envOfC)
theorem un65 {k : Nat} {A : Around} (r : Room k A) : A.units + 65 < cLine := by
  have := r.un
  omega
section
variable {X : Cx} {a b c e : Expr} {es : List Expr} {ta tb te tc : TE} {tA tB' : TT} {da db dc dd : DE} {dn dm : DN} {dt du : DT} {pos apos cpos : Pos} {tA1 : TA}
theorem rs_setI {i : Nat} {o x : Expr} {ti : TE} {di : DE} {p : Pos} (ho : PE X o (tVar i)) (hi : PEd X x ti di) (h : PEd X e te dd)
    (ha : ∀ v, assign (.Subscript o x p) X.env v = (do
      let ov ← holding [v] (eval o X.env)
      let iv ← holding [v, ov] (eval x X.env)
      standAt p
      holding [v, ov, iv] (setItem ov iv v)
      release [v, ov, iv] []) := by intro _; rfl)
    (hs : swapsWithSole [.Subscript o x p] e pos.line X.env = pure false := by rfl) (hw : swappedStores [.Subscript o x p] e X.env = pure none := by rfl)
    (h1 : (assignEach [.Subscript o x p] X.env).map (·.2) = [assign (.Subscript o x p) X.env] := by rfl) :
    PSd X (.Assign [.Subscript o x p] e pos) (tAsg te (gSub (tVar i) ti rSetL)) (dSetI i di dd) := psd_setI h hi (ps_asg h.pe (pg_sub ho hi.pe set_list ha) hs hw h1)
section
variable {i j : Nat} {x y : Str} {px py pt : Pos} {kt k2 pt2}
theorem rs_par (hc : X.calm = true) (hN : X.N.Nodup) (hi : X.N[i]? = some x) (hj : X.N[j]? = some y) (hij : i ≠ j)
    (hx : X.env.scope.names.lookup x = some .local) (hy : X.env.scope.names.lookup y = some .local) (h : PAf X [a, b] tA1 dn)
    (hw : swappedStores [.Tuple [.Name x px, .Name y py] kt pt] (.Tuple [a, b] k2 pt2) X.env = pure (some [x, y]))
    (hs : swapsWithSole [.Tuple [.Name x px, .Name y py] kt pt] (.Tuple [a, b] k2 pt2) pos.line X.env = pure false := by rfl) :
    PSd X (.Assign [.Tuple [.Name x px, .Name y py] kt pt] (.Tuple [a, b] k2 pt2) pos) (tPar i j tA1) (dPar i j dn) := psd_par h (ps_par hc hN hi hj hij hx hy h.pa hw hs)
theorem rs_parDE {lp : Pos} (hc : X.calm = true) (hN : X.N.Nodup) (hi : X.N[i]? = some x) (hj : X.N[j]? = some y) (hij : i ≠ j)
    (hx : X.env.scope.names.lookup x = some .local) (hy : X.env.scope.names.lookup y = some .local) (h : PEd X a ta da)
    (hw : swappedStores [.Tuple [.Name x px, .Name y py] kt pt] (.Tuple [a, .List [] lp] k2 pt2) X.env = pure (some [x, y]))
    (hs : swapsWithSole [.Tuple [.Name x px, .Name y py] kt pt] (.Tuple [a, .List [] lp] k2 pt2) pos.line X.env = pure false := by rfl)
    (h1 : starEach [a, .List [] lp] X.env = (false, eval a X.env) :: starEach [.List [] lp] X.env := by rfl) (h2 : starEach [.List [] lp] X.env = (false, eval (.List [] lp) X.env) :: starEach [] X.env := by rfl) :
    PSd X (.Assign [.Tuple [.Name x px, .Name y py] kt pt] (.Tuple [a, .List [] lp] k2 pt2) pos) (tPar i j (tCons ta (tCons (tLst tNil) tNil))) (dParDE i j da) := psd_parDE h.s (ps_par hc hN hi hj hij hx hy (pa_cons h.pe (pa_cons (pe_lst pa_nil) pa_nil h2) h1) hw hs)
theorem rs_parNE {lp : Pos} (hc : X.calm = true) (hN : X.N.Nodup) (hi : X.N[i]? = some x) (hj : X.N[j]? = some y) (hij : i ≠ j)
    (hx : X.env.scope.names.lookup x = some .local) (hy : X.env.scope.names.lookup y = some .local) (h : PEn X a ta dn)
    (hw : swappedStores [.Tuple [.Name x px, .Name y py] kt pt] (.Tuple [a, .List [] lp] k2 pt2) X.env = pure (some [x, y]))
    (hs : swapsWithSole [.Tuple [.Name x px, .Name y py] kt pt] (.Tuple [a, .List [] lp] k2 pt2) pos.line X.env = pure false := by rfl)
    (h1 : starEach [a, .List [] lp] X.env = (false, eval a X.env) :: starEach [.List [] lp] X.env := by rfl) (h2 : starEach [.List [] lp] X.env = (false, eval (.List [] lp) X.env) :: starEach [] X.env := by rfl) :
    PSd X (.Assign [.Tuple [.Name x px, .Name y py] kt pt] (.Tuple [a, .List [] lp] k2 pt2) pos) (tPar i j (tCons ta (tCons (tLst tNil) tNil))) (dParNE i j dn) := psd_parNE h.s (ps_par hc hN hi hj hij hx hy (pa_cons h.pe (pa_cons (pe_lst pa_nil) pa_nil h2) h1) hw hs)
end
end
theorem ren_count {K : PySem.W.Frag} {X : Cx} {a b : Expr} {ta tb : TE} {da db : DE} {apos cpos : Pos} (hK : X.K = K) (ha : PEr X a ta da) (hb : PEr X b tb db)
    (hbase : attributeBase a "count" X.env (eval a X.env) = eval a X.env := by rfl)
    (hfew : ((backTo cpos (starEach [b] X.env)).all (fun x => !x.1) && (backToKw cpos (keywordEach [] X.env)).all (fun x => x.1.isSome)
      && decide ([b].length + ([] : List Keyword).length + (if ([] : List Keyword).isEmpty then 0 else 1) < 30)) = true := by rfl)
    (hline : (apos.endLine == cpos.line) = true := by rfl) (hs : starEach [b] X.env = (false, eval b X.env) :: starEach [] X.env := by rfl) (hplain : (backTo cpos (starEach [] X.env)).any (·.1) = false := by rfl) :
    PEd X (.Call (.Attribute a "count" apos) [b] [] cpos) (tBM K "list" (rCntF K) ta (tCons tb tNil)) (dCnt da db) := by
  subst hK
  exact ped_count ha hb hbase hfew hline hs hplain
/-! ### comprehensions, the slots written out -/
section
variable {X : Cx} {elt tg iter : Expr} {ifs : List Expr} {scope : Scope} {pos spos : Pos} {wi : TI} {it : DN} {g : TG} {dg : DG} {vs' : List Nat} {tt : TT} {dt : DT} {te : TE} {dd : DE}
theorem ren_lc (own : List (Str × Nat)) {vs : List Nat} (hvs : own.map (·.2) = vs) (hc : X.calm = true) (hN : X.N.Nodup) (hi : PId X tg iter wi it) (ok : BlkOk X.N X.env.scope scope own)
    (hg : ∀ (s : Shared) (H : Hp) (C : Addr) (cl : List (Str × Addr)) (fp : List Addr), PGd (X.blk s H scope (compEnvC scope cl C X.env) fp) tg g dg vs') (hv : ∀ i ∈ vs', i ∈ vs) (ht : ∀ (s : Shared) (H : Hp) (C : Addr) (cl : List (Str × Addr)) (fp : List Addr), PTsd (X.blk s H scope (compEnvC scope cl C X.env) fp) ifs tt dt)
    (he : ∀ (s : Shared) (H : Hp) (C : Addr) (cl : List (Str × Addr)) (fp : List Addr), PEd (X.blk s H scope (compEnvC scope cl C X.env) fp) elt te dd) (hs : ∀ x, foldedSetIterable iter X.env x = pure x := by intro _; rfl) :
    PEn X (.ListComp elt [⟨tg, iter, ifs, 0⟩] scope pos) (tLc wi g tt te vs) (nLc it dg dt dd vs) := by
  subst hvs
  exact pen_lc hc hN hi ok hg hv ht he hs
theorem rs_lc {i : Nat} {y : Str} {py : Pos} (own : List (Str × Nat)) {vs : List Nat} (hvs : own.map (·.2) = vs) (hc : X.calm = true) (hN : X.N.Nodup) (hy : X.N[i]? = some y) (hyl : X.env.scope.names.lookup y = some .local)
    (hsw : swapsWith (.ListComp elt [⟨tg, iter, ifs, 0⟩] scope pos) (some (.Name y py)) spos.line X.env = pure true) (hi : PId X tg iter wi it) (ok : BlkOk X.N X.env.scope scope own)
    (hg : ∀ (s : Shared) (H : Hp) (C : Addr) (cl : List (Str × Addr)) (fp : List Addr), PGd (X.blk s H scope (compEnvC scope cl C X.env) fp) tg g dg vs') (hv : ∀ i ∈ vs', i ∈ vs) (ht : ∀ (s : Shared) (H : Hp) (C : Addr) (cl : List (Str × Addr)) (fp : List Addr), PTsd (X.blk s H scope (compEnvC scope cl C X.env) fp) ifs tt dt)
    (he : ∀ (s : Shared) (H : Hp) (C : Addr) (cl : List (Str × Addr)) (fp : List Addr), PEd (X.blk s H scope (compEnvC scope cl C X.env) fp) elt te dd) (hs : ∀ x, foldedSetIterable iter X.env x = pure x := by intro _; rfl) :
    PSd X (.Assign [.Name y py] (.ListComp elt [⟨tg, iter, ifs, 0⟩] scope pos) spos) (tAsg (tLc wi g tt te vs) (gName i)) (dAsgG (dFr (nLc it dg dt dd vs)) (gdName i)) := by
  subst hvs
  exact qs_lc hc hN hy hyl hsw hi ok hg hv ht he hs
theorem rs_lcN {i : Nat} {y : Str} {py : Pos} (own : List (Str × Nat)) {vs : List Nat} (hvs : own.map (·.2) = vs) (hc : X.calm = true) (hN : X.N.Nodup) (hy : X.N[i]? = some y) (hyl : X.env.scope.names.lookup y = some .local)
    (hsw : swapsWith (.ListComp elt [⟨tg, iter, ifs, 0⟩] scope pos) (some (.Name y py)) spos.line X.env = pure true) (hi : PId X tg iter wi it) (ok : BlkOk X.N X.env.scope scope own)
    (hg : ∀ (s : Shared) (H : Hp) (C : Addr) (cl : List (Str × Addr)) (fp : List Addr), PGd (X.blk s H scope (compEnvC scope cl C X.env) fp) tg g dg vs') (hv : ∀ i ∈ vs', i ∈ vs) (ht : ∀ (s : Shared) (H : Hp) (C : Addr) (cl : List (Str × Addr)) (fp : List Addr), PTsd (X.blk s H scope (compEnvC scope cl C X.env) fp) ifs tt dt)
    (he : ∀ (s : Shared) (H : Hp) (C : Addr) (cl : List (Str × Addr)) (fp : List Addr), PEd (X.blk s H scope (compEnvC scope cl C X.env) fp) elt te dd) (hs : ∀ x, foldedSetIterable iter X.env x = pure x := by intro _; rfl) :
    PSd X (.Assign [.Name y py] (.ListComp elt [⟨tg, iter, ifs, 0⟩] scope pos) spos) (tAsg (tLc wi g tt te vs) (gName i)) (dAsgN (nLc it dg dt dd vs) i) := by
  subst hvs
  exact qs_lcN hc hN hy hyl hsw hi ok hg hv ht he hs
end
def forBody (st : Stmt) : List Stmt := match st with
  | .For _ _ body _ _ => body
  | _ => []
def lawLoop (st : Stmt) : List Stmt := forBody ((defBody st).getD 0 (.Pass ⟨0, 0, 0, 0⟩))
def lawRest (st : Stmt) : List Stmt := (defBody st).drop 1
/-! ### simp facts -/
theorem dForL_nil {g : DG} {tb : DS} {D : DEnds} {env : Denv} : dForL g tb [] D env = D.nx env := rfl
theorem dForL_cons {g : DG} {tb : DS} {D : DEnds} {env : Denv} {d : PyData} {ds : List PyData} : dForL g tb (d :: ds) D env = g d env fun env' => tb { D with nx := dForL g tb ds D, ct := dForL g tb ds D, bk := D.nx } env' := rfl
theorem lcL_nil {g : DG} {tt : DT} {te : DE} {env : Denv} {Q : List PyData → Prop} : lcL g tt te env [] Q = Q [] := rfl
theorem lcL_cons {g : DG} {tt : DT} {te : DE} {env : Denv} {d : PyData} {ds : List PyData} {Q : List PyData → Prop} : lcL g tt te env (d :: ds) Q = g d env fun env' => tt env' fun b => if b = true then te env' fun y => lcL g tt te env ds fun ys => Q (y :: ys) else lcL g tt te env ds Q := rfl
theorem shp_int (i : Int) : SeqAt.shaped (.int i) = true := by simp [SeqAt.shaped, PyData.canLay0, PyData.depth]
theorem shp_none : SeqAt.shaped .none = true := by simp [SeqAt.shaped, PyData.canLay0, PyData.depth]
theorem shp_bool (b : Bool) : SeqAt.shaped (.bool b) = true := by simp [SeqAt.shaped, PyData.canLay0, PyData.depth]
/- data of a depth at most n, without texts and dicts -/
mutual
def plainN : Nat → PyData → Bool
  | _, .none => true
  | _, .bool _ => true
  | _, .int _ => true
  | n + 1, .list ds => plainA n ds
  | n + 1, .tuple ds => plainA n ds
  | _, _ => false
def plainA : Nat → List PyData → Bool
  | _, [] => true
  | n, d :: ds => plainN n d && plainA n ds
end
mutual
theorem plain_ok : ∀ (n : Nat) (d : PyData), plainN n d = true → d.canLay0 = true ∧ d.depth ≤ n
  | n, .none, _ => ⟨by simp [PyData.canLay0], by simp [PyData.depth]⟩
  | n, .bool _, _ => ⟨by simp [PyData.canLay0], by simp [PyData.depth]⟩
  | n, .int _, _ => ⟨by simp [PyData.canLay0], by simp [PyData.depth]⟩
  | n, .str _, h => by cases n <;> simp [plainN] at h
  | n, .dict _, h => by cases n <;> simp [plainN] at h
  | 0, .list _, h => by simp [plainN] at h
  | 0, .tuple _, h => by simp [plainN] at h
  | n + 1, .list ds, h => by
    obtain ⟨h1, h2⟩ := plain_okA n ds (by simpa [plainN] using h)
    exact ⟨by simpa [PyData.canLay0] using h1, by simp only [PyData.depth]; omega⟩
  | n + 1, .tuple ds, h => by
    obtain ⟨h1, h2⟩ := plain_okA n ds (by simpa [plainN] using h)
    exact ⟨by simpa [PyData.canLay0] using h1, by simp only [PyData.depth]; omega⟩
theorem plain_okA : ∀ (n : Nat) (ds : List PyData), plainA n ds = true → PyData.canLayAll0 ds = true ∧ PyData.depthAll ds ≤ n
  | n, [], _ => ⟨by simp [PyData.canLayAll0], by simp [PyData.depthAll]⟩
  | n, d :: ds, h => by
    have h' : plainN n d = true ∧ plainA n ds = true := by simpa [plainA] using h
    obtain ⟨h1, h2⟩ := plain_ok n d h'.1
    obtain ⟨h3, h4⟩ := plain_okA n ds h'.2
    exact ⟨by simp only [PyData.canLayAll0, h1, h3, Bool.and_self], by simp only [PyData.depthAll]; omega⟩
end
theorem shp_of {d : PyData} (h : plainN 60 d = true) : SeqAt.shaped d = true := by
  obtain ⟨h1, h2⟩ := plain_ok 60 d h
  unfold SeqAt.shaped
  rw [h1, Bool.true_and]
  exact decide_eq_true (by omega)
theorem plainA_all {n : Nat} : ∀ {ds : List PyData}, (∀ d ∈ ds, plainN n d = true) → plainA n ds = true
  | [], _ => by simp [plainA]
  | d :: ds, h => by
    simp only [plainA, h d List.mem_cons_self, plainA_all fun x hx => h x (List.mem_cons_of_mem _ hx), Bool.and_self]
theorem shp_list {ds : List PyData} (h : ∀ d ∈ ds, plainN 59 d = true) : SeqAt.shaped (.list ds) = true := shp_of (by simp only [plainN]; exact plainA_all h)
theorem shp_tuple {ds : List PyData} (h : ∀ d ∈ ds, plainN 59 d = true) : SeqAt.shaped (.tuple ds) = true := shp_of (by simp only [plainN]; exact plainA_all h)
theorem shp_ints (ns : List Int) : SeqAt.shaped (.list (ns.map .int)) = true := shp_list fun d hd => by
  obtain ⟨n, _, rfl⟩ := List.mem_map.mp hd
  rfl
theorem shp_opt (o : Option Int) : SeqAt.shaped (optD o) = true := by
  cases o
  · exact shp_none
  · exact shp_int _
theorem eqv_int (i j : Int) : PyData.eqv (.int i) (.int j) = decide (i = j) := by
  rw [Bool.eq_iff_iff]
  simp [PyData.eqv]
theorem eqv_opt (a b : Option Int) : PyData.eqv (optD a) (optD b) = decide (a = b) := by
  cases a <;> cases b <;> rw [Bool.eq_iff_iff] <;> simp [PyData.eqv, optD]
theorem eqvAll_ints : ∀ ns ms : List Int, PyData.eqvAll (ns.map .int) (ms.map .int) = decide (ns = ms)
  | [], [] => by simp [PyData.eqvAll]
  | [], m :: ms => by simp [PyData.eqvAll]
  | n :: ns, [] => by simp [PyData.eqvAll]
  | n :: ns, m :: ms => by
    rw [List.map_cons, List.map_cons, PyData.eqvAll, eqvAll_ints ns ms, eqv_int, Bool.eq_iff_iff]
    simp
theorem eqv_ints (ns ms : List Int) : PyData.eqv (.list (ns.map .int)) (.list (ms.map .int)) = decide (ns = ms) := by
  rw [PyData.eqv, eqvAll_ints]
/-- a taker, a row -/
def tkD (t : Int × Int) : PyData := .tuple [.int t.1, .int t.2]
def rowD (rs : List (Int × Int)) : PyData := .tuple (rs.map tkD)
theorem eqv_tk (a b : Int × Int) : PyData.eqv (tkD a) (tkD b) = decide (a = b) := by
  obtain ⟨a1, a2⟩ := a
  obtain ⟨b1, b2⟩ := b
  rw [Bool.eq_iff_iff]
  simp [tkD, PyData.eqv, PyData.eqvAll]
theorem eqvAll_tks : ∀ ns ms : List (Int × Int), PyData.eqvAll (ns.map tkD) (ms.map tkD) = decide (ns = ms)
  | [], [] => by simp [PyData.eqvAll]
  | [], m :: ms => by simp [PyData.eqvAll]
  | n :: ns, [] => by simp [PyData.eqvAll]
  | n :: ns, m :: ms => by
    rw [List.map_cons, List.map_cons, PyData.eqvAll, eqvAll_tks ns ms, eqv_tk, Bool.eq_iff_iff]
    simp
theorem eqv_row (ns ms : List (Int × Int)) : PyData.eqv (rowD ns) (rowD ms) = decide (ns = ms) := by
  rw [rowD, rowD, PyData.eqv, eqvAll_tks]
theorem plain_tk (n : Nat) (t : Int × Int) : plainN (n + 1) (tkD t) = true := by simp [tkD, plainN, plainA]
theorem shp_tks (ns : List (Int × Int)) : SeqAt.shaped (.list (ns.map tkD)) = true := shp_list fun d hd => by
  obtain ⟨n, _, rfl⟩ := List.mem_map.mp hd
  exact plain_tk 58 n
theorem shp_row (ns : List (Int × Int)) : SeqAt.shaped (rowD ns) = true := shp_tuple fun d hd => by
  obtain ⟨n, _, rfl⟩ := List.mem_map.mp hd
  exact plain_tk 58 n
theorem shp_tk (t : Int × Int) : SeqAt.shaped (tkD t) = true := shp_of (plain_tk 59 t)
/-! ### the readings' equations, for simp -/
section
variable {i j : Int} {xs ys ds r : List PyData} {d : PyData} {b : Bool} {Q : PyData → Prop} {Qn : List PyData → Prop} {env : Denv} {Qe : Denv → Prop} {g : DG} {gs : DGs} {n : Nat} {v : SV}
theorem q_gnil : gdNil [] env Qe = Qe env := by simp [gdNil]
theorem q_gcons : gdCons g gs (d :: r) env Qe = g d env fun env' => gs r env' Qe := propext ⟨fun ⟨d', r', e, h⟩ => by
  cases e
  exact h, fun h => ⟨d, r, rfl, h⟩⟩
theorem q_gtup : gdTup n gs (.tuple ds) env Qe = (ds.length = n ∧ gs ds env Qe) := by simp [gdTup]
theorem q_neg : negD (.int i) Q = Q (.int (-i)) := rfl
theorem q_add : addD (.int i) (.int j) Q = Q (.int (i + j)) := rfl
theorem q_addl : addD (.list xs) (.list ys) Q = (xs.length + ys.length ≤ 1000000 ∧ Q (.list (xs ++ ys))) := rfl
theorem q_addt : addD (.tuple xs) (.tuple ys) Q = (xs.length + ys.length ≤ 1000000 ∧ Q (.tuple (xs ++ ys))) := rfl
theorem q_sub : subD (.int i) (.int j) Q = Q (.int (i - j)) := rfl
theorem q_mul : mulD (.int i) (.int j) Q = (mulOk i j ∧ Q (.int (i * j))) := rfl
theorem q_mull : mulD (.list xs) (.int j) Q = (0 ≤ j ∧ j ≤ 1000 ∧ xs.length ≤ 1000 ∧ Q (.list (List.replicate j.toNat xs).flatten)) := rfl
theorem q_mult : mulD (.tuple xs) (.int j) Q = (2 ≤ j ∧ j ≤ 1000 ∧ xs.length ≤ 1000 ∧ xs ≠ [] ∧ Q (.tuple (List.replicate j.toNat xs).flatten)) := rfl
theorem q_fdiv : fdivD (.int i) (.int j) Q = ((0 < j ∧ j.natAbs < 2 ^ 1000) ∧ Q (.int (i / j))) := rfl
theorem q_mod : modD (.int i) (.int j) Q = (0 < j ∧ Q (.int (i % j))) := rfl
theorem q_pow : powD (.int i) (.int j) Q = ((0 ≤ j ∧ j ≤ 1000 ∧ i.natAbs < 2 ^ 64) ∧ Q (.int (i ^ j.toNat))) := rfl
theorem q_lt : ltD (.int i) (.int j) Q = Q (.bool (decide (i < j))) := rfl
theorem q_le : leD (.int i) (.int j) Q = Q (.bool (decide (i ≤ j))) := rfl
theorem q_gt : gtD (.int i) (.int j) Q = Q (.bool (decide (j < i))) := rfl
theorem q_ge : geD (.int i) (.int j) Q = Q (.bool (decide (j ≤ i))) := rfl
theorem q_isnn : isNone .none = true := rfl
theorem q_isni : isNone (.int i) = false := rfl
theorem q_isnb : isNone (.bool b) = false := rfl
theorem q_isnt : isNone (.tuple xs) = false := rfl
theorem q_isnl : isNone (.list xs) = false := rfl
theorem q_lenl : lenD [.list ds] Q = Q (.int ds.length) := rfl
theorem q_lent : lenD [.tuple ds] Q = Q (.int ds.length) := rfl
theorem q_inti : intD [.int i] Q = Q (.int i) := rfl
theorem q_intb : intD [.bool b] Q = Q (.int (if b = true then 1 else 0)) := rfl
theorem q_max2 : max2D [.int i, .int j] Q = Q (.int (max i j)) := rfl
theorem q_min2 : min2D [.int i, .int j] Q = Q (.int (min i j)) := rfl
theorem q_listl : listN [.list ds] Qn = Qn ds := rfl
theorem q_listt : listN [.tuple ds] Qn = Qn ds := rfl
theorem q_tuplel : tupleD [.list ds] Q = Q (.tuple ds) := rfl
theorem q_tuplet : tupleD [.tuple ds] Q = Q (.tuple ds) := rfl
theorem q_seql : seqD (.list ds) = some ds := rfl
theorem q_seqt : seqD (.tuple ds) = some ds := rfl
theorem q_rvd : (RVd.dat d).d = d := rfl
theorem q_rvn : (RVd.new ds).d = .list ds := rfl
theorem q_catn : catN (.list xs) (.list ys) Qn = (xs.length + ys.length ≤ 1000000 ∧ Qn (xs ++ ys)) := rfl
theorem q_ixl : ixD (.list ds) (.int i) Q = ∃ z, atI ds i = some z ∧ Q z := rfl
theorem q_ixt : ixD (.tuple ds) (.int i) Q = ∃ z, atI ds i = some z ∧ Q z := rfl
theorem q_drop : dropO (some v :: env) = (match v with | .own _ => none | x => some x) :: dropO env := by
  cases v <;> rfl
theorem q_dropd : dropO (some (.dat d) :: env) = some (.dat d) :: dropO env := rfl
theorem q_dropb : dropO (some .bag :: env) = some .bag :: dropO env := rfl
theorem q_dropo : dropO (some (.own ds) :: env) = none :: dropO env := rfl
theorem q_dropn : dropO (none :: env) = none :: dropO env := rfl
theorem q_drope : dropO [] = [] := rfl
def enQ (ds' : List PyData) (Q : List PyData → Prop) : Prop := ∃ d ds, ds' = [d] ∧ seqD d = some ds ∧ Q (enumD 0 ds)
theorem q_en {dn : DN} : itEn dn env Qn = dn env fun ds' => enQ ds' Qn := rfl
theorem q_en1 : enQ [d] Qn = ∃ ds, seqD d = some ds ∧ Qn (enumD 0 ds) := propext ⟨fun ⟨d', ds, e, h⟩ => by
  cases e
  exact ⟨ds, h⟩, fun ⟨ds, h⟩ => ⟨d, ds, rfl, h⟩⟩
theorem q_seqr {rs : List (Int × Int)} : seqD (rowD rs) = some (rs.map tkD) := rfl
theorem q_lenr {rs : List (Int × Int)} : lenD [rowD rs] Q = Q (.int rs.length) := by
  show Q (.int ((rs.map tkD).length : Nat)) = _
  rw [List.length_map]
theorem q_ixr {rs : List (Int × Int)} : ixD (rowD rs) (.int i) Q = ∃ z, atI (rs.map tkD) i = some z ∧ Q z := rfl
def setQ (ds : List PyData) (x : PyData) (P : Nat → Prop) : Prop := ∃ k j, x = .int k ∧ ixN ds.length k = some j ∧ P j
theorem q_setI {i : Nat} {ti te : DE} {D : DEnds} : dSetI i ti te D env = te env fun d => ∃ ds, env[i]? = some (some (.own ds)) ∧ ti env fun x => setQ ds x fun j => D.nx (env.set i (some (.own (ds.set j d)))) := rfl
theorem q_setQ {P : Nat → Prop} : setQ ds (.int i) P = ∃ j, ixN ds.length i = some j ∧ P j := propext ⟨fun ⟨k, j, e, h⟩ => by
  cases e
  exact ⟨j, h⟩, fun ⟨j, h⟩ => ⟨i, j, rfl, h⟩⟩
theorem q_take {m : Int} {R : RVd → Prop} : spTake [.bag, .dat (.int m)] R = (0 < m ∧ ∀ r : Int, 0 ≤ r → r < m → R (.dat (.int r))) := propext ⟨fun ⟨m', e, h⟩ => by
  cases e
  exact h, fun h => ⟨m, rfl, h⟩⟩
/-- the item in the middle -/
theorem at_mid {α : Type} (pre : List α) (c : α) (cs : List α) : atI (pre ++ c :: cs) (pre.length : Int) = some c := atI_nat (by simp)
theorem at_midI (pre : List Int) (c : Int) (cs : List Int) {n : Nat} (h : pre.length = n) : atI ((pre ++ c :: cs).map PyData.int) (n : Int) = some (.int c) := by
  rw [List.map_append, List.map_cons, ← h]
  have := at_mid (pre.map PyData.int) (.int c) (cs.map PyData.int)
  rw [List.length_map] at this
  exact this
theorem set_midI (pre : List Int) (c c' : Int) (cs : List Int) {n : Nat} (h : pre.length = n) : ((pre ++ c :: cs).map PyData.int).set n (.int c') = (pre ++ c' :: cs).map PyData.int := by
  rw [← List.map_set]
  congr 1
  rw [← h, List.set_append_right _ _ (Nat.le_refl _)]
  simp
theorem optD_inj : ∀ {os os' : List (Option Int)}, os.map optD = os'.map optD → os = os'
  | [], [], _ => rfl
  | [], _ :: _, h => by cases h
  | _ :: _, [], h => by cases h
  | a :: os, b :: os', h => by
    rw [List.map_cons, List.map_cons] at h
    injection h with h1 h2
    have : a = b := by
      cases a <;> cases b <;> cases h1 <;> rfl
    rw [this, optD_inj h2]
theorem cntL {os : List (Option Int)} {P : List (Option Int) → Prop} : (∃ os' : List (Option Int), os.map optD = os'.map optD ∧ P os') = P os := propext ⟨fun ⟨os', e, h⟩ => by
  rw [optD_inj e]
  exact h, fun h => ⟨os, rfl, h⟩⟩
theorem cntQ_some {P : Option Int → Prop} : (∃ o : Option Int, PyData.int i = optD o ∧ P o) = P (some i) := propext ⟨fun ⟨o, e, h⟩ => by
  cases o with
  | none => cases e
  | some j =>
    cases e
    exact h, fun h => ⟨some i, rfl, h⟩⟩
theorem cntQ_none {P : Option Int → Prop} : (∃ o : Option Int, PyData.none = optD o ∧ P o) = P none := propext ⟨fun ⟨o, e, h⟩ => by
  cases o with
  | none => exact h
  | some j => exact (by cases e), fun h => ⟨none, rfl, h⟩⟩
theorem tkD_inj {a b : Int × Int} (h : tkD a = tkD b) : a = b := by
  obtain ⟨a1, a2⟩ := a
  obtain ⟨b1, b2⟩ := b
  unfold tkD at h
  injection h with h
  injection h with h1 h2
  injection h2 with h2 h3
  injection h1 with h1
  injection h2 with h2
  dsimp only at h1 h2
  rw [h1, h2]
theorem tks_inj : ∀ {as bs : List (Int × Int)}, as.map tkD = bs.map tkD → as = bs
  | [], [], _ => rfl
  | [], _ :: _, h => by cases h
  | _ :: _, [], h => by cases h
  | a :: as, b :: bs, h => by
    rw [List.map_cons, List.map_cons] at h
    injection h with h1 h2
    rw [tkD_inj h1, tks_inj h2]
theorem rowD_inj {as bs : List (Int × Int)} (h : rowD as = rowD bs) : as = bs := tks_inj (PyData.tuple.inj h)
theorem exRow {rs : List (Int × Int)} {P : List (Int × Int) → Prop} : (∃ rs', rowD rs = rowD rs' ∧ P rs') = P rs := propext ⟨fun ⟨rs', e, h⟩ => by
  rw [rowD_inj e]
  exact h, fun h => ⟨rs, rfl, h⟩⟩
theorem exTk {t : Int × Int} {P : Int × Int → Prop} : (∃ t', tkD t = tkD t' ∧ P t') = P t := propext ⟨fun ⟨t', e, h⟩ => by
  rw [tkD_inj e]
  exact h, fun h => ⟨t, rfl, h⟩⟩
theorem rowD_nil : PyData.tuple [] = rowD [] := rfl
end
end Pd

set_option maxRecDepth 100000
set_option maxHeartbeats 4000000
/-! ### t[::-1] of a tuple -/
namespace HT
open PySem PySem.Spec PyProof.Rows
section
variable {prog : Program} {w : World} {A : Around} {E : Value → Shared → Prop} {s : Shared}
theorem pd_adjust_rev (n : Nat) : Builtin.Slice.sliceAdjust none none (-1) (n : Int) = ((n : Int) - 1, -1) := by
  unfold Builtin.Slice.sliceAdjust
  rfl
theorem pd_places_rev (n : Nat) : Builtin.Slice.slicePlaces ((n : Int) - 1) (-1) (-1) = n := by
  unfold Builtin.Slice.slicePlaces
  have h1 : ¬ ((-1 : Int) > 0) := by decide
  simp only [h1, if_false]
  split
  · rw [show (- -1 : Int) = 1 by decide, Int.ediv_one]
    omega
  · omega
theorem pd_sliceApplied_rev {sl : Addr} {vl vu vs : Value} {n : Nat} {Q : Int × Int × Nat → Shared → Prop} (hs : s.heap.IsSliceOf sl vl vu vs) (pl : IsPart vl none) (pu : IsPart vu none) (ps : IsPart vs (some (-1)))
    (h : Q ((n : Int) - 1, -1, n) s) : wpAny (model prog w) A (Builtin.Slice.sliceApplied (.ref sl) (pure (n : Int))) Q E s := by
  obtain ⟨os, hos, hcs, hds⟩ := id hs
  unfold Builtin.Slice.sliceApplied Builtin.Slice.sliceFields
  refine wpAny_bind (wpAny_bind (wpAny_field hos hds (x := vl) rfl (wpAny_bind (wpAny_field hos hds (x := vu) rfl (wpAny_bind (wpAny_field hos hds (x := vs) rfl (wpAny_pure ?_)))))))
  refine wpAny_bind (slicePart_ ps ?_)
  show wpAny _ _ (if ((-1 : Int) == 0) = true then _ else _) _ _ s
  rw [if_neg (by decide)]
  refine wpAny_bind (slicePart_ pl (wpAny_bind (slicePart_ pu (wpAny_bind (wpAny_pure ?_)))))
  show wpAny _ _ (match Builtin.Slice.sliceAdjust none none (-1) (n : Int) with | (lo, hi) => pure (lo, (-1 : Int), Builtin.Slice.slicePlaces lo hi (-1))) _ _ s
  rw [pd_adjust_rev]
  show wpAny _ _ (pure ((n : Int) - 1, (-1 : Int), Builtin.Slice.slicePlaces ((n : Int) - 1) (-1) (-1))) _ _ s
  rw [pd_places_rev]
  exact wpAny_pure h
theorem pd_pick_rev (xs : Array Value) : ((List.range xs.size).filterMap fun (m : Nat) => xs[((xs.size : Int) - 1 + (m : Int) * (-1)).toNat]?).toArray = xs.toList.reverse.toArray := by
  have e : (fun (m : Nat) => xs[((xs.size : Int) - 1 + (m : Int) * (-1)).toNat]?) = fun m => xs[xs.size - 1 - m]? := by
    funext m
    have : ((xs.size : Int) - 1 + (m : Int) * (-1)).toNat = xs.size - 1 - m := by omega
    rw [this]
  rw [e]
  have h1 : (List.range xs.size).filterMap (fun m => xs[xs.size - 1 - m]?) = ((List.range xs.size).map fun k => xs.size - 1 - k).filterMap (xs[·]?) := by
    rw [List.filterMap_map]
    rfl
  rw [h1, PySem.W.krv_range, List.filterMap_reverse, PySem.W.krv_all]
theorem pd_getItem_tuple_rev {t sl : Addr} {items : Array Value} {vl vu vs : Value} {Q : Value → Shared → Prop} (ht : IsTup s.heap t items) (hs : s.heap.IsSliceOf sl vl vu vs) (pl : IsPart vl none) (pu : IsPart vu none) (ps : IsPart vs (some (-1)))
    (h : Q (.ref s.heap.objs.size) { s with heap := s.heap.push { cls := .type "tuple", data := .seq items.toList.reverse.toArray } })
    (hsz : items.size ≤ sizeLine) : wpAny (model prog w) A (getItem (.ref t) (.ref sl)) Q E s := by
  have htake : sizeOk (.seq items.toList.reverse.toArray) := by
    show items.toList.reverse.toArray.size ≤ sizeLine
    rw [List.size_toArray, List.length_reverse, Array.length_toList]
    exact hsz
  obtain ⟨os, hos, hcs, hds⟩ := id hs
  have hTs : s.TypeIs (.ref sl) "slice" := ⟨os, hos, hcs⟩
  unfold getItem
  try with_reducible refine wpAny_holding ?_
  first | refine wpAny_bind (wpAny_pure ?_) | skip
  refine wpAny_bind (wpAny_sequenceKey ht.typeIs (by decide) ?_)
  refine wpAny_bind (wpAny_callSpecial?_slot (name := Str.ofString "__getitem__") ht.typeIs PyProof.Rows.slot_tuple_getitem
    (wpAny_call_entry PyProof.Rows.slot_tuple_getitem ht.typeIs entry_tuple_getitem ?_ (args_tuple_getitem _ _)))
  show wpAny _ _ (Builtin.Tuple.tupleItemsOf (.ref t) >>= _) _ _ s
  refine wpAny_bind (tupleItemsOf_ ht ?_)
  refine wpAny_bind (wpAny_typeOf hTs ?_)
  rw [if_pos (by decide)]
  refine wpAny_bind (pd_sliceApplied_rev hs pl pu ps ?_)
  show wpAny _ _ (if (((items.size : Int) - 1 == 0 && (-1 : Int) == 1 && items.size == items.size) = true) then _ else _) _ _ s
  rw [if_neg (by
    intro q
    rw [Bool.and_eq_true, Bool.and_eq_true] at q
    exact absurd q.1.2 (by decide)), pd_pick_rev]
  first
    | exact wpAny_bind (m := Builtin.Tuple.tupleExact _) (wpAny_newObj_type (wpAny_pure ⟨_, rfl, wpAny_pure h⟩) htake)
    | exact wpAny_bind (m := Builtin.Tuple.tupleExact _) (wpAny_newObj_type (wpAny_bind (wpAny_pure (wpAny_pure ⟨_, rfl, wpAny_pure h⟩))) htake)
    | exact wpAny_bind (wpAny_bind (m := Builtin.Tuple.tupleExact _) (wpAny_newObj_type (wpAny_pure (wpAny_pure ⟨_, rfl, wpAny_pure h⟩)) htake))
    | exact wpAny_bind (wpAny_bind (m := Builtin.Tuple.tupleExact _) (wpAny_newObj_type (wpAny_pure ⟨_, rfl, wpAny_pure h⟩) htake))
end
end HT
namespace Pd
open PySem PySem.Spec PyProof.Rows L2
open Evl (Ex)
def tRevA (K : PySem.W.Frag) (te : TE) : TE := fun σ H Q => te σ H fun x H1 => (∃ a xs, x = .ref a ∧ SqL K H1 a xs ∧ ∀ p, H1 p = none → Q (.ref p) (upd H1 p (.lst xs.reverse))) ∨ (∃ a xs, x = .ref a ∧ SqT K H1 a xs ∧ ∀ p, H1 p = none → Q (.ref p) (upd H1 p (.tup xs.reverse)))
theorem pe_revA {X : Cx} {e : Expr} {te : TE} {k : Nat} {p1 p2 p3 pos : Pos} (he : PE X e te) : PE X (.Subscript e (.Slice none none (some (.UnaryOp .USub (.Constant (.int 1) k p1) p2)) p3) pos) (tRevA X.K te) := by
  refine ⟨fun pins s σ H Q I h => ?_⟩
  refine Subscript_ (thn (he.run pins s σ H _ I h) fun v s1 ⟨x, H1, I1, r1, q1⟩ => ?_)
  have hst : PO X (some (.UnaryOp .USub (.Constant (.int 1) k p1) p2)) (tPart (tUn (rU fun i => .int (-i)) (tC (.int 1)))) := po_some (pe_un un_neg pe_int)
  refine wpAny_Slice (thn (po_none.run pins s1 σ H1 (fun o H2 => o = none ∧ H2 = H1) I1 ⟨rfl, rfl⟩) fun vl s2 ⟨l, H2, I2, pl, el, e2⟩ => ?_)
  subst el e2
  refine thn (po_none.run pins s2 σ H2 (fun o H3 => o = none ∧ H3 = H2) I2 ⟨rfl, rfl⟩) fun vu s3 ⟨u, H3, I3, pu, eu, e3⟩ => ?_
  subst eu e3
  refine thn (hst.run pins s3 σ H3 (fun o H4 => o = some (-1) ∧ H4 = H3) I3 ⟨1, rfl, -1, rfl, rfl, rfl⟩) fun vs s4 ⟨o, H4, I4, ps, eo, e4⟩ => ?_
  subst eo e4
  have I5 : Inv X pins σ H4 { s4 with heap := s4.heap.push { cls := .type "slice", data := .fields #[vl, vu, vs] } } := I4.kept (t' := s4.toks) fun b ob q => Heap.get?_push_of_some _ q
  rcases q1 with ⟨a, xs, ex, hx, q⟩ | ⟨a, xs, ex, hx, q⟩
  · subst ex
    cases r1
    obtain ⟨its, r, ht, hz⟩ := I5.list hx
    have hlen := r.length
    show wpAny (model X.prog X.w) X.A (subscriptTail e (.Slice none none (some (.UnaryOp .USub (.Constant (.int 1) k p1) p2)) p3) (.ref a) (.ref s4.heap.objs.size)) (EP X pins σ Q) X.xe { s4 with heap := s4.heap.push { cls := .type "slice", data := .fields #[vl, vu, vs] } }
    refine tail_any (ops := [.ref a, .ref s4.heap.objs.size]) ht.isList.typeIs (PySem.slot_list_getitem.lookup) ?_ (by with_unfolding_all rfl)
    refine wpAny_getItem_list_slice ht.isList (Heap.IsSliceOf.new _ vl vu vs) pl pu ps (by decide) ?_ (by rw [List.size_toArray]; omega)
    rw [PySem.W.krv_pick]
    refine ⟨.ref _, _, I5.laid (t' := s4.toks) (o := .lst xs.reverse) (fun b ob q => Heap.get?_push_of_some _ q) (Nat.le_refl _) ?_, rfl, q _ (I5.hok.fresh (Nat.le_refl _))⟩
    exact ⟨by rw [List.length_reverse]; exact hz, _, 0, r.reverse, Heap.get?_push_size _ rfl⟩
  · subst ex
    cases r1
    obtain ⟨its, r, ht, hz⟩ := I5.tuple hx
    have hlen := r.length
    show wpAny (model X.prog X.w) X.A (subscriptTail e (.Slice none none (some (.UnaryOp .USub (.Constant (.int 1) k p1) p2)) p3) (.ref a) (.ref s4.heap.objs.size)) (EP X pins σ Q) X.xe { s4 with heap := s4.heap.push { cls := .type "slice", data := .fields #[vl, vu, vs] } }
    refine tail_any (ops := [.ref a, .ref s4.heap.objs.size]) ht.typeIs (PyProof.Rows.slot_tuple_getitem.lookup) ?_ (by with_unfolding_all rfl)
    refine HT.pd_getItem_tuple_rev ht (Heap.IsSliceOf.new _ vl vu vs) pl pu ps ?_ (by rw [List.size_toArray]; omega)
    refine ⟨.ref _, _, I5.laid (t' := s4.toks) (o := .tup xs.reverse) (fun b ob q => Heap.get?_push_of_some _ q) (Nat.le_refl _) ?_, rfl, q _ (I5.hok.fresh (Nat.le_refl _))⟩
    exact ⟨by rw [List.length_reverse]; exact hz, _, r.reverse, ⟨_, Heap.get?_push_size _ rfl, rfl, _, rfl⟩⟩
def revD : PyData → (PyData → Prop) → Prop
  | .list ds, Q => Q (.list ds.reverse)
  | .tuple ds, Q => Q (.tuple ds.reverse)
  | _, _ => False
theorem ped_rev {X : Cx} {a : Expr} {ta : TE} {da : DE} {k : Nat} {p1 p2 p3 pos : Pos} (ha : PEr X a ta da) : PEd X (.Subscript a (.Slice none none (some (.UnaryOp .USub (.Constant (.int 1) k p1) p2)) p3) pos) (tRevA X.K ta) (d1 revD da) := ⟨pe_revA ha.pe, fun B F H σ env Q Qv n q k =>
  ha.s B F H σ env _ _ n q fun v d F1 H1 q1 e1 n1 r1 => by
    cases d with
    | list ds =>
      obtain ⟨a', vs, rfl, h1, h2⟩ := (r1.rb n1).list n1.g.fh
      refine .inl ⟨a', vs, rfl, SqL.of h1, fun p hp => ?_⟩
      have g : Gro F1 H1 (upd F1 p (.lst vs.reverse)) (upd H1 p (.lst vs.reverse)) := .new hp
      exact k _ _ _ _ q1 (e1.trans (g.ex n1.g.fh)) (n1.gro g) (.lst upd_same (h2.rev.up (g.ex n1.g.fh)))
    | tuple ds =>
      obtain ⟨a', vs, rfl, h1, h2⟩ := (r1.rb n1).tuple
      refine .inr ⟨a', vs, rfl, SqT.of (n1.g.fh _ _ h1), fun p hp => ?_⟩
      have g : Gro F1 H1 (upd F1 p (.tup vs.reverse)) (upd H1 p (.tup vs.reverse)) := .new hp
      exact k _ _ _ _ q1 (e1.trans (g.ex n1.g.fh)) (n1.gro g) (.tup upd_same (h2.rev.up (g.ex n1.g.fh)))
    | _ => exact q1.elim⟩
theorem q_revl {ds : List PyData} {Q : PyData → Prop} : revD (.list ds) Q = Q (.list ds.reverse) := rfl
theorem q_revt {ds : List PyData} {Q : PyData → Prop} : revD (.tuple ds) Q = Q (.tuple ds.reverse) := rfl
theorem q_revr {rs : List (Int × Int)} {Q : PyData → Prop} : revD (rowD rs) Q = Q (rowD rs.reverse) := by
  show Q (.tuple (rs.map tkD).reverse) = Q (.tuple (rs.reverse.map tkD))
  rw [List.map_reverse]
end Pd

set_option maxRecDepth 100000
set_option maxHeartbeats 4000000
namespace Pd
open PySem L2
open Evl (Ex)
open PyProof.Rows (envOfC)
/-! ### a, b, c = x, y, z -/
section
variable {X : Cx} {a b c e : Expr} {es : List Expr} {ta tb te tc : TE} {da db dc dd : DE} {dn dm : DN} {dt du : DT} {pos apos cpos : Pos} {tA1 : TA}
variable {i j l : Nat} {x y z : Str} {px py pz pt : Pos} {kt k2 pt2}
theorem rs_par3 (hc : X.calm = true) (hN : X.N.Nodup) (hi : X.N[i]? = some x) (hj : X.N[j]? = some y) (hl : X.N[l]? = some z) (hij : i ≠ j) (hil : i ≠ l) (hjl : j ≠ l)
    (hx : X.env.scope.names.lookup x = some .local) (hy : X.env.scope.names.lookup y = some .local) (hz : X.env.scope.names.lookup z = some .local) (h : PAf X [a, b, c] tA1 dn)
    (hw : swappedStores [.Tuple [.Name x px, .Name y py, .Name z pz] kt pt] (.Tuple [a, b, c] k2 pt2) X.env = pure (some [x, y, z]))
    (hs : swapsWithSole [.Tuple [.Name x px, .Name y py, .Name z pz] kt pt] (.Tuple [a, b, c] k2 pt2) pos.line X.env = pure false := by rfl) :
    PSd X (.Assign [.Tuple [.Name x px, .Name y py, .Name z pz] kt pt] (.Tuple [a, b, c] k2 pt2) pos) (tPar3 i j l tA1) (dPar3 i j l dn) := psd_par3 h (ps_par3 hc hN hi hj hl hij hil hjl hx hy hz h.pa hw hs)
/-! ### list(range(n)), tuple(range(n)) -/
theorem dta_rg {F : Hp} (n : Int) : DtA F (rgV 0 n) (rngD 0 n.toNat) := by
  have e1 : rgV 0 n = ((List.range n.toNat).map fun i => ((0 : Int) + (i : Nat))).map V.int := by
    unfold rgV
    rw [List.map_map, Int.sub_zero]
    rfl
  have e2 : rngD 0 n.toNat = ((List.range n.toNat).map fun i => ((0 : Int) + (i : Nat))).map PyData.int := by
    unfold rngD
    rw [List.map_map]
    rfl
  rw [e1, e2]
  exact DtA.of_ints _
def nListRg (da : DE) : DN := fun env Q => da env fun d => ∃ n : Int, d = .int n ∧ (0 ≤ n ∧ n ≤ 100000) ∧ Q (rngD 0 n.toNat)
def dTupRg (da : DE) : DE := fun env Q => da env fun d => ∃ n : Int, d = .int n ∧ (0 ≤ n ∧ n ≤ 100000) ∧ Q (.tuple (rngD 0 n.toNat))
theorem pen_list_rg {p p2 pos2 : Pos} (hc : X.calm = true) (hg : Gl X "list") (hm : X.mg "list" = none) (hg2 : Gl X "range") (hm2 : X.mg "range" = none) (ha : PEd X a ta da) (na : starEach [a] X.env = (false, eval a X.env) :: starEach [] X.env := by rfl)
    (na2 : starEach [.Call (.Name "range" p2) [a] [] pos2] X.env = (false, eval (.Call (.Name "range" p2) [a] [] pos2) X.env) :: starEach [] X.env := by rfl) :
    PEn X (.Call (.Name "list" p) [.Call (.Name "range" p2) [a] [] pos2] [] pos) (tLstRg (tRg1 ta)) (nListRg da) := ⟨pe_listRg hc hg hm (prg_1 hg2 hm2 ha.pe na) na2, fun B F H σ env Q Qv n q k =>
  ha.s B F H σ env _ _ n q fun v d F1 H1 ⟨m, ed, ⟨m0, m1⟩, q1⟩ e1 n1 r1 => by
    subst ed
    cases r1
    refine ⟨m, rfl, RgOk.of_le (Int.le_refl 0) (by omega) (by omega) m0, fun p hp => ?_⟩
    obtain ⟨f1, f2⟩ := Fresh.of n1 hp (dta_rg (F := F1) m)
    exact k p _ _ F1 _ q1 e1 f2 f1⟩
theorem ped_tuple_rg {p p2 pos2 : Pos} (hc : X.calm = true) (hg : Gl X "tuple") (hm : X.mg "tuple" = none) (hg2 : Gl X "range") (hm2 : X.mg "range" = none) (ha : PEd X a ta da) (na : starEach [a] X.env = (false, eval a X.env) :: starEach [] X.env := by rfl)
    (na2 : starEach [.Call (.Name "range" p2) [a] [] pos2] X.env = (false, eval (.Call (.Name "range" p2) [a] [] pos2) X.env) :: starEach [] X.env := by rfl) :
    PEd X (.Call (.Name "tuple" p) [.Call (.Name "range" p2) [a] [] pos2] [] pos) (tTupRg (tRg1 ta)) (dTupRg da) := ⟨pe_tupRg hc hg hm (prg_1 hg2 hm2 ha.pe na) na2, fun B F H σ env Q Qv n q k =>
  ha.s B F H σ env _ _ n q fun v d F1 H1 ⟨m, ed, ⟨m0, m1⟩, q1⟩ e1 n1 r1 => by
    subst ed
    cases r1
    refine ⟨m, rfl, RgOk.of_le (Int.le_refl 0) (by omega) (by omega) m0, fun p hp => ?_⟩
    have g : Gro F1 H1 (upd F1 p (.tup (rgV 0 m))) (upd H1 p (.tup (rgV 0 m))) := .new hp
    exact k _ _ _ _ q1 (e1.trans (g.ex n1.g.fh)) (n1.gro g) (.tup upd_same (dta_rg m))⟩
theorem rg_tup {K : PySem.W.Frag} {gs : TGs} {dgs : DGs} {vs : List Nat} {k n : Nat} (hK : X.K = K) (hc : X.calm = true) (h : PGsd X es gs dgs vs) (hn : (assignEach es X.env).length = n := by rfl) (hst : (assignEach es X.env).findIdx? (·.1) = none := by rfl) : PGd X (.Tuple es k pos) (gTup K n gs) (gdTup n dgs) vs := by
  subst hK
  exact qg_tup hc h hn hst
theorem ren_sl {K : PySem.W.Frag} {lo hi : Option Expr} {tl th : St → Hp → (Option Int → Hp → Prop) → Prop} {dl dh : DO} {p2 : Pos} (hK : X.K = K) (ha : PEr X a ta da) (hl : POd X lo tl dl) (hh : POd X hi th dh) : PEd X (.Subscript a (.Slice lo hi none p2) pos) (tSl (rSlB K) ta tl th) (dSl da dl dh) := by
  subst hK
  exact ped_sl ha hl hh
/-! ### own.insert(i, x) -/
def rInsert : V → List V → Hp → VK → Prop := fun x vs H Q => ∃ (l : Addr) (xs : List V) (i : Int) (y : V), x = .ref l ∧ vs = [.int i, y] ∧ H l = some (.lst xs) ∧ xs.length < sizeLine ∧ 0 ≤ i ∧ i < 2 ^ 63 ∧
    Q .non (upd H l (.lst (xs.take i.toNat ++ [y] ++ xs.drop i.toNat)))
def dInsert (i : Nat) (ti te : DE) : DS := fun D env => ∃ ds, env[i]? = some (some (.own ds)) ∧ ti env fun x => te env fun d => ∃ k : Int, x = .int k ∧ (0 ≤ k ∧ k ≤ 100000) ∧ ds.length < 1000000 ∧ D.nx (env.set i (some (.own (ds.take k.toNat ++ [d] ++ ds.drop k.toNat))))
theorem qs_insert {i : Nat} {o : Expr} (ho : PE X o (tVar i)) (ha : PEd X a ta da) (h : PEd X e te dd)
    (hbase : attributeBase o "insert" X.env (eval o X.env) = eval o X.env := by rfl)
    (hfew : ((backTo cpos (starEach [a, e] X.env)).all (fun x => !x.1) && (backToKw cpos (keywordEach [] X.env)).all (fun x => x.1.isSome)
      && decide ([a, e].length + ([] : List Keyword).length + (if ([] : List Keyword).isEmpty then 0 else 1) < 30)) = true := by rfl)
    (hline : (apos.endLine == cpos.line) = true := by rfl) (hs : starEach [a, e] X.env = (false, eval a X.env) :: starEach [e] X.env := by rfl) (hs2 : starEach [e] X.env = (false, eval e X.env) :: starEach [] X.env := by rfl) (hplain : (backTo cpos (starEach [e] X.env)).any (·.1) = false := by rfl)
    (hsw : swapsWith (.Call (.Attribute o "insert" apos) [a, e] [] cpos) none pos.line X.env = pure false := by rfl) :
    PSd X (.Expr (.Call (.Attribute o "insert" apos) [a, e] [] cpos) pos) (tDrop (tBM X.K "list" rInsert (tVar i) (tCons ta (tCons te tNil)))) (dInsert i da dd) :=
  ⟨ps_expr (pe_bm PySem.F.plainAttrs_list PySem.F.slot_list_insert PySem.F.type_list_insert mt_insert ho (pa_cons ha.pe (pa_cons h.pe pa_nil hs2) hs) hbase hfew hline hs hplain) hsw, fun B F H σ env D Dd n k q => by
  obtain ⟨ds, h1, q⟩ := q
  obtain ⟨l, vs, h2, h3, h4, h5, h6⟩ := n.own h1
  refine ⟨_, h2, .inl ⟨rfl, vs, SqL.of h5⟩, ha.s B F H σ env _ _ n q fun w f F1 H1 q1 e1 n1 t1 => h.s B F1 H1 σ env _ _ n1 q1 fun v d F' H' ⟨kk, ek, ⟨k0, k1⟩, hl, q'⟩ e' n' t' => ?_⟩
  subst ek
  cases t1
  obtain ⟨l', ws, p2, p3, p4, p5, p6⟩ := n'.own h1
  rw [h2] at p2
  cases p2
  refine ⟨l, ws, kk, v, rfl, rfl, p5, ?_, k0, by omega, k.nx F' _ σ _ (e1.trans e') (n'.mut h1 h2 (((p6.take _).app (.cons t' .nil)).app (p6.drop _))) q'⟩
  rw [p6.len]
  exact Nat.lt_of_lt_of_le hl (by decide)⟩
end
/-! ### simp facts -/
theorem ints_inj : ∀ {as bs : List Int}, as.map PyData.int = bs.map PyData.int → as = bs
  | [], [], _ => rfl
  | [], _ :: _, h => by cases h
  | _ :: _, [], h => by cases h
  | a :: as, b :: bs, h => by
    rw [List.map_cons, List.map_cons] at h
    injection h with h1 h2
    injection h1 with h1
    rw [h1, ints_inj h2]
theorem exInts {xs : List Int} {P : List Int → Prop} : (∃ ns : List Int, xs.map PyData.int = ns.map PyData.int ∧ P ns) = P xs := propext ⟨fun ⟨ns, e, h⟩ => by
  rw [ints_inj e]
  exact h, fun h => ⟨xs, rfl, h⟩⟩
theorem q_sum {xs : List Int} {Q : PyData → Prop} : sumD [.list (xs.map .int)] Q = Q (.int xs.sum) := propext ⟨fun ⟨ns, e, h⟩ => by
  injection e with e
  injection e with e
  rw [ints_inj e]
  exact h, fun h => ⟨xs, rfl, h⟩⟩
theorem q_min {xs : List Int} {Q : PyData → Prop} : minD [.list (xs.map .int)] Q = (xs ≠ [] ∧ ∀ m, m ∈ xs → (∀ y ∈ xs, m ≤ y) → Q (.int m)) := propext ⟨fun ⟨ns, e, h⟩ => by
  injection e with e
  injection e with e
  rw [ints_inj e]
  exact h, fun h => ⟨xs, rfl, h⟩⟩
theorem q_max {xs : List Int} {Q : PyData → Prop} : maxD [.list (xs.map .int)] Q = (xs ≠ [] ∧ ∀ m, m ∈ xs → (∀ y ∈ xs, y ≤ m) → Q (.int m)) := propext ⟨fun ⟨ns, e, h⟩ => by
  injection e with e
  injection e with e
  rw [ints_inj e]
  exact h, fun h => ⟨xs, rfl, h⟩⟩
/-! slices, items of mapped lists -/
def cutG {α : Type} (xs : List α) (lo hi : Option Int) : List α := (xs.drop (HT.sIx xs.length 0 lo)).take (HT.sIx xs.length xs.length hi - HT.sIx xs.length 0 lo)
theorem cutG_map {α β : Type} (f : α → β) (xs : List α) (lo hi : Option Int) : cutG (xs.map f) lo hi = (cutG xs lo hi).map f := by
  unfold cutG
  rw [List.length_map, ← List.map_drop, ← List.map_take]
theorem cutD_eq (ds : List PyData) (lo hi : Option Int) : cutD ds lo hi = cutG ds lo hi := rfl
theorem cutG_to {α : Type} (ds : List α) (m : Nat) : cutG ds none (some (m : Int)) = ds.take m := by
  unfold cutG
  rw [HT.sIx_none, HT.sIx_nat, List.drop_zero, Nat.sub_zero]
  rcases Nat.le_total m ds.length with h | h
  · rw [Nat.min_eq_left h]
  · rw [Nat.min_eq_right h, List.take_of_length_le (Nat.le_refl _), List.take_of_length_le h]
theorem cutG_from {α : Type} (ds : List α) (m : Nat) : cutG ds (some (m : Int)) none = ds.drop m := by
  unfold cutG
  rw [HT.sIx_none, HT.sIx_nat]
  rcases Nat.le_total m ds.length with h | h
  · rw [Nat.min_eq_left h, List.take_of_length_le (by rw [List.length_drop]; exact Nat.le_refl _)]
  · rw [Nat.min_eq_right h, List.drop_of_length_le (Nat.le_refl _), List.drop_of_length_le h]
    simp
theorem cutG_last {α : Type} (ds : List α) (x : α) : cutG (ds ++ [x]) none (some (-1)) = ds := by
  unfold cutG
  rw [HT.sIx_none, List.drop_zero, Nat.sub_zero]
  have : HT.sIx (ds ++ [x]).length (ds ++ [x]).length (some (-1)) = ds.length := by
    show (if (-1 : Int) < 0 then ((-1 : Int) + ((ds ++ [x]).length : Int)).toNat else min (-1 : Int).toNat (ds ++ [x]).length) = _
    rw [if_pos (by decide), List.length_append, List.length_singleton]
    omega
  rw [this, List.take_left]
def slQ (d : PyData) (l u : Option Int) (Q : PyData → Prop) : Prop := match d with
  | .list ds => Q (.list (cutD ds l u))
  | .tuple ds => Q (.tuple (cutD ds l u))
  | _ => False
theorem q_sl {da : DE} {lo hi : DO} {env : Denv} {Q : PyData → Prop} : dSl da lo hi env Q = da env fun d => lo env fun l => hi env fun u => slQ d l u Q := by
  unfold dSl slQ
  rfl
theorem q_sll {ds : List PyData} {l u : Option Int} {Q : PyData → Prop} : slQ (.list ds) l u Q = Q (.list (cutD ds l u)) := rfl
theorem q_slt {ds : List PyData} {l u : Option Int} {Q : PyData → Prop} : slQ (.tuple ds) l u Q = Q (.tuple (cutD ds l u)) := rfl
theorem q_slr {rs : List (Int × Int)} {l u : Option Int} {Q : PyData → Prop} : slQ (rowD rs) l u Q = Q (rowD (cutG rs l u)) := by
  show Q (.tuple (cutD (rs.map tkD) l u)) = Q (.tuple ((cutG rs l u).map tkD))
  rw [cutD_eq, cutG_map]
theorem atI_map {α β : Type} (f : α → β) (xs : List α) (i : Int) : atI (xs.map f) i = (atI xs i).map f := by
  unfold atI
  rw [List.length_map]
  cases ixN xs.length i with
  | none => rfl
  | some j => exact List.getElem?_map
theorem exAt {α β : Type} {f : α → β} {xs : List α} {i : Int} {Q : β → Prop} : (∃ z, atI (xs.map f) i = some z ∧ Q z) = ∃ t, atI xs i = some t ∧ Q (f t) := propext (by
  rw [atI_map]
  cases atI xs i with
  | none => simp
  | some t => simp)
theorem optD_inj1 {a b : Option Int} (h : optD a = optD b) : a = b := by
  cases a <;> cases b <;> cases h <;> rfl
theorem exOpt {o : Option Int} {P : Option Int → Prop} : (∃ o' : Option Int, optD o = optD o' ∧ P o') = P o := propext ⟨fun ⟨o', e, h⟩ => by
  rw [optD_inj1 e]
  exact h, fun h => ⟨o, rfl, h⟩⟩
theorem q_isno {o : Option Int} : isNone (optD o) = o.isNone := by cases o <;> rfl
def dropX (o : Option SV) : Option SV := match o with
  | some (.own _) => none
  | x => x
theorem q_dropc {x : Option SV} {env : Denv} : dropO (x :: env) = dropX x :: dropO env := rfl
theorem q_dropxd {d : PyData} : dropX (some (.dat d)) = some (.dat d) := rfl
theorem q_dropxb : dropX (some .bag) = some .bag := rfl
theorem q_dropxo {ds : List PyData} : dropX (some (.own ds)) = none := rfl
theorem q_dropxn : dropX none = none := rfl
def parQ (ds : List PyData) (P : PyData → PyData → Prop) : Prop := ∃ x y, ds = [x, y] ∧ P x y
def parQ3 (ds : List PyData) (P : PyData → PyData → PyData → Prop) : Prop := ∃ x y z, ds = [x, y, z] ∧ P x y z
theorem q_par {i j : Nat} {dn : DN} {D : DEnds} {env : Denv} : dPar i j dn D env = dn env fun ds => parQ ds fun x y => D.nx ((env.set i (some (.dat x))).set j (some (.dat y))) := rfl
theorem q_par3 {i j l : Nat} {dn : DN} {D : DEnds} {env : Denv} : dPar3 i j l dn D env = dn env fun ds => parQ3 ds fun x y z => D.nx (((env.set i (some (.dat x))).set j (some (.dat y))).set l (some (.dat z))) := rfl
theorem q_parQ {x y : PyData} {P : PyData → PyData → Prop} : parQ [x, y] P = P x y := propext ⟨fun ⟨_, _, e, h⟩ => by
  cases e
  exact h, fun h => ⟨x, y, rfl, h⟩⟩
theorem q_parQ3 {x y z : PyData} {P : PyData → PyData → PyData → Prop} : parQ3 [x, y, z] P = P x y z := propext ⟨fun ⟨_, _, _, e, h⟩ => by
  cases e
  exact h, fun h => ⟨x, y, z, rfl, h⟩⟩
theorem q_addr1 {rs : List (Int × Int)} {t : Int × Int} {Q : PyData → Prop} : addD (rowD rs) (.tuple [tkD t]) Q = (rs.length + 1 ≤ 1000000 ∧ Q (rowD (rs ++ [t]))) := by
  show ((rs.map tkD).length + 1 ≤ 1000000 ∧ Q (.tuple (rs.map tkD ++ [tkD t]))) = _
  rw [List.length_map, rowD, List.map_append]
  rfl
theorem q_addrr {rs rs' : List (Int × Int)} {Q : PyData → Prop} : addD (rowD rs) (rowD rs') Q = (rs.length + rs'.length ≤ 1000000 ∧ Q (rowD (rs ++ rs'))) := by
  show ((rs.map tkD).length + (rs'.map tkD).length ≤ 1000000 ∧ Q (.tuple (rs.map tkD ++ rs'.map tkD))) = _
  rw [List.length_map, List.length_map, rowD, List.map_append]
theorem tkD_mk {e c : Int} : PyData.tuple [.int e, .int c] = tkD (e, c) := rfl
theorem q_ixk0 {t : Int × Int} {Q : PyData → Prop} : ixD (tkD t) (.int 0) Q = Q (.int t.1) := propext ⟨fun ⟨z, e, h⟩ => by
  cases e
  exact h, fun h => ⟨_, rfl, h⟩⟩
theorem q_ixk1 {t : Int × Int} {Q : PyData → Prop} : ixD (tkD t) (.int 1) Q = Q (.int t.2) := propext ⟨fun ⟨z, e, h⟩ => by
  cases e
  exact h, fun h => ⟨_, rfl, h⟩⟩
theorem small_of {i : Int} (h1 : -1000000000000000000000000000000000000000000000000000000000000 ≤ i) (h2 : i ≤ 1000000000000000000000000000000000000000000000000000000000000) : i.natAbs < 2 ^ 1000 := by
  have : (1000000000000000000000000000000000000000000000000000000000000 : Nat) < 2 ^ 1000 := by decide
  omega
def rngQ2 (ds : List PyData) (Q : List PyData → Prop) : Prop := ∃ i j : Int, ds = [.int i, .int j] ∧ (-(2 ^ 62) ≤ i ∧ i < 2 ^ 62 ∧ -(2 ^ 62) ≤ j ∧ j < 2 ^ 62) ∧ Q (rngD i (j - i).toNat)
theorem q_rng2 {i j : Int} {Q : List PyData → Prop} : rngQ2 [.int i, .int j] Q = ((-(2 ^ 62) ≤ i ∧ i < 2 ^ 62 ∧ -(2 ^ 62) ≤ j ∧ j < 2 ^ 62) ∧ Q (rngD i (j - i).toNat)) := propext ⟨fun ⟨_, _, e, h⟩ => by
  cases e
  exact h, fun h => ⟨i, j, rfl, h⟩⟩
theorem q_itR2 {dn : DN} {env : Denv} {Q : List PyData → Prop} : itR2 dn env Q = dn env fun ds => rngQ2 ds Q := rfl
theorem eqv_tks (ns ms : List (Int × Int)) : PyData.eqv (.list (ns.map tkD)) (.list (ms.map tkD)) = decide (ns = ms) := by
  rw [PyData.eqv, eqvAll_tks]
theorem q_addr2 {rs : List (Int × Int)} {t u : Int × Int} {Q : PyData → Prop} : addD (rowD rs) (.tuple [tkD t, tkD u]) Q = (rs.length + 2 ≤ 1000000 ∧ Q (rowD (rs ++ [t, u]))) := by
  show ((rs.map tkD).length + 2 ≤ 1000000 ∧ Q (.tuple (rs.map tkD ++ [tkD t, tkD u]))) = _
  rw [List.length_map, rowD, List.map_append]
  rfl
theorem rowD_fold {rs : List (Int × Int)} : PyData.tuple (rs.map tkD) = rowD rs := rfl
theorem at_last {α : Type} (l : List α) (x : α) : atI (l ++ [x]) (-1) = some x := by
  unfold atI
  have : ixN (l ++ [x]).length (-1) = some l.length := by
    unfold ixN
    rw [List.length_append, List.length_singleton]
    have h1 : ¬ (0 : Int) ≤ -1 := by decide
    simp
    omega
  rw [this]
  show (l ++ [x])[l.length]? = some x
  simp
theorem q_lstrg {da : DE} {env : Denv} {Q : List PyData → Prop} : nListRg da env Q = da env fun d => ∃ n : Int, d = .int n ∧ (0 ≤ n ∧ n ≤ 100000) ∧ Q (rngD 0 n.toNat) := rfl
end Pd

set_option maxRecDepth 100000
set_option maxHeartbeats 4000000
/-! ### zip of lists and tuples in any mix -/
namespace Pd
open PySem PySem.Spec PyProof.Rows L2
open Evl (Ex)
def SqK (k : Bool) (K : PySem.W.Frag) (H : Hp) (a : Addr) (xs : List V) : Prop := match k with
  | true => SqT K H a xs
  | false => SqL K H a xs
def ItK (k : Bool) (h : Heap) (it a : Addr) (i : Nat) : Prop := match k with
  | true => h.IsTupleIter it a i
  | false => h.IsListIter it a i
def IsK (k : Bool) (h : Heap) (a : Addr) (its : Array Value) : Prop := match k with
  | true => h.IsTuple a its
  | false => h.IsList a its
def itObj (k : Bool) (a : Addr) : Obj := match k with
  | true => { cls := .type "tuple_iterator", data := .fields #[.ref a, .int 0 0] }
  | false => { cls := .type "list_iterator", data := .fields #[.ref a, .int 0 0] }
theorem drawsK {prog : Program} {w : World} {A : Around} (hh : A.handled = none) (k : Bool) (it t : Addr) (hne : t ≠ it) (items : Array Value) :
    Draws prog w A it [it, t] items.size (fun i v => items[i]? = some v) (fun i h => ItK k h it t i ∧ IsK k h t items) := by
  cases k
  · exact Draws.list hh it t hne items
  · exact Draws.tuple hh it t hne items
theorem beginsK (k : Bool) (l : Addr) (items : Array Value) : Begins (.ref l) (itObj k l) fun h => IsK k h l items := by
  cases k
  · exact begins_list l items
  · exact begins_tuple l items
theorem itK_new {k : Bool} {h : Heap} {it a : Addr} (e : h.get? it = some (itObj k a)) : ItK k h it a 0 := by
  cases k
  · exact ⟨_, e, rfl, rfl⟩
  · exact ⟨_, e, rfl, rfl⟩
theorem itK_at {k : Bool} {h h' : Heap} {it a : Addr} {i : Nat} (x : ItK k h it a i) (e : ∀ o, h.get? it = some o → h'.get? it = some o) : ItK k h' it a i := by
  cases k
  · exact Heap.IsListIter.at x e
  · exact Heap.IsTupleIter.at x e
theorem itK_obj {k : Bool} {h : Heap} {it a : Addr} {i : Nat} (x : ItK k h it a i) : ∃ o, h.get? it = some o ∧ ∀ v, o.data ≠ .cell v := by
  cases k
  · obtain ⟨o, e, _, d⟩ := x
    exact ⟨o, e, fun v q => by rw [d] at q; cases q⟩
  · obtain ⟨o, e, _, d⟩ := x
    exact ⟨o, e, fun v q => by rw [d] at q; cases q⟩
theorem sqK_is {X : Cx} {pins : List (Addr × Obj)} {σ : L2.St} {H : Hp} {s : Shared} (I : Inv X pins σ H s) {k : Bool} {a : Addr} {xs : List V} (h : SqK k X.K H a xs) : ∃ its : List Value, Vals xs its ∧ IsK k s.heap a its.toArray ∧ a < s.heap.objs.size := by
  cases k
  · obtain ⟨its, rv, p, _⟩ := I.list h
    exact ⟨its, rv, p.isList, p.lt⟩
  · obtain ⟨its, rv, p, _⟩ := I.tuple h
    exact ⟨its, rv, p, p.lt⟩
theorem sqK_inj {X : Cx} {pins : List (Addr × Obj)} {σ : L2.St} {H : Hp} {s : Shared} (I : Inv X pins σ H s) {k : Bool} {a : Addr} {xs ys : List V} (h : SqK k X.K H a xs) (h2 : SqK k X.K H a ys) : xs = ys := by
  cases k
  · exact I.list_inj h h2
  · exact I.tuple_inj h h2
def ItzK (K : PySem.W.Frag) (ka kb : Bool) (a b : Addr) : It :=
  ⟨fun i H => ∃ (xs ys : List V) (x y : V), SqK ka K H a xs ∧ SqK kb K H b ys ∧ xs[i]? = some x ∧ ys[i]? = some y,
    fun i H v H' => ∃ T x y, v = V.ref T ∧ H T = none ∧ H' = upd H T (.tup [x, y]) ∧ (∀ xs, SqK ka K H a xs → xs[i]? = some x) ∧ ∀ ys, SqK kb K H b ys → ys[i]? = some y,
    fun i H => ∃ xs ys : List V, SqK ka K H a xs ∧ SqK kb K H b ys ∧ i = min xs.length ys.length⟩
theorem turn_zipK {P : Program} {w : World} {K : PySem.W.Frag} {elts : List Expr} {kk : Nat} {tpos : Pos} {ka kb : Bool} {a b z TI TO i1 i2 : Addr} (S : ZipSep2 z TI TO i1 i2 [i1, a] [i2, b]) (hai : a ≠ i1) (hbi : b ≠ i2) :
    Turn P w K (.Tuple elts kk tpos) (ItzK K ka kb a b) [z, TI, TO, i1, i2] z (fun i h => IsZip h z TI TO .none ∧ IsTupOf2 h TI (.ref i1) (.ref i2) ∧ (∃ x y, IsTupOf2 h TO x y) ∧ ItK ka h i1 a i ∧ ItK kb h i2 b i) where
  mem := by simp
  obj := fun i h st c hc => by
    obtain ⟨hz, hTI, ⟨x, y, hTO⟩, h1, h2⟩ := st
    rcases (show c = z ∨ c = TI ∨ c = TO ∨ c = i1 ∨ c = i2 by simpa using hc) with rfl | rfl | rfl | rfl | rfl
    · exact ⟨_, hz, fun v q => nomatch q⟩
    · exact ⟨_, hTI, fun v q => nomatch q⟩
    · exact ⟨_, hTO, fun v q => nomatch q⟩
    · exact itK_obj h1
    · exact itK_obj h2
  keep := fun i h h' st k => by
    obtain ⟨hz, hTI, ⟨x, y, hTO⟩, h1, h2⟩ := st
    refine ⟨k z (by simp) _ hz, k TI (by simp) _ hTI, ⟨x, y, k TO (by simp) _ hTO⟩, itK_at h1 fun o q => k i1 (by simp) o q, itK_at h2 fun o q => k i2 (by simp) o q⟩
  item := by
    intro X hP hw hK hc i pins s σ H E I hf st hg
    subst hP hw hK
    obtain ⟨hz, hTI, ⟨x0, y0, hTO⟩, h1, h2⟩ := st
    obtain ⟨xs, ys, x, y, hqx, hqy, hx, hy⟩ := hg
    obtain ⟨its, rv, p, _⟩ := sqK_is I hqx
    obtain ⟨its2, rv2, p2, _⟩ := sqK_is I hqy
    obtain ⟨u, hu, ru⟩ := rv.get hx
    obtain ⟨u2, hu2, ru2⟩ := rv2.get hy
    have hzl : z < s.heap.objs.size := Heap.lt_size hz
    have lt1 : i < its.toArray.size := by
      have := (List.getElem?_eq_some_iff.mp hu).1
      simpa using this
    have lt2 : i < its2.toArray.size := by
      have := (List.getElem?_eq_some_iff.mp hu2).1
      simpa using this
    refine wpAny_pyNext_zipD2_item S (drawsK (A := X.A.in1) (I.ok.hd hc) ka i1 a hai its.toArray) (drawsK (A := X.A.in1) (I.ok.hd hc) kb i2 b hbi its2.toArray) hz hTI hTO ⟨h1, p⟩ ⟨h2, p2⟩ lt1 lt2 fun y1 y2 h' tk e1 e2 z' TO' st1 st2 hT hsz hk => ?_
    have ey1 : u = y1 := by
      have q : its.toArray[i]? = some u := by simpa using hu
      rw [q] at e1
      exact Option.some.inj e1
    have ey2 : u2 = y2 := by
      have q : its2.toArray[i]? = some u2 := by simpa using hu2
      rw [q] at e2
      exact Option.some.inj e2
    subst ey1 ey2
    refine ⟨_, rfl, wpAny_letOwnedTupleGo_zip (s := { s with heap := h', toks := tk }) z' fun h'' z'' sb => ?_⟩
    have hT2 : h''.get? s.heap.objs.size = some { cls := .type "tuple", data := .seq #[u, u2] } := (sb.2 _ (Nat.ne_of_gt hzl)).trans hT
    have ok : ObjOk X.prog X.w (upd H s.heap.objs.size (.tup [x, y])) h'' s.heap.objs.size (.tup [x, y]) := ⟨show 2 ≤ sizeLine by decide, [u, u2], .cons ru (.cons ru2 .nil), ⟨_, hT2, rfl, _, rfl⟩⟩
    have kept : ∀ c o, c ∉ [z, TI, TO, i1, i2] → s.heap.get? c = some o → h''.get? c = some o := fun c o hcn q => by
      have n0 : c ≠ z := fun w => hcn (by simp [w])
      have n1 : c ≠ TO := fun w => hcn (by simp [w])
      have n2 : c ≠ i1 := fun w => hcn (by simp [w])
      have n3 : c ≠ i2 := fun w => hcn (by simp [w])
      exact (sb.2 c n0).trans (hk c o n0 n1 n2 n3 q)
    have I1 : Inv X pins σ (upd H s.heap.objs.size (.tup [x, y])) { s with heap := h'', toks := tk } := I.turnedNew (ch := [z, TI, TO, i1, i2]) kept hf (Nat.le_refl _) ok
    refine ⟨.ref s.heap.objs.size, _, I1, rfl, ⟨_, x, y, rfl, I.hok.fresh (Nat.le_refl _), rfl, fun l hl => by rw [sqK_inj I hl hqx]; exact hx, fun l hl => by rw [sqK_inj I hl hqy]; exact hy⟩, ⟨z'', ?_, ⟨u, u2, ?_⟩, ?_, ?_⟩, fun c hcm => ?_⟩
    · exact (sb.2 _ S.TIz).trans (hk _ _ S.TIz S.TITO S.TIi1 S.TIi2 hTI)
    · exact (sb.2 _ S.TOz).trans TO'
    · exact itK_at st1.1 fun o q => (sb.2 _ S.zi1.symm).trans q
    · exact itK_at st2.1 fun o q => (sb.2 _ S.zi2.symm).trans q
    · have hlt : c < s.heap.objs.size := by
        rcases (show c = z ∨ c = TI ∨ c = TO ∨ c = i1 ∨ c = i2 by simpa using hcm) with rfl | rfl | rfl | rfl | rfl
        · exact hzl
        · exact Heap.lt_size hTI
        · exact Heap.lt_size hTO
        · obtain ⟨o, e, _⟩ := itK_obj h1
          exact Heap.lt_size e
        · obtain ⟨o, e, _⟩ := itK_obj h2
          exact Heap.lt_size e
      rw [upd_ne (Nat.ne_of_lt hlt)]
      exact (hf c hcm).1
  done := by
    intro X hP hw hK hc i pins s σ H E I hf st hg
    subst hP hw hK
    obtain ⟨hz, hTI, ⟨x0, y0, hTO⟩, h1, h2⟩ := st
    obtain ⟨xs, ys, hqx, hqy, hend⟩ := hg
    obtain ⟨its, rv, p, _⟩ := sqK_is I hqx
    obtain ⟨its2, rv2, p2, _⟩ := sqK_is I hqy
    have l1 : its.toArray.size = xs.length := by
      rw [rv.length]
      simp
    have l2 : its2.toArray.size = ys.length := by
      rw [rv2.length]
      simp
    refine wpAny_pyNext_zipD2_end S (drawsK (A := X.A.in1) (I.ok.hd hc) ka i1 a hai its.toArray) (drawsK (A := X.A.in1) (I.ok.hd hc) kb i2 b hbi its2.toArray) hz hTI hTO ⟨h1, p⟩ ⟨h2, p2⟩ (by omega) (by omega) (by omega) fun h' tk hk => ⟨rfl, I.turnedL (t' := tk) (ch := [z, TI, TO, i1, i2]) (fun c o hcn q => ?_) hf⟩
    have n0 : c ≠ z := fun w => hcn (by simp [w])
    have n1 : c ≠ TO := fun w => hcn (by simp [w])
    have n2 : c ≠ i1 := fun w => hcn (by simp [w])
    have n3 : c ≠ i2 := fun w => hcn (by simp [w])
    exact hk c o n0 n1 n2 n3 q
  self := fun A i s Q E st h => wpAny_pyIter_zip st.1 h
def iZipK (K : PySem.W.Frag) (ta : TA) : TI := fun σ H R => ta σ H fun vs H1 => ∃ ka kb a b xs ys, vs = [.ref a, .ref b] ∧ SqK ka K H1 a xs ∧ SqK kb K H1 b ys ∧ R (ItzK K ka kb a b) H1
theorem pi_zipK {X : Cx} {e e2 : Expr} {ta : TA} {p pos tpos : Pos} {elts : List Expr} {kk : Nat} (hg : Gl X "zip") (hm : X.mg "zip" = none) (ha : PA X [e, e2] ta)
    (h1 : starEach [e, e2] X.env = (false, eval e X.env) :: starEach [e2] X.env := by rfl) (h2 : (backTo pos (starEach [e2] X.env)).any (·.1) = false := by rfl) :
    PI X (.Tuple elts kk tpos) (.Call (.Name "zip" p) [e, e2] [] pos) (iZipK X.K ta) := ⟨fun pins s σ H R I h => by
  refine Call_ (ld_blt I hg hm PyProof.Rows.boot_zip (PyProof.Rows.callWith_type1 (thn (ha.run pos pins s σ H _ I h) fun us s1 ⟨vs, H1, I1, r1, ka, kb, a, b, xs, ys, ev, hqx, hqy, q⟩ => ?_) h1 h2))
  subst ev
  obtain ⟨u1, u2, rfl, ra, rb⟩ := r1.two
  cases ra
  cases rb
  obtain ⟨its, rv, p1, la⟩ := sqK_is I1 hqx
  obtain ⟨its2, rv2, p2, lb⟩ := sqK_is I1 hqy
  refine zip_begins2 (beginsK ka a its.toArray) (beginsK kb b its2.toArray) p1 p2 fun h' hz hTI hTO g1 g2 hsz hk => wpAny_pyIter_zip hz ?_
  have I2 : Inv X pins σ H1 { s1 with heap := h' } := I1.kept (t' := s1.toks) hk
  refine ⟨s1.heap.objs.size + 4, [s1.heap.objs.size + 4, s1.heap.objs.size + 2, s1.heap.objs.size + 3, s1.heap.objs.size, s1.heap.objs.size + 1], _, _, H1, rfl, I2,
    turn_zipK (zip_sep2 (N := s1.heap.objs.size) (fp1 := [a]) (fp2 := [b]) (fun c hc => ?_) (fun c hc => ?_)) (Nat.ne_of_lt la) (Nat.ne_of_lt (Nat.lt_succ_of_lt lb)), ⟨hz, hTI, ⟨_, _, hTO⟩, itK_new g1, itK_new g2⟩, fun c hc => ?_, q⟩
  · rw [show c = a by simpa using hc]
    exact la
  · rw [show c = b by simpa using hc]
    exact lb
  · have hle : s1.heap.objs.size ≤ c := by
      rcases (show c = s1.heap.objs.size + 4 ∨ c = s1.heap.objs.size + 2 ∨ c = s1.heap.objs.size + 3 ∨ c = s1.heap.objs.size ∨ c = s1.heap.objs.size + 1 by simpa using hc) with z | z | z | z | z <;> rw [z] <;> first | exact Nat.le_refl _ | exact Nat.le_add_right _ _
    exact I1.fpOk hle (I1.hok.fresh hle)⟩
/-- pairs -/
def zipP : List PyData → List PyData → List PyData
  | x :: xs, y :: ys => .tuple [x, y] :: zipP xs ys
  | _, _ => []
theorem zipP_len : ∀ xs ys : List PyData, (zipP xs ys).length = min xs.length ys.length
  | x :: xs, y :: ys => by
    show (zipP xs ys).length + 1 = min (xs.length + 1) (ys.length + 1)
    rw [zipP_len xs ys]
    omega
  | [], ys => by simp [zipP]
  | x :: xs, [] => by simp [zipP]
theorem zipP_get : ∀ {xs ys : List PyData} {i : Nat} {d : PyData}, (zipP xs ys)[i]? = some d → ∃ x y, xs[i]? = some x ∧ ys[i]? = some y ∧ d = .tuple [x, y]
  | x :: xs, y :: ys, 0, d, h => ⟨x, y, rfl, rfl, by simpa [zipP] using h.symm⟩
  | x :: xs, y :: ys, i + 1, d, h => by
    obtain ⟨u, v, h1, h2, h3⟩ := zipP_get (xs := xs) (ys := ys) (i := i) (by simpa [zipP] using h)
    exact ⟨u, v, by simpa using h1, by simpa using h2, h3⟩
  | [], ys, i, d, h => by simp [zipP] at h
  | x :: xs, [], i, d, h => by simp [zipP] at h
def zipQ (ds : List PyData) (Q : List PyData → Prop) : Prop := ∃ x y xs ys, ds = [x, y] ∧ seqD x = some xs ∧ seqD y = some ys ∧ Q (zipP xs ys)
def itZip (dn : DN) : DN := fun env Q => dn env fun ds => zipQ ds Q
theorem dt_seq {K : PySem.W.Frag} {F : Hp} {v : V} {d : PyData} {ds : List PyData} (t : Dt F v d) (h : seqD d = some ds) : ∃ (k : Bool) (a : Addr) (vs : List V), v = .ref a ∧ DtA F vs ds ∧ ∀ H, Ex F H → SqK k K H a vs := by
  cases t with
  | @lst a xs ds' h1 h2 =>
    cases h
    exact ⟨false, a, xs, rfl, h2, fun H e => SqL.of (e _ _ h1)⟩
  | @tup a xs ds' h1 h2 =>
    cases h
    exact ⟨true, a, xs, rfl, h2, fun H e => SqT.of (e _ _ h1)⟩
  | _ => cases h
theorem pid_zip {X : Cx} {a b : Expr} {tA : TA} {dn : DN} {p pos tpos : Pos} {elts : List Expr} {kk : Nat} (hg : Gl X "zip") (hm : X.mg "zip" = none) (h : PAf X [a, b] tA dn)
    (h1 : starEach [a, b] X.env = (false, eval a X.env) :: starEach [b] X.env := by rfl) (h2 : (backTo pos (starEach [b] X.env)).any (·.1) = false := by rfl) :
    PId X (.Tuple elts kk tpos) (.Call (.Name "zip" p) [a, b] [] pos) (iZipK X.K tA) (itZip dn) := ⟨pi_zipK hg hm h.pa h1 h2, fun B F H σ env Q R n q k =>
  h.s B F H σ env _ _ n q fun vs ds F' H' ⟨x, y, xs, ys, ed, hx, hy, q'⟩ e' n' r' => by
    subst ed
    cases r' with
    | cons r1 r2 =>
      cases r2 with
      | cons r2 r3 =>
        cases r3
        obtain ⟨ka, la, va, rfl, da, sa⟩ := dt_seq (K := X.K) r1 hx
        obtain ⟨kb, lb, vb, rfl, db, sb⟩ := dt_seq (K := X.K) r2 hy
        refine ⟨ka, kb, la, lb, va, vb, rfl, sa H' n'.g.fh, sb H' n'.g.fh, k _ _ F' H' q' e' n' fun F2 H2 e2 eh => ⟨⟨va, vb, sa H2 (e2.trans eh), sb H2 (e2.trans eh), ?_⟩, fun i d hi => ?_⟩⟩
        · rw [zipP_len, da.len, db.len]
        · obtain ⟨u, v, hu, hv, rfl⟩ := zipP_get hi
          obtain ⟨wu, gu, tu⟩ := (da.up e2).get hu
          obtain ⟨wv, gv, tv⟩ := (db.up e2).get hv
          refine ⟨⟨va, vb, wu, wv, sa H2 (e2.trans eh), sb H2 (e2.trans eh), gu, gv⟩, fun z H'' ⟨T, y1, y2, ez, hT, eH, q1, q2⟩ => ?_⟩
          have z1 := q1 va (sa H2 (e2.trans eh))
          have z2 := q2 vb (sb H2 (e2.trans eh))
          rw [gu] at z1
          rw [gv] at z2
          cases z1
          cases z2
          subst ez eH
          have g : Gro F2 H2 (upd F2 T (.tup [wu, wv])) (upd H2 T (.tup [wu, wv])) := .new hT
          exact ⟨_, g, .tup upd_same (.cons (tu.up (g.ex eh)) (.cons (tv.up (g.ex eh)) .nil))⟩⟩
theorem q_zip {dn : DN} {env : Denv} {Q : List PyData → Prop} : itZip dn env Q = dn env fun ds => zipQ ds Q := rfl
theorem q_zipQ {x y : PyData} {Q : List PyData → Prop} : zipQ [x, y] Q = ∃ xs, seqD x = some xs ∧ ∃ ys, seqD y = some ys ∧ Q (zipP xs ys) := propext ⟨fun ⟨_, _, xs, ys, e, h1, h2, h⟩ => by
  cases e
  exact ⟨xs, h1, ys, h2, h⟩, fun ⟨xs, h1, ys, h2, h⟩ => ⟨x, y, xs, ys, rfl, h1, h2, h⟩⟩
end Pd

set_option maxRecDepth 100000
set_option maxHeartbeats 4000000
/-! isinstance of two classes, repr of a bool, is True, a bag's own parts read. -/
namespace Pd
open PySem L2
open Evl (Ex)
section
variable {X : Cx} {a b c e : Expr} {es : List Expr} {ta tb te tc : TE} {da db dc dd : DE} {dn : DN} {pos p p2 p3 : Pos} {x y : Str}
/-! isinstance(a, (T, U)) -/
def isi2D (T U : String) (d : PyData) (Q : PyData → Prop) : Prop := ∃ b1 b2, kitB (tyD d) T = some b1 ∧ kitB (tyD d) U = some b2 ∧ Q (.bool (b1 || b2))
theorem ped_isi2 {T U : String} {kt : Nat} {tp : Pos} (hg : Gl X "isinstance") (hm : X.mg "isinstance" = none) (hgT : Gl X x) (hmT : X.mg x = none) (hv : bootBuiltins x = some (.type T)) (hgU : Gl X y) (hmU : X.mg y = none) (hvU : bootBuiltins y = some (.type U)) (ha : PEr X a ta da)
    (hdb : (x == ("__debug__" : Str)) = false := by decide) (hnm : x ≠ "__name__" := by decide) (hdb2 : (y == ("__debug__" : Str)) = false := by decide) (hnm2 : y ≠ "__name__" := by decide)
    (he : starEach [a, .Tuple [.Name x p2, .Name y p3] kt tp] X.env = (false, eval a X.env) :: starEach [.Tuple [.Name x p2, .Name y p3] kt tp] X.env := by rfl)
    (he2 : starEach [.Tuple [.Name x p2, .Name y p3] kt tp] X.env = (false, eval (.Tuple [.Name x p2, .Name y p3] kt tp) X.env) :: starEach [] X.env := by rfl)
    (hpl : (backTo pos (starEach [.Tuple [.Name x p2, .Name y p3] kt tp] X.env)).any (·.1) = false := by rfl)
    (h1 : starEach [.Name x p2, .Name y p3] X.env = (false, eval (.Name x p2) X.env) :: starEach [.Name y p3] X.env := by rfl) (h2 : starEach [.Name y p3] X.env = (false, eval (.Name y p3) X.env) :: starEach [] X.env := by rfl) :
    PEd X (.Call (.Name "isinstance" p) [a, .Tuple [.Name x p2, .Name y p3] kt tp] [] pos) (tCB (rIsiT X.K) (tCons ta (tCons (tTup (tCons (tC (.ty T)) (tCons (tC (.ty U)) tNil))) tNil))) (d1 (isi2D T U) da) :=
  ⟨pe_callB call_isiT hg hm (by decide +kernel) (pa_cons ha.pe (pa_cons (pe_tup (pa_cons (pe_bltn (v := .ty T) hgT hmT hv rfl hnm hdb) (pa_cons (pe_bltn (v := .ty U) hgU hmU hvU rfl hnm2 hdb2) pa_nil h2) h1)) pa_nil he2) he) (by decide) (by decide) he hpl, fun B F H σ env Q Qv n q k =>
    ha.s B F H σ env _ _ n q fun v d F1 H1 ⟨b1, b2, e1', e2', q1⟩ e1 n1 r1 => ⟨by show 2 ≤ sizeLine; decide, fun tp' hp => by
      have n2 : Den B F1 (upd H1 tp' (.tup [.ty T, .ty U])) σ env := n1.grow (n1.g.own hp) (Ex.refl _) fun a o h1 h2 _ => ⟨upd_some hp h1, h2⟩
      refine ⟨v, tp', _, .type (tyD d), [.type T, .type U], b1 || b2, rfl, upd_same, .cons (.ty T) (.cons (.ty U) .nil), ty_of ((r1.rb n2).dt n2.g.fh), ?_, k _ _ _ _ q1 e1 n2 (.bl _)⟩
      refine kitAny_cons (kit_ty e1') (fun z => kitAny_cons (kit_ty e2') (fun z2 => ?_) fun z2 => ?_) fun z => by rw [z]; rfl
      · rw [z, z2]; rfl
      · rw [z, z2]; rfl⟩⟩
/-! repr(a bool) -/
theorem call_reprB : CallR X (.builtin "repr") (fun xs H Q => ∃ i : Bool, xs = [.bl i] ∧ Q (.str (if i then "True" else "False")) H) := by
  intro pins s σ H xs us Q I r h
  obtain ⟨i, rfl, q⟩ := h
  obtain ⟨u, rfl, rfl⟩ := vals1 r
  exact PySem.P.repr_of_bool ⟨.str _, H, I.tok _, ⟨_, rfl⟩, q⟩
def reprD : List PyData → (PyData → Prop) → Prop
  | [.bool b], Q => Q (.str (if b then "True" else "False"))
  | _, _ => False
theorem cd_repr : CallD (fun xs H Q => ∃ i : Bool, xs = [.bl i] ∧ Q (.str (if i then "True" else "False")) H) reprD := fun F H xs ds Q Qv ex r q k => by
  unfold reprD at q
  split at q
  · obtain ⟨x, rfl, r1⟩ := paired1 r
    rw [r1.bool]
    exact ⟨_, rfl, k _ _ F H q .refl (.str _)⟩
  · exact q.elim
theorem q_repr {b : Bool} {Q : PyData → Prop} : reprD [.bool b] Q = Q (.str (if b then "True" else "False")) := rfl
/-! is True -/
def isBD : PyData → PyData → (PyData → Prop) → Prop
  | .bool a, .bool b, Q => Q (.bool (decide (a = b)))
  | _, _, _ => False
theorem od_isB : OpD rIsB isBD := fun F H x y d e Q Qv ex rx ry q k => by
  cases d <;> cases e <;> first | exact q.elim | exact ⟨_, _, rx.bool, ry.bool, k _ _ F H q .refl (.bl _)⟩
theorem q_isB {a b : Bool} {Q : PyData → Prop} : isBD (.bool a) (.bool b) Q = Q (.bool (decide (a = b))) := rfl
/-- no promise -/
theorem fn_none {P : Program} {w : World} {K : PySem.W.Frag} {mg : Str → Option Value} {base : Heap} {CX : CXT} {k : Nat} {f : Addr} {fd : FuncData} {ps : List Str} : FnOk P w K mg base CX k f fd ps (lift fun _ _ => False) :=
  ⟨fun vs H Q E h => by
    obtain ⟨_, _, _, _, _, _, _, z, _⟩ := h
    exact z.elim, fun A outer s H args us vs Q E _ _ _ _ h => by
    obtain ⟨_, _, _, _, _, _, _, z, _⟩ := h
    exact z.elim⟩
/-! a bag's parts -/
def dBag0 (i : Nat) : DE := fun env Q => env[i]? = some (some .bag) ∧ ∀ ns : List Int, ns.length = 400 → (∀ x ∈ ns, 0 ≤ x ∧ x < 1000) → Q (.list (ns.map .int))
def dBag1 (i : Nat) : DE := fun env Q => env[i]? = some (some .bag) ∧ ∀ n : Int, 0 ≤ n → Q (.int n)
theorem bag_at {B : Bs} {F H : Hp} {σ : St} {env : Denv} (n : Den B F H σ env) {i : Nat} (h : env[i]? = some (some .bag)) : ∃ (b l : Addr) (m : Int) (ns : List Int), σ[i]? = some (some (.ref b)) ∧ H b = some (.lst [.ref l, .int m]) ∧ 0 ≤ m ∧ F l = some (.lst (ns.map V.int)) ∧ ns.length = 400 ∧ ∀ x ∈ ns, 0 ≤ x ∧ x < 1000 := by
  obtain ⟨v, h1, b, rfl, h2⟩ := n.slot i _ h
  obtain ⟨l, m, ns, h3⟩ := n.g.bag b h2
  exact ⟨b, l, m, ns, h1, h3⟩
theorem ped_bag0 (i : Nat) {j : Nat} (h : PE X e (tVar i)) : PEd X (.Subscript e (.Constant (.int 0) j p) pos) (tOp (rIx X.K) (tVar i) (tC (.int 0))) (dBag0 i) := ⟨pe_ix ix_seq h pe_int (fun _ _ => rfl), fun B F H σ env Q Qv n q k => by
  obtain ⟨h1, q⟩ := q
  obtain ⟨b, l, m, ns, h2, h3, h4, h5, h6, h7⟩ := bag_at n h1
  exact ⟨_, h2, .inl ⟨b, _, 0, .ref l, rfl, rfl, SqL.of h3, rfl, k _ _ F H (q ns h6 h7) (Ex.refl _) n (.lst h5 (DtA.of_ints ns))⟩⟩⟩
theorem ped_bag1 (i : Nat) {j : Nat} (h : PE X e (tVar i)) : PEd X (.Subscript e (.Constant (.int 1) j p) pos) (tOp (rIx X.K) (tVar i) (tC (.int 1))) (dBag1 i) := ⟨pe_ix ix_seq h pe_int (fun _ _ => rfl), fun B F H σ env Q Qv n q k => by
  obtain ⟨h1, q⟩ := q
  obtain ⟨b, l, m, ns, h2, h3, h4, h5, h6, h7⟩ := bag_at n h1
  exact ⟨_, h2, .inl ⟨b, _, 1, .int m, rfl, rfl, SqL.of h3, rfl, k _ _ F H (q m h4) (Ex.refl _) n (.int m)⟩⟩⟩
end
end Pd

set_option maxRecDepth 100000
set_option maxHeartbeats 4000000
/-! Rows: what is a taker, a row, a number; who takes a piece, how many each takes. -/
namespace Pd
open PySem L2
open Evl (Ex)
def isIntB : PyData → Bool
  | .int _ => true
  | .bool _ => true
  | _ => false
def isBoolB : PyData → Bool
  | .bool _ => true
  | _ => false
def isTupB : PyData → Bool
  | .tuple _ => true
  | _ => false
def isLstB : PyData → Bool
  | .list _ => true
  | _ => false
theorem isi_int (d : PyData) (Q : PyData → Prop) : isiD "int" d Q = Q (.bool (isIntB d)) := by
  have h : kitB (tyD d) "int" = some (isIntB d) := by
    cases d with
    | none => exact (show kitB "NoneType" "int" = some false by decide +kernel)
    | bool _ => exact (show kitB "bool" "int" = some true by decide +kernel)
    | int _ => exact (show kitB "int" "int" = some true by decide +kernel)
    | str _ => exact (show kitB "str" "int" = some false by decide +kernel)
    | list _ => exact (show kitB "list" "int" = some false by decide +kernel)
    | tuple _ => exact (show kitB "tuple" "int" = some false by decide +kernel)
    | dict _ => exact (show kitB "dict" "int" = some false by decide +kernel)
  unfold isiD
  rw [h]
  simp
theorem isi_bool (d : PyData) (Q : PyData → Prop) : isiD "bool" d Q = Q (.bool (isBoolB d)) := by
  have h : kitB (tyD d) "bool" = some (isBoolB d) := by
    cases d with
    | none => exact (show kitB "NoneType" "bool" = some false by decide +kernel)
    | bool _ => exact (show kitB "bool" "bool" = some true by decide +kernel)
    | int _ => exact (show kitB "int" "bool" = some false by decide +kernel)
    | str _ => exact (show kitB "str" "bool" = some false by decide +kernel)
    | list _ => exact (show kitB "list" "bool" = some false by decide +kernel)
    | tuple _ => exact (show kitB "tuple" "bool" = some false by decide +kernel)
    | dict _ => exact (show kitB "dict" "bool" = some false by decide +kernel)
  unfold isiD
  rw [h]
  simp
theorem isi_tup (d : PyData) (Q : PyData → Prop) : isiD "tuple" d Q = Q (.bool (isTupB d)) := by
  have h : kitB (tyD d) "tuple" = some (isTupB d) := by
    cases d with
    | none => exact (show kitB "NoneType" "tuple" = some false by decide +kernel)
    | bool _ => exact (show kitB "bool" "tuple" = some false by decide +kernel)
    | int _ => exact (show kitB "int" "tuple" = some false by decide +kernel)
    | str _ => exact (show kitB "str" "tuple" = some false by decide +kernel)
    | list _ => exact (show kitB "list" "tuple" = some false by decide +kernel)
    | tuple _ => exact (show kitB "tuple" "tuple" = some true by decide +kernel)
    | dict _ => exact (show kitB "dict" "tuple" = some false by decide +kernel)
  unfold isiD
  rw [h]
  simp
theorem isi_lst (d : PyData) (Q : PyData → Prop) : isiD "list" d Q = Q (.bool (isLstB d)) := by
  have h : kitB (tyD d) "list" = some (isLstB d) := by
    cases d with
    | none => exact (show kitB "NoneType" "list" = some false by decide +kernel)
    | bool _ => exact (show kitB "bool" "list" = some false by decide +kernel)
    | int _ => exact (show kitB "int" "list" = some false by decide +kernel)
    | str _ => exact (show kitB "str" "list" = some false by decide +kernel)
    | list _ => exact (show kitB "list" "list" = some true by decide +kernel)
    | tuple _ => exact (show kitB "tuple" "list" = some false by decide +kernel)
    | dict _ => exact (show kitB "dict" "list" = some false by decide +kernel)
  unfold isiD
  rw [h]
  simp
/-! ### is_within -/
def withinB (d : PyData) (lo hi : Int) : Bool := match d with
  | .int i => decide (lo ≤ i) && decide (i ≤ hi)
  | _ => false
def sp_is_within : DSp
  | [.dat d, .dat (.int lo), .dat (.int hi)], R => R (.dat (.bool (withinB d lo hi)))
  | _, _ => False
/-- is_within: 0 thing, 1 low, 2 high -/
abbrev b_is_within : DS := (dRet (dAndV (d1 (isiD "int") (dVar 0)) (dAndV (dNotV (d1 (isiD "bool") (dVar 0))) (dChain leD leD (dVar 1) (dVar 0) (dVar 2)))))
theorem rd_is_within (svs : List SV) (R : RVd → Prop) (h : sp_is_within svs R) : b_is_within { nx := fun _ => R (.dat .none), rt := R } (startd 3 svs) := by
  unfold sp_is_within at h
  split at h
  · rename_i d lo hi
    simp only [b_is_within, isi_int, isi_bool, dSeq, dAsgG, dAsgN, dRet, dRetN, dRetO, dRet0, dDrop, dIfS, dNext, dApp, dInsert, q_setI, q_setQ, q_take, dFor, dFreeze, dNever, q_par, q_parQ, q_par3, q_parQ3, dParNE, dParDE, gdName, q_gnil, q_gcons, q_gtup, dVar, dOwn, dC, d1, d2, n2, nCons, nNil, nLst, dTup, dFr, dTest, dAnd, dOr, dNot, dAndV, dOrV, dNotV, dIf, dChain, dCB, nCB, dCall, nCall, aDat, aBag, aNil, q_neg, q_add, q_addl, q_addt, q_sub, q_mul, q_mull, q_mult, q_fdiv, q_mod, q_pow, q_lt, q_le, q_gt, q_ge, eqD, neD, isD, isntD, q_isnn, q_isni, q_isnb, q_isnt, q_isnl, q_lenl, q_lent, q_inti, q_intb, q_max2, q_min2, q_listl, q_listt, q_tuplel, q_tuplet, q_sum, q_min, q_max, allD, itSeq, itR1, q_itR2, q_rng2, q_en, q_en1, q_zip, q_zipQ, q_seqr, q_lenr, q_ixr, q_seql, q_seqt, q_rvd, q_rvn, q_catn, q_ixl, q_ixt, q_sl, q_sll, q_slt, q_slr, nSlL, oNone, oSome, nLc, wipeD, q_dropc, q_dropxd, q_dropxb, q_dropxo, q_dropxn, q_drope, dYes, dCnt, q_revl, q_revt, q_revr, nListRg, dTupRg, exInts, exOpt, q_addr1, q_addrr, q_ixk0, q_ixk1, exRow, exTk, cntL, cntQ_some, cntQ_none, List.getElem?_cons_zero, List.getElem?_cons_succ, List.getElem?_nil, Option.some.injEq, SV.dat.injEq, SV.own.injEq, PyData.int.injEq, PyData.bool.injEq, PyData.tuple.injEq, PyData.list.injEq, PyData.str.injEq, RVd.new.injEq, RVd.dat.injEq, exists_eq_left, exists_eq_left', exists_eq_right, List.cons.injEq, List.set_cons_zero, List.set_cons_succ, reduceCtorEq, and_true, true_and, false_and, and_false, not_true_eq_false, not_false_eq_true, if_true, if_false, ite_true, ite_false, decide_eq_true_eq, Bool.not_eq_true', decide_eq_false_iff_not, Bool.and_true, Bool.true_and, Bool.and_false, Bool.false_and, Bool.not_true, Bool.not_false, Bool.false_eq_true, List.map_cons, List.map_nil, List.length_cons, List.length_nil, Nat.zero_add, Nat.reduceAdd, Nat.reduceLeDiff, startd, List.replicate_succ, List.replicate_zero, List.nil_append, List.cons_append, Nat.reduceSub, exists_const, and_self, shp_int, shp_none, shp_bool, eqv_int, dForL_nil, lcL_nil]
    cases d with
    | int i =>
      simp only [isIntB, isBoolB, withinB, dSeq, dAsgG, dAsgN, dRet, dRetN, dRetO, dRet0, dDrop, dIfS, dNext, dApp, dInsert, q_setI, q_setQ, q_take, dFor, dFreeze, dNever, q_par, q_parQ, q_par3, q_parQ3, dParNE, dParDE, gdName, q_gnil, q_gcons, q_gtup, dVar, dOwn, dC, d1, d2, n2, nCons, nNil, nLst, dTup, dFr, dTest, dAnd, dOr, dNot, dAndV, dOrV, dNotV, dIf, dChain, dCB, nCB, dCall, nCall, aDat, aBag, aNil, q_neg, q_add, q_addl, q_addt, q_sub, q_mul, q_mull, q_mult, q_fdiv, q_mod, q_pow, q_lt, q_le, q_gt, q_ge, eqD, neD, isD, isntD, q_isnn, q_isni, q_isnb, q_isnt, q_isnl, q_lenl, q_lent, q_inti, q_intb, q_max2, q_min2, q_listl, q_listt, q_tuplel, q_tuplet, q_sum, q_min, q_max, allD, itSeq, itR1, q_itR2, q_rng2, q_en, q_en1, q_zip, q_zipQ, q_seqr, q_lenr, q_ixr, q_seql, q_seqt, q_rvd, q_rvn, q_catn, q_ixl, q_ixt, q_sl, q_sll, q_slt, q_slr, nSlL, oNone, oSome, nLc, wipeD, q_dropc, q_dropxd, q_dropxb, q_dropxo, q_dropxn, q_drope, dYes, dCnt, q_revl, q_revt, q_revr, nListRg, dTupRg, exInts, exOpt, q_addr1, q_addrr, q_ixk0, q_ixk1, exRow, exTk, cntL, cntQ_some, cntQ_none, List.getElem?_cons_zero, List.getElem?_cons_succ, List.getElem?_nil, Option.some.injEq, SV.dat.injEq, SV.own.injEq, PyData.int.injEq, PyData.bool.injEq, PyData.tuple.injEq, PyData.list.injEq, PyData.str.injEq, RVd.new.injEq, RVd.dat.injEq, exists_eq_left, exists_eq_left', exists_eq_right, List.cons.injEq, List.set_cons_zero, List.set_cons_succ, reduceCtorEq, and_true, true_and, false_and, and_false, not_true_eq_false, not_false_eq_true, if_true, if_false, ite_true, ite_false, decide_eq_true_eq, Bool.not_eq_true', decide_eq_false_iff_not, Bool.and_true, Bool.true_and, Bool.and_false, Bool.false_and, Bool.not_true, Bool.not_false, Bool.false_eq_true, List.map_cons, List.map_nil, List.length_cons, List.length_nil, Nat.zero_add, Nat.reduceAdd, Nat.reduceLeDiff, startd, List.replicate_succ, List.replicate_zero, List.nil_append, List.cons_append, Nat.reduceSub, exists_const, and_self, shp_int, shp_none, shp_bool, eqv_int, dForL_nil, lcL_nil] at h ⊢
      by_cases h1 : lo ≤ i
      · simp only [h1, dSeq, dAsgG, dAsgN, dRet, dRetN, dRetO, dRet0, dDrop, dIfS, dNext, dApp, dInsert, q_setI, q_setQ, q_take, dFor, dFreeze, dNever, q_par, q_parQ, q_par3, q_parQ3, dParNE, dParDE, gdName, q_gnil, q_gcons, q_gtup, dVar, dOwn, dC, d1, d2, n2, nCons, nNil, nLst, dTup, dFr, dTest, dAnd, dOr, dNot, dAndV, dOrV, dNotV, dIf, dChain, dCB, nCB, dCall, nCall, aDat, aBag, aNil, q_neg, q_add, q_addl, q_addt, q_sub, q_mul, q_mull, q_mult, q_fdiv, q_mod, q_pow, q_lt, q_le, q_gt, q_ge, eqD, neD, isD, isntD, q_isnn, q_isni, q_isnb, q_isnt, q_isnl, q_lenl, q_lent, q_inti, q_intb, q_max2, q_min2, q_listl, q_listt, q_tuplel, q_tuplet, q_sum, q_min, q_max, allD, itSeq, itR1, q_itR2, q_rng2, q_en, q_en1, q_zip, q_zipQ, q_seqr, q_lenr, q_ixr, q_seql, q_seqt, q_rvd, q_rvn, q_catn, q_ixl, q_ixt, q_sl, q_sll, q_slt, q_slr, nSlL, oNone, oSome, nLc, wipeD, q_dropc, q_dropxd, q_dropxb, q_dropxo, q_dropxn, q_drope, dYes, dCnt, q_revl, q_revt, q_revr, nListRg, dTupRg, exInts, exOpt, q_addr1, q_addrr, q_ixk0, q_ixk1, exRow, exTk, cntL, cntQ_some, cntQ_none, List.getElem?_cons_zero, List.getElem?_cons_succ, List.getElem?_nil, Option.some.injEq, SV.dat.injEq, SV.own.injEq, PyData.int.injEq, PyData.bool.injEq, PyData.tuple.injEq, PyData.list.injEq, PyData.str.injEq, RVd.new.injEq, RVd.dat.injEq, exists_eq_left, exists_eq_left', exists_eq_right, List.cons.injEq, List.set_cons_zero, List.set_cons_succ, reduceCtorEq, and_true, true_and, false_and, and_false, not_true_eq_false, not_false_eq_true, if_true, if_false, ite_true, ite_false, decide_eq_true_eq, Bool.not_eq_true', decide_eq_false_iff_not, Bool.and_true, Bool.true_and, Bool.and_false, Bool.false_and, Bool.not_true, Bool.not_false, Bool.false_eq_true, List.map_cons, List.map_nil, List.length_cons, List.length_nil, Nat.zero_add, Nat.reduceAdd, Nat.reduceLeDiff, startd, List.replicate_succ, List.replicate_zero, List.nil_append, List.cons_append, Nat.reduceSub, exists_const, and_self, shp_int, shp_none, shp_bool, eqv_int, dForL_nil, lcL_nil] at h ⊢
        exact h
      · simp only [h1, dSeq, dAsgG, dAsgN, dRet, dRetN, dRetO, dRet0, dDrop, dIfS, dNext, dApp, dInsert, q_setI, q_setQ, q_take, dFor, dFreeze, dNever, q_par, q_parQ, q_par3, q_parQ3, dParNE, dParDE, gdName, q_gnil, q_gcons, q_gtup, dVar, dOwn, dC, d1, d2, n2, nCons, nNil, nLst, dTup, dFr, dTest, dAnd, dOr, dNot, dAndV, dOrV, dNotV, dIf, dChain, dCB, nCB, dCall, nCall, aDat, aBag, aNil, q_neg, q_add, q_addl, q_addt, q_sub, q_mul, q_mull, q_mult, q_fdiv, q_mod, q_pow, q_lt, q_le, q_gt, q_ge, eqD, neD, isD, isntD, q_isnn, q_isni, q_isnb, q_isnt, q_isnl, q_lenl, q_lent, q_inti, q_intb, q_max2, q_min2, q_listl, q_listt, q_tuplel, q_tuplet, q_sum, q_min, q_max, allD, itSeq, itR1, q_itR2, q_rng2, q_en, q_en1, q_zip, q_zipQ, q_seqr, q_lenr, q_ixr, q_seql, q_seqt, q_rvd, q_rvn, q_catn, q_ixl, q_ixt, q_sl, q_sll, q_slt, q_slr, nSlL, oNone, oSome, nLc, wipeD, q_dropc, q_dropxd, q_dropxb, q_dropxo, q_dropxn, q_drope, dYes, dCnt, q_revl, q_revt, q_revr, nListRg, dTupRg, exInts, exOpt, q_addr1, q_addrr, q_ixk0, q_ixk1, exRow, exTk, cntL, cntQ_some, cntQ_none, List.getElem?_cons_zero, List.getElem?_cons_succ, List.getElem?_nil, Option.some.injEq, SV.dat.injEq, SV.own.injEq, PyData.int.injEq, PyData.bool.injEq, PyData.tuple.injEq, PyData.list.injEq, PyData.str.injEq, RVd.new.injEq, RVd.dat.injEq, exists_eq_left, exists_eq_left', exists_eq_right, List.cons.injEq, List.set_cons_zero, List.set_cons_succ, reduceCtorEq, and_true, true_and, false_and, and_false, not_true_eq_false, not_false_eq_true, if_true, if_false, ite_true, ite_false, decide_eq_true_eq, Bool.not_eq_true', decide_eq_false_iff_not, Bool.and_true, Bool.true_and, Bool.and_false, Bool.false_and, Bool.not_true, Bool.not_false, Bool.false_eq_true, List.map_cons, List.map_nil, List.length_cons, List.length_nil, Nat.zero_add, Nat.reduceAdd, Nat.reduceLeDiff, startd, List.replicate_succ, List.replicate_zero, List.nil_append, List.cons_append, Nat.reduceSub, exists_const, and_self, shp_int, shp_none, shp_bool, eqv_int, dForL_nil, lcL_nil] at h ⊢
        exact h
    | _ =>
      simp only [isIntB, isBoolB, withinB, dSeq, dAsgG, dAsgN, dRet, dRetN, dRetO, dRet0, dDrop, dIfS, dNext, dApp, dInsert, q_setI, q_setQ, q_take, dFor, dFreeze, dNever, q_par, q_parQ, q_par3, q_parQ3, dParNE, dParDE, gdName, q_gnil, q_gcons, q_gtup, dVar, dOwn, dC, d1, d2, n2, nCons, nNil, nLst, dTup, dFr, dTest, dAnd, dOr, dNot, dAndV, dOrV, dNotV, dIf, dChain, dCB, nCB, dCall, nCall, aDat, aBag, aNil, q_neg, q_add, q_addl, q_addt, q_sub, q_mul, q_mull, q_mult, q_fdiv, q_mod, q_pow, q_lt, q_le, q_gt, q_ge, eqD, neD, isD, isntD, q_isnn, q_isni, q_isnb, q_isnt, q_isnl, q_lenl, q_lent, q_inti, q_intb, q_max2, q_min2, q_listl, q_listt, q_tuplel, q_tuplet, q_sum, q_min, q_max, allD, itSeq, itR1, q_itR2, q_rng2, q_en, q_en1, q_zip, q_zipQ, q_seqr, q_lenr, q_ixr, q_seql, q_seqt, q_rvd, q_rvn, q_catn, q_ixl, q_ixt, q_sl, q_sll, q_slt, q_slr, nSlL, oNone, oSome, nLc, wipeD, q_dropc, q_dropxd, q_dropxb, q_dropxo, q_dropxn, q_drope, dYes, dCnt, q_revl, q_revt, q_revr, nListRg, dTupRg, exInts, exOpt, q_addr1, q_addrr, q_ixk0, q_ixk1, exRow, exTk, cntL, cntQ_some, cntQ_none, List.getElem?_cons_zero, List.getElem?_cons_succ, List.getElem?_nil, Option.some.injEq, SV.dat.injEq, SV.own.injEq, PyData.int.injEq, PyData.bool.injEq, PyData.tuple.injEq, PyData.list.injEq, PyData.str.injEq, RVd.new.injEq, RVd.dat.injEq, exists_eq_left, exists_eq_left', exists_eq_right, List.cons.injEq, List.set_cons_zero, List.set_cons_succ, reduceCtorEq, and_true, true_and, false_and, and_false, not_true_eq_false, not_false_eq_true, if_true, if_false, ite_true, ite_false, decide_eq_true_eq, Bool.not_eq_true', decide_eq_false_iff_not, Bool.and_true, Bool.true_and, Bool.and_false, Bool.false_and, Bool.not_true, Bool.not_false, Bool.false_eq_true, List.map_cons, List.map_nil, List.length_cons, List.length_nil, Nat.zero_add, Nat.reduceAdd, Nat.reduceLeDiff, startd, List.replicate_succ, List.replicate_zero, List.nil_append, List.cons_append, Nat.reduceSub, exists_const, and_self, shp_int, shp_none, shp_bool, eqv_int, dForL_nil, lcL_nil] at h ⊢
      exact h
  · exact h.elim
theorem len_is_within (svs : List SV) (R : RVd → Prop) (h : sp_is_within svs R) : svs.length = 3 := by
  unfold sp_is_within at h
  split at h
  · rfl
  · exact h.elim
/-! ### is_taker -/
def takerB : PyData → Bool
  | .tuple [.int e, b] => (decide (2 ≤ e) && decide (e ≤ 1000)) && withinB b 0 (e - 1)
  | _ => false
def sp_is_taker : DSp
  | [.dat d], R => R (.dat (.bool (takerB d)))
  | _, _ => False
/-- is_taker: 0 thing -/
abbrev b_is_taker : DS := (dSeq (dIfS (dOr (dNot (dTest (d1 (isiD "tuple") (dVar 0)))) (dOr (dTest (d2 neD (dCB lenD (nCons (dVar 0) nNil)) (dC (.int 2)))) (dNot (dTest (dCall sp_is_within (aDat (d2 ixD (dVar 0) (dC (.int 0))) (aDat (dC (.int 2)) (aDat (dC (.int 1000)) aNil)))))))) (dRet (dC (.bool false))) dNext)
  (dRet (dCall sp_is_within (aDat (d2 ixD (dVar 0) (dC (.int 1))) (aDat (dC (.int 0)) (aDat (d2 subD (d2 ixD (dVar 0) (dC (.int 0))) (dC (.int 1))) aNil))))))
theorem at0 {α : Type} {x : α} {r : List α} : atI (x :: r) 0 = some x := atI_nat (j := 0) rfl
theorem at1 {α : Type} {x y : α} {r : List α} : atI (x :: y :: r) 1 = some y := atI_nat (j := 1) rfl
theorem rd_is_taker (svs : List SV) (R : RVd → Prop) (h : sp_is_taker svs R) : b_is_taker { nx := fun _ => R (.dat .none), rt := R } (startd 1 svs) := by
  unfold sp_is_taker at h
  split at h
  · rename_i d
    simp only [b_is_taker, isi_tup, sp_is_within, dSeq, dAsgG, dAsgN, dRet, dRetN, dRetO, dRet0, dDrop, dIfS, dNext, dApp, dInsert, q_setI, q_setQ, q_take, dFor, dFreeze, dNever, q_par, q_parQ, q_par3, q_parQ3, dParNE, dParDE, gdName, q_gnil, q_gcons, q_gtup, dVar, dOwn, dC, d1, d2, n2, nCons, nNil, nLst, dTup, dFr, dTest, dAnd, dOr, dNot, dAndV, dOrV, dNotV, dIf, dChain, dCB, nCB, dCall, nCall, aDat, aBag, aNil, q_neg, q_add, q_addl, q_addt, q_sub, q_mul, q_mull, q_mult, q_fdiv, q_mod, q_pow, q_lt, q_le, q_gt, q_ge, eqD, neD, isD, isntD, q_isnn, q_isni, q_isnb, q_isnt, q_isnl, q_lenl, q_lent, q_inti, q_intb, q_max2, q_min2, q_listl, q_listt, q_tuplel, q_tuplet, q_sum, q_min, q_max, allD, itSeq, itR1, q_itR2, q_rng2, q_en, q_en1, q_zip, q_zipQ, q_seqr, q_lenr, q_ixr, q_seql, q_seqt, q_rvd, q_rvn, q_catn, q_ixl, q_ixt, q_sl, q_sll, q_slt, q_slr, nSlL, oNone, oSome, nLc, wipeD, q_dropc, q_dropxd, q_dropxb, q_dropxo, q_dropxn, q_drope, dYes, dCnt, q_revl, q_revt, q_revr, nListRg, dTupRg, exInts, exOpt, q_addr1, q_addrr, q_ixk0, q_ixk1, exRow, exTk, cntL, cntQ_some, cntQ_none, List.getElem?_cons_zero, List.getElem?_cons_succ, List.getElem?_nil, Option.some.injEq, SV.dat.injEq, SV.own.injEq, PyData.int.injEq, PyData.bool.injEq, PyData.tuple.injEq, PyData.list.injEq, PyData.str.injEq, RVd.new.injEq, RVd.dat.injEq, exists_eq_left, exists_eq_left', exists_eq_right, List.cons.injEq, List.set_cons_zero, List.set_cons_succ, reduceCtorEq, and_true, true_and, false_and, and_false, not_true_eq_false, not_false_eq_true, if_true, if_false, ite_true, ite_false, decide_eq_true_eq, Bool.not_eq_true', decide_eq_false_iff_not, Bool.and_true, Bool.true_and, Bool.and_false, Bool.false_and, Bool.not_true, Bool.not_false, Bool.false_eq_true, List.map_cons, List.map_nil, List.length_cons, List.length_nil, Nat.zero_add, Nat.reduceAdd, Nat.reduceLeDiff, startd, List.replicate_succ, List.replicate_zero, List.nil_append, List.cons_append, Nat.reduceSub, exists_const, and_self, shp_int, shp_none, shp_bool, eqv_int, dForL_nil, lcL_nil]
    cases d with
    | tuple ds =>
      simp only [isTupB, dSeq, dAsgG, dAsgN, dRet, dRetN, dRetO, dRet0, dDrop, dIfS, dNext, dApp, dInsert, q_setI, q_setQ, q_take, dFor, dFreeze, dNever, q_par, q_parQ, q_par3, q_parQ3, dParNE, dParDE, gdName, q_gnil, q_gcons, q_gtup, dVar, dOwn, dC, d1, d2, n2, nCons, nNil, nLst, dTup, dFr, dTest, dAnd, dOr, dNot, dAndV, dOrV, dNotV, dIf, dChain, dCB, nCB, dCall, nCall, aDat, aBag, aNil, q_neg, q_add, q_addl, q_addt, q_sub, q_mul, q_mull, q_mult, q_fdiv, q_mod, q_pow, q_lt, q_le, q_gt, q_ge, eqD, neD, isD, isntD, q_isnn, q_isni, q_isnb, q_isnt, q_isnl, q_lenl, q_lent, q_inti, q_intb, q_max2, q_min2, q_listl, q_listt, q_tuplel, q_tuplet, q_sum, q_min, q_max, allD, itSeq, itR1, q_itR2, q_rng2, q_en, q_en1, q_zip, q_zipQ, q_seqr, q_lenr, q_ixr, q_seql, q_seqt, q_rvd, q_rvn, q_catn, q_ixl, q_ixt, q_sl, q_sll, q_slt, q_slr, nSlL, oNone, oSome, nLc, wipeD, q_dropc, q_dropxd, q_dropxb, q_dropxo, q_dropxn, q_drope, dYes, dCnt, q_revl, q_revt, q_revr, nListRg, dTupRg, exInts, exOpt, q_addr1, q_addrr, q_ixk0, q_ixk1, exRow, exTk, cntL, cntQ_some, cntQ_none, List.getElem?_cons_zero, List.getElem?_cons_succ, List.getElem?_nil, Option.some.injEq, SV.dat.injEq, SV.own.injEq, PyData.int.injEq, PyData.bool.injEq, PyData.tuple.injEq, PyData.list.injEq, PyData.str.injEq, RVd.new.injEq, RVd.dat.injEq, exists_eq_left, exists_eq_left', exists_eq_right, List.cons.injEq, List.set_cons_zero, List.set_cons_succ, reduceCtorEq, and_true, true_and, false_and, and_false, not_true_eq_false, not_false_eq_true, if_true, if_false, ite_true, ite_false, decide_eq_true_eq, Bool.not_eq_true', decide_eq_false_iff_not, Bool.and_true, Bool.true_and, Bool.and_false, Bool.false_and, Bool.not_true, Bool.not_false, Bool.false_eq_true, List.map_cons, List.map_nil, List.length_cons, List.length_nil, Nat.zero_add, Nat.reduceAdd, Nat.reduceLeDiff, startd, List.replicate_succ, List.replicate_zero, List.nil_append, List.cons_append, Nat.reduceSub, exists_const, and_self, shp_int, shp_none, shp_bool, eqv_int, dForL_nil, lcL_nil]
      match ds, h with
      | [], h =>
        have e2 : ¬ ((0 : Nat) : Int) = 2 := by decide
        simp only [e2, not_false_eq_true, takerB, dSeq, dAsgG, dAsgN, dRet, dRetN, dRetO, dRet0, dDrop, dIfS, dNext, dApp, dInsert, q_setI, q_setQ, q_take, dFor, dFreeze, dNever, q_par, q_parQ, q_par3, q_parQ3, dParNE, dParDE, gdName, q_gnil, q_gcons, q_gtup, dVar, dOwn, dC, d1, d2, n2, nCons, nNil, nLst, dTup, dFr, dTest, dAnd, dOr, dNot, dAndV, dOrV, dNotV, dIf, dChain, dCB, nCB, dCall, nCall, aDat, aBag, aNil, q_neg, q_add, q_addl, q_addt, q_sub, q_mul, q_mull, q_mult, q_fdiv, q_mod, q_pow, q_lt, q_le, q_gt, q_ge, eqD, neD, isD, isntD, q_isnn, q_isni, q_isnb, q_isnt, q_isnl, q_lenl, q_lent, q_inti, q_intb, q_max2, q_min2, q_listl, q_listt, q_tuplel, q_tuplet, q_sum, q_min, q_max, allD, itSeq, itR1, q_itR2, q_rng2, q_en, q_en1, q_zip, q_zipQ, q_seqr, q_lenr, q_ixr, q_seql, q_seqt, q_rvd, q_rvn, q_catn, q_ixl, q_ixt, q_sl, q_sll, q_slt, q_slr, nSlL, oNone, oSome, nLc, wipeD, q_dropc, q_dropxd, q_dropxb, q_dropxo, q_dropxn, q_drope, dYes, dCnt, q_revl, q_revt, q_revr, nListRg, dTupRg, exInts, exOpt, q_addr1, q_addrr, q_ixk0, q_ixk1, exRow, exTk, cntL, cntQ_some, cntQ_none, List.getElem?_cons_zero, List.getElem?_cons_succ, List.getElem?_nil, Option.some.injEq, SV.dat.injEq, SV.own.injEq, PyData.int.injEq, PyData.bool.injEq, PyData.tuple.injEq, PyData.list.injEq, PyData.str.injEq, RVd.new.injEq, RVd.dat.injEq, exists_eq_left, exists_eq_left', exists_eq_right, List.cons.injEq, List.set_cons_zero, List.set_cons_succ, reduceCtorEq, and_true, true_and, false_and, and_false, not_true_eq_false, not_false_eq_true, if_true, if_false, ite_true, ite_false, decide_eq_true_eq, Bool.not_eq_true', decide_eq_false_iff_not, Bool.and_true, Bool.true_and, Bool.and_false, Bool.false_and, Bool.not_true, Bool.not_false, Bool.false_eq_true, List.map_cons, List.map_nil, List.length_cons, List.length_nil, Nat.zero_add, Nat.reduceAdd, Nat.reduceLeDiff, startd, List.replicate_succ, List.replicate_zero, List.nil_append, List.cons_append, Nat.reduceSub, exists_const, and_self, shp_int, shp_none, shp_bool, eqv_int, dForL_nil, lcL_nil] at h ⊢
        exact h
      | [a], h =>
        have e2 : ¬ ((1 : Nat) : Int) = 2 := by decide
        simp only [e2, not_false_eq_true, takerB, dSeq, dAsgG, dAsgN, dRet, dRetN, dRetO, dRet0, dDrop, dIfS, dNext, dApp, dInsert, q_setI, q_setQ, q_take, dFor, dFreeze, dNever, q_par, q_parQ, q_par3, q_parQ3, dParNE, dParDE, gdName, q_gnil, q_gcons, q_gtup, dVar, dOwn, dC, d1, d2, n2, nCons, nNil, nLst, dTup, dFr, dTest, dAnd, dOr, dNot, dAndV, dOrV, dNotV, dIf, dChain, dCB, nCB, dCall, nCall, aDat, aBag, aNil, q_neg, q_add, q_addl, q_addt, q_sub, q_mul, q_mull, q_mult, q_fdiv, q_mod, q_pow, q_lt, q_le, q_gt, q_ge, eqD, neD, isD, isntD, q_isnn, q_isni, q_isnb, q_isnt, q_isnl, q_lenl, q_lent, q_inti, q_intb, q_max2, q_min2, q_listl, q_listt, q_tuplel, q_tuplet, q_sum, q_min, q_max, allD, itSeq, itR1, q_itR2, q_rng2, q_en, q_en1, q_zip, q_zipQ, q_seqr, q_lenr, q_ixr, q_seql, q_seqt, q_rvd, q_rvn, q_catn, q_ixl, q_ixt, q_sl, q_sll, q_slt, q_slr, nSlL, oNone, oSome, nLc, wipeD, q_dropc, q_dropxd, q_dropxb, q_dropxo, q_dropxn, q_drope, dYes, dCnt, q_revl, q_revt, q_revr, nListRg, dTupRg, exInts, exOpt, q_addr1, q_addrr, q_ixk0, q_ixk1, exRow, exTk, cntL, cntQ_some, cntQ_none, List.getElem?_cons_zero, List.getElem?_cons_succ, List.getElem?_nil, Option.some.injEq, SV.dat.injEq, SV.own.injEq, PyData.int.injEq, PyData.bool.injEq, PyData.tuple.injEq, PyData.list.injEq, PyData.str.injEq, RVd.new.injEq, RVd.dat.injEq, exists_eq_left, exists_eq_left', exists_eq_right, List.cons.injEq, List.set_cons_zero, List.set_cons_succ, reduceCtorEq, and_true, true_and, false_and, and_false, not_true_eq_false, not_false_eq_true, if_true, if_false, ite_true, ite_false, decide_eq_true_eq, Bool.not_eq_true', decide_eq_false_iff_not, Bool.and_true, Bool.true_and, Bool.and_false, Bool.false_and, Bool.not_true, Bool.not_false, Bool.false_eq_true, List.map_cons, List.map_nil, List.length_cons, List.length_nil, Nat.zero_add, Nat.reduceAdd, Nat.reduceLeDiff, startd, List.replicate_succ, List.replicate_zero, List.nil_append, List.cons_append, Nat.reduceSub, exists_const, and_self, shp_int, shp_none, shp_bool, eqv_int, dForL_nil, lcL_nil] at h ⊢
        exact h
      | [a, b], h =>
        have e2 : ((2 : Nat) : Int) = 2 := rfl
        simp only [List.length_cons, List.length_nil, e2, at0, at1, not_true_eq_false, dSeq, dAsgG, dAsgN, dRet, dRetN, dRetO, dRet0, dDrop, dIfS, dNext, dApp, dInsert, q_setI, q_setQ, q_take, dFor, dFreeze, dNever, q_par, q_parQ, q_par3, q_parQ3, dParNE, dParDE, gdName, q_gnil, q_gcons, q_gtup, dVar, dOwn, dC, d1, d2, n2, nCons, nNil, nLst, dTup, dFr, dTest, dAnd, dOr, dNot, dAndV, dOrV, dNotV, dIf, dChain, dCB, nCB, dCall, nCall, aDat, aBag, aNil, q_neg, q_add, q_addl, q_addt, q_sub, q_mul, q_mull, q_mult, q_fdiv, q_mod, q_pow, q_lt, q_le, q_gt, q_ge, eqD, neD, isD, isntD, q_isnn, q_isni, q_isnb, q_isnt, q_isnl, q_lenl, q_lent, q_inti, q_intb, q_max2, q_min2, q_listl, q_listt, q_tuplel, q_tuplet, q_sum, q_min, q_max, allD, itSeq, itR1, q_itR2, q_rng2, q_en, q_en1, q_zip, q_zipQ, q_seqr, q_lenr, q_ixr, q_seql, q_seqt, q_rvd, q_rvn, q_catn, q_ixl, q_ixt, q_sl, q_sll, q_slt, q_slr, nSlL, oNone, oSome, nLc, wipeD, q_dropc, q_dropxd, q_dropxb, q_dropxo, q_dropxn, q_drope, dYes, dCnt, q_revl, q_revt, q_revr, nListRg, dTupRg, exInts, exOpt, q_addr1, q_addrr, q_ixk0, q_ixk1, exRow, exTk, cntL, cntQ_some, cntQ_none, List.getElem?_cons_zero, List.getElem?_cons_succ, List.getElem?_nil, Option.some.injEq, SV.dat.injEq, SV.own.injEq, PyData.int.injEq, PyData.bool.injEq, PyData.tuple.injEq, PyData.list.injEq, PyData.str.injEq, RVd.new.injEq, RVd.dat.injEq, exists_eq_left, exists_eq_left', exists_eq_right, List.cons.injEq, List.set_cons_zero, List.set_cons_succ, reduceCtorEq, and_true, true_and, false_and, and_false, not_true_eq_false, not_false_eq_true, if_true, if_false, ite_true, ite_false, decide_eq_true_eq, Bool.not_eq_true', decide_eq_false_iff_not, Bool.and_true, Bool.true_and, Bool.and_false, Bool.false_and, Bool.not_true, Bool.not_false, Bool.false_eq_true, List.map_cons, List.map_nil, List.length_cons, List.length_nil, Nat.zero_add, Nat.reduceAdd, Nat.reduceLeDiff, startd, List.replicate_succ, List.replicate_zero, List.nil_append, List.cons_append, Nat.reduceSub, exists_const, and_self, shp_int, shp_none, shp_bool, eqv_int, dForL_nil, lcL_nil]
        cases a with
        | int e =>
          simp only [takerB, withinB, at0, dSeq, dAsgG, dAsgN, dRet, dRetN, dRetO, dRet0, dDrop, dIfS, dNext, dApp, dInsert, q_setI, q_setQ, q_take, dFor, dFreeze, dNever, q_par, q_parQ, q_par3, q_parQ3, dParNE, dParDE, gdName, q_gnil, q_gcons, q_gtup, dVar, dOwn, dC, d1, d2, n2, nCons, nNil, nLst, dTup, dFr, dTest, dAnd, dOr, dNot, dAndV, dOrV, dNotV, dIf, dChain, dCB, nCB, dCall, nCall, aDat, aBag, aNil, q_neg, q_add, q_addl, q_addt, q_sub, q_mul, q_mull, q_mult, q_fdiv, q_mod, q_pow, q_lt, q_le, q_gt, q_ge, eqD, neD, isD, isntD, q_isnn, q_isni, q_isnb, q_isnt, q_isnl, q_lenl, q_lent, q_inti, q_intb, q_max2, q_min2, q_listl, q_listt, q_tuplel, q_tuplet, q_sum, q_min, q_max, allD, itSeq, itR1, q_itR2, q_rng2, q_en, q_en1, q_zip, q_zipQ, q_seqr, q_lenr, q_ixr, q_seql, q_seqt, q_rvd, q_rvn, q_catn, q_ixl, q_ixt, q_sl, q_sll, q_slt, q_slr, nSlL, oNone, oSome, nLc, wipeD, q_dropc, q_dropxd, q_dropxb, q_dropxo, q_dropxn, q_drope, dYes, dCnt, q_revl, q_revt, q_revr, nListRg, dTupRg, exInts, exOpt, q_addr1, q_addrr, q_ixk0, q_ixk1, exRow, exTk, cntL, cntQ_some, cntQ_none, List.getElem?_cons_zero, List.getElem?_cons_succ, List.getElem?_nil, Option.some.injEq, SV.dat.injEq, SV.own.injEq, PyData.int.injEq, PyData.bool.injEq, PyData.tuple.injEq, PyData.list.injEq, PyData.str.injEq, RVd.new.injEq, RVd.dat.injEq, exists_eq_left, exists_eq_left', exists_eq_right, List.cons.injEq, List.set_cons_zero, List.set_cons_succ, reduceCtorEq, and_true, true_and, false_and, and_false, not_true_eq_false, not_false_eq_true, if_true, if_false, ite_true, ite_false, decide_eq_true_eq, Bool.not_eq_true', decide_eq_false_iff_not, Bool.and_true, Bool.true_and, Bool.and_false, Bool.false_and, Bool.not_true, Bool.not_false, Bool.false_eq_true, List.map_cons, List.map_nil, List.length_cons, List.length_nil, Nat.zero_add, Nat.reduceAdd, Nat.reduceLeDiff, startd, List.replicate_succ, List.replicate_zero, List.nil_append, List.cons_append, Nat.reduceSub, exists_const, and_self, shp_int, shp_none, shp_bool, eqv_int, dForL_nil, lcL_nil] at h ⊢
          by_cases h1 : 2 ≤ e
          · by_cases h2 : e ≤ 1000
            · simp only [h1, h2, decide_true, dSeq, dAsgG, dAsgN, dRet, dRetN, dRetO, dRet0, dDrop, dIfS, dNext, dApp, dInsert, q_setI, q_setQ, q_take, dFor, dFreeze, dNever, q_par, q_parQ, q_par3, q_parQ3, dParNE, dParDE, gdName, q_gnil, q_gcons, q_gtup, dVar, dOwn, dC, d1, d2, n2, nCons, nNil, nLst, dTup, dFr, dTest, dAnd, dOr, dNot, dAndV, dOrV, dNotV, dIf, dChain, dCB, nCB, dCall, nCall, aDat, aBag, aNil, q_neg, q_add, q_addl, q_addt, q_sub, q_mul, q_mull, q_mult, q_fdiv, q_mod, q_pow, q_lt, q_le, q_gt, q_ge, eqD, neD, isD, isntD, q_isnn, q_isni, q_isnb, q_isnt, q_isnl, q_lenl, q_lent, q_inti, q_intb, q_max2, q_min2, q_listl, q_listt, q_tuplel, q_tuplet, q_sum, q_min, q_max, allD, itSeq, itR1, q_itR2, q_rng2, q_en, q_en1, q_zip, q_zipQ, q_seqr, q_lenr, q_ixr, q_seql, q_seqt, q_rvd, q_rvn, q_catn, q_ixl, q_ixt, q_sl, q_sll, q_slt, q_slr, nSlL, oNone, oSome, nLc, wipeD, q_dropc, q_dropxd, q_dropxb, q_dropxo, q_dropxn, q_drope, dYes, dCnt, q_revl, q_revt, q_revr, nListRg, dTupRg, exInts, exOpt, q_addr1, q_addrr, q_ixk0, q_ixk1, exRow, exTk, cntL, cntQ_some, cntQ_none, List.getElem?_cons_zero, List.getElem?_cons_succ, List.getElem?_nil, Option.some.injEq, SV.dat.injEq, SV.own.injEq, PyData.int.injEq, PyData.bool.injEq, PyData.tuple.injEq, PyData.list.injEq, PyData.str.injEq, RVd.new.injEq, RVd.dat.injEq, exists_eq_left, exists_eq_left', exists_eq_right, List.cons.injEq, List.set_cons_zero, List.set_cons_succ, reduceCtorEq, and_true, true_and, false_and, and_false, not_true_eq_false, not_false_eq_true, if_true, if_false, ite_true, ite_false, decide_eq_true_eq, Bool.not_eq_true', decide_eq_false_iff_not, Bool.and_true, Bool.true_and, Bool.and_false, Bool.false_and, Bool.not_true, Bool.not_false, Bool.false_eq_true, List.map_cons, List.map_nil, List.length_cons, List.length_nil, Nat.zero_add, Nat.reduceAdd, Nat.reduceLeDiff, startd, List.replicate_succ, List.replicate_zero, List.nil_append, List.cons_append, Nat.reduceSub, exists_const, and_self, shp_int, shp_none, shp_bool, eqv_int, dForL_nil, lcL_nil] at h ⊢
              exact h
            · simp only [h1, h2, decide_true, decide_false, dSeq, dAsgG, dAsgN, dRet, dRetN, dRetO, dRet0, dDrop, dIfS, dNext, dApp, dInsert, q_setI, q_setQ, q_take, dFor, dFreeze, dNever, q_par, q_parQ, q_par3, q_parQ3, dParNE, dParDE, gdName, q_gnil, q_gcons, q_gtup, dVar, dOwn, dC, d1, d2, n2, nCons, nNil, nLst, dTup, dFr, dTest, dAnd, dOr, dNot, dAndV, dOrV, dNotV, dIf, dChain, dCB, nCB, dCall, nCall, aDat, aBag, aNil, q_neg, q_add, q_addl, q_addt, q_sub, q_mul, q_mull, q_mult, q_fdiv, q_mod, q_pow, q_lt, q_le, q_gt, q_ge, eqD, neD, isD, isntD, q_isnn, q_isni, q_isnb, q_isnt, q_isnl, q_lenl, q_lent, q_inti, q_intb, q_max2, q_min2, q_listl, q_listt, q_tuplel, q_tuplet, q_sum, q_min, q_max, allD, itSeq, itR1, q_itR2, q_rng2, q_en, q_en1, q_zip, q_zipQ, q_seqr, q_lenr, q_ixr, q_seql, q_seqt, q_rvd, q_rvn, q_catn, q_ixl, q_ixt, q_sl, q_sll, q_slt, q_slr, nSlL, oNone, oSome, nLc, wipeD, q_dropc, q_dropxd, q_dropxb, q_dropxo, q_dropxn, q_drope, dYes, dCnt, q_revl, q_revt, q_revr, nListRg, dTupRg, exInts, exOpt, q_addr1, q_addrr, q_ixk0, q_ixk1, exRow, exTk, cntL, cntQ_some, cntQ_none, List.getElem?_cons_zero, List.getElem?_cons_succ, List.getElem?_nil, Option.some.injEq, SV.dat.injEq, SV.own.injEq, PyData.int.injEq, PyData.bool.injEq, PyData.tuple.injEq, PyData.list.injEq, PyData.str.injEq, RVd.new.injEq, RVd.dat.injEq, exists_eq_left, exists_eq_left', exists_eq_right, List.cons.injEq, List.set_cons_zero, List.set_cons_succ, reduceCtorEq, and_true, true_and, false_and, and_false, not_true_eq_false, not_false_eq_true, if_true, if_false, ite_true, ite_false, decide_eq_true_eq, Bool.not_eq_true', decide_eq_false_iff_not, Bool.and_true, Bool.true_and, Bool.and_false, Bool.false_and, Bool.not_true, Bool.not_false, Bool.false_eq_true, List.map_cons, List.map_nil, List.length_cons, List.length_nil, Nat.zero_add, Nat.reduceAdd, Nat.reduceLeDiff, startd, List.replicate_succ, List.replicate_zero, List.nil_append, List.cons_append, Nat.reduceSub, exists_const, and_self, shp_int, shp_none, shp_bool, eqv_int, dForL_nil, lcL_nil] at h ⊢
              exact h
          · simp only [h1, decide_false, dSeq, dAsgG, dAsgN, dRet, dRetN, dRetO, dRet0, dDrop, dIfS, dNext, dApp, dInsert, q_setI, q_setQ, q_take, dFor, dFreeze, dNever, q_par, q_parQ, q_par3, q_parQ3, dParNE, dParDE, gdName, q_gnil, q_gcons, q_gtup, dVar, dOwn, dC, d1, d2, n2, nCons, nNil, nLst, dTup, dFr, dTest, dAnd, dOr, dNot, dAndV, dOrV, dNotV, dIf, dChain, dCB, nCB, dCall, nCall, aDat, aBag, aNil, q_neg, q_add, q_addl, q_addt, q_sub, q_mul, q_mull, q_mult, q_fdiv, q_mod, q_pow, q_lt, q_le, q_gt, q_ge, eqD, neD, isD, isntD, q_isnn, q_isni, q_isnb, q_isnt, q_isnl, q_lenl, q_lent, q_inti, q_intb, q_max2, q_min2, q_listl, q_listt, q_tuplel, q_tuplet, q_sum, q_min, q_max, allD, itSeq, itR1, q_itR2, q_rng2, q_en, q_en1, q_zip, q_zipQ, q_seqr, q_lenr, q_ixr, q_seql, q_seqt, q_rvd, q_rvn, q_catn, q_ixl, q_ixt, q_sl, q_sll, q_slt, q_slr, nSlL, oNone, oSome, nLc, wipeD, q_dropc, q_dropxd, q_dropxb, q_dropxo, q_dropxn, q_drope, dYes, dCnt, q_revl, q_revt, q_revr, nListRg, dTupRg, exInts, exOpt, q_addr1, q_addrr, q_ixk0, q_ixk1, exRow, exTk, cntL, cntQ_some, cntQ_none, List.getElem?_cons_zero, List.getElem?_cons_succ, List.getElem?_nil, Option.some.injEq, SV.dat.injEq, SV.own.injEq, PyData.int.injEq, PyData.bool.injEq, PyData.tuple.injEq, PyData.list.injEq, PyData.str.injEq, RVd.new.injEq, RVd.dat.injEq, exists_eq_left, exists_eq_left', exists_eq_right, List.cons.injEq, List.set_cons_zero, List.set_cons_succ, reduceCtorEq, and_true, true_and, false_and, and_false, not_true_eq_false, not_false_eq_true, if_true, if_false, ite_true, ite_false, decide_eq_true_eq, Bool.not_eq_true', decide_eq_false_iff_not, Bool.and_true, Bool.true_and, Bool.and_false, Bool.false_and, Bool.not_true, Bool.not_false, Bool.false_eq_true, List.map_cons, List.map_nil, List.length_cons, List.length_nil, Nat.zero_add, Nat.reduceAdd, Nat.reduceLeDiff, startd, List.replicate_succ, List.replicate_zero, List.nil_append, List.cons_append, Nat.reduceSub, exists_const, and_self, shp_int, shp_none, shp_bool, eqv_int, dForL_nil, lcL_nil] at h ⊢
            exact h
        | _ =>
          simp only [takerB, withinB, dSeq, dAsgG, dAsgN, dRet, dRetN, dRetO, dRet0, dDrop, dIfS, dNext, dApp, dInsert, q_setI, q_setQ, q_take, dFor, dFreeze, dNever, q_par, q_parQ, q_par3, q_parQ3, dParNE, dParDE, gdName, q_gnil, q_gcons, q_gtup, dVar, dOwn, dC, d1, d2, n2, nCons, nNil, nLst, dTup, dFr, dTest, dAnd, dOr, dNot, dAndV, dOrV, dNotV, dIf, dChain, dCB, nCB, dCall, nCall, aDat, aBag, aNil, q_neg, q_add, q_addl, q_addt, q_sub, q_mul, q_mull, q_mult, q_fdiv, q_mod, q_pow, q_lt, q_le, q_gt, q_ge, eqD, neD, isD, isntD, q_isnn, q_isni, q_isnb, q_isnt, q_isnl, q_lenl, q_lent, q_inti, q_intb, q_max2, q_min2, q_listl, q_listt, q_tuplel, q_tuplet, q_sum, q_min, q_max, allD, itSeq, itR1, q_itR2, q_rng2, q_en, q_en1, q_zip, q_zipQ, q_seqr, q_lenr, q_ixr, q_seql, q_seqt, q_rvd, q_rvn, q_catn, q_ixl, q_ixt, q_sl, q_sll, q_slt, q_slr, nSlL, oNone, oSome, nLc, wipeD, q_dropc, q_dropxd, q_dropxb, q_dropxo, q_dropxn, q_drope, dYes, dCnt, q_revl, q_revt, q_revr, nListRg, dTupRg, exInts, exOpt, q_addr1, q_addrr, q_ixk0, q_ixk1, exRow, exTk, cntL, cntQ_some, cntQ_none, List.getElem?_cons_zero, List.getElem?_cons_succ, List.getElem?_nil, Option.some.injEq, SV.dat.injEq, SV.own.injEq, PyData.int.injEq, PyData.bool.injEq, PyData.tuple.injEq, PyData.list.injEq, PyData.str.injEq, RVd.new.injEq, RVd.dat.injEq, exists_eq_left, exists_eq_left', exists_eq_right, List.cons.injEq, List.set_cons_zero, List.set_cons_succ, reduceCtorEq, and_true, true_and, false_and, and_false, not_true_eq_false, not_false_eq_true, if_true, if_false, ite_true, ite_false, decide_eq_true_eq, Bool.not_eq_true', decide_eq_false_iff_not, Bool.and_true, Bool.true_and, Bool.and_false, Bool.false_and, Bool.not_true, Bool.not_false, Bool.false_eq_true, List.map_cons, List.map_nil, List.length_cons, List.length_nil, Nat.zero_add, Nat.reduceAdd, Nat.reduceLeDiff, startd, List.replicate_succ, List.replicate_zero, List.nil_append, List.cons_append, Nat.reduceSub, exists_const, and_self, shp_int, shp_none, shp_bool, eqv_int, dForL_nil, lcL_nil] at h ⊢
          exact h
      | a :: b :: c :: r, h =>
        have e2 : ¬ ((r.length + 1 + 1 + 1 : Nat) : Int) = 2 := by omega
        simp only [List.length_cons, e2, not_false_eq_true, takerB, dSeq, dAsgG, dAsgN, dRet, dRetN, dRetO, dRet0, dDrop, dIfS, dNext, dApp, dInsert, q_setI, q_setQ, q_take, dFor, dFreeze, dNever, q_par, q_parQ, q_par3, q_parQ3, dParNE, dParDE, gdName, q_gnil, q_gcons, q_gtup, dVar, dOwn, dC, d1, d2, n2, nCons, nNil, nLst, dTup, dFr, dTest, dAnd, dOr, dNot, dAndV, dOrV, dNotV, dIf, dChain, dCB, nCB, dCall, nCall, aDat, aBag, aNil, q_neg, q_add, q_addl, q_addt, q_sub, q_mul, q_mull, q_mult, q_fdiv, q_mod, q_pow, q_lt, q_le, q_gt, q_ge, eqD, neD, isD, isntD, q_isnn, q_isni, q_isnb, q_isnt, q_isnl, q_lenl, q_lent, q_inti, q_intb, q_max2, q_min2, q_listl, q_listt, q_tuplel, q_tuplet, q_sum, q_min, q_max, allD, itSeq, itR1, q_itR2, q_rng2, q_en, q_en1, q_zip, q_zipQ, q_seqr, q_lenr, q_ixr, q_seql, q_seqt, q_rvd, q_rvn, q_catn, q_ixl, q_ixt, q_sl, q_sll, q_slt, q_slr, nSlL, oNone, oSome, nLc, wipeD, q_dropc, q_dropxd, q_dropxb, q_dropxo, q_dropxn, q_drope, dYes, dCnt, q_revl, q_revt, q_revr, nListRg, dTupRg, exInts, exOpt, q_addr1, q_addrr, q_ixk0, q_ixk1, exRow, exTk, cntL, cntQ_some, cntQ_none, List.getElem?_cons_zero, List.getElem?_cons_succ, List.getElem?_nil, Option.some.injEq, SV.dat.injEq, SV.own.injEq, PyData.int.injEq, PyData.bool.injEq, PyData.tuple.injEq, PyData.list.injEq, PyData.str.injEq, RVd.new.injEq, RVd.dat.injEq, exists_eq_left, exists_eq_left', exists_eq_right, List.cons.injEq, List.set_cons_zero, List.set_cons_succ, reduceCtorEq, and_true, true_and, false_and, and_false, not_true_eq_false, not_false_eq_true, if_true, if_false, ite_true, ite_false, decide_eq_true_eq, Bool.not_eq_true', decide_eq_false_iff_not, Bool.and_true, Bool.true_and, Bool.and_false, Bool.false_and, Bool.not_true, Bool.not_false, Bool.false_eq_true, List.map_cons, List.map_nil, List.length_cons, List.length_nil, Nat.zero_add, Nat.reduceAdd, Nat.reduceLeDiff, startd, List.replicate_succ, List.replicate_zero, List.nil_append, List.cons_append, Nat.reduceSub, exists_const, and_self, shp_int, shp_none, shp_bool, eqv_int, dForL_nil, lcL_nil] at h ⊢
        exact h
    | _ =>
      simp only [isTupB, takerB, dSeq, dAsgG, dAsgN, dRet, dRetN, dRetO, dRet0, dDrop, dIfS, dNext, dApp, dInsert, q_setI, q_setQ, q_take, dFor, dFreeze, dNever, q_par, q_parQ, q_par3, q_parQ3, dParNE, dParDE, gdName, q_gnil, q_gcons, q_gtup, dVar, dOwn, dC, d1, d2, n2, nCons, nNil, nLst, dTup, dFr, dTest, dAnd, dOr, dNot, dAndV, dOrV, dNotV, dIf, dChain, dCB, nCB, dCall, nCall, aDat, aBag, aNil, q_neg, q_add, q_addl, q_addt, q_sub, q_mul, q_mull, q_mult, q_fdiv, q_mod, q_pow, q_lt, q_le, q_gt, q_ge, eqD, neD, isD, isntD, q_isnn, q_isni, q_isnb, q_isnt, q_isnl, q_lenl, q_lent, q_inti, q_intb, q_max2, q_min2, q_listl, q_listt, q_tuplel, q_tuplet, q_sum, q_min, q_max, allD, itSeq, itR1, q_itR2, q_rng2, q_en, q_en1, q_zip, q_zipQ, q_seqr, q_lenr, q_ixr, q_seql, q_seqt, q_rvd, q_rvn, q_catn, q_ixl, q_ixt, q_sl, q_sll, q_slt, q_slr, nSlL, oNone, oSome, nLc, wipeD, q_dropc, q_dropxd, q_dropxb, q_dropxo, q_dropxn, q_drope, dYes, dCnt, q_revl, q_revt, q_revr, nListRg, dTupRg, exInts, exOpt, q_addr1, q_addrr, q_ixk0, q_ixk1, exRow, exTk, cntL, cntQ_some, cntQ_none, List.getElem?_cons_zero, List.getElem?_cons_succ, List.getElem?_nil, Option.some.injEq, SV.dat.injEq, SV.own.injEq, PyData.int.injEq, PyData.bool.injEq, PyData.tuple.injEq, PyData.list.injEq, PyData.str.injEq, RVd.new.injEq, RVd.dat.injEq, exists_eq_left, exists_eq_left', exists_eq_right, List.cons.injEq, List.set_cons_zero, List.set_cons_succ, reduceCtorEq, and_true, true_and, false_and, and_false, not_true_eq_false, not_false_eq_true, if_true, if_false, ite_true, ite_false, decide_eq_true_eq, Bool.not_eq_true', decide_eq_false_iff_not, Bool.and_true, Bool.true_and, Bool.and_false, Bool.false_and, Bool.not_true, Bool.not_false, Bool.false_eq_true, List.map_cons, List.map_nil, List.length_cons, List.length_nil, Nat.zero_add, Nat.reduceAdd, Nat.reduceLeDiff, startd, List.replicate_succ, List.replicate_zero, List.nil_append, List.cons_append, Nat.reduceSub, exists_const, and_self, shp_int, shp_none, shp_bool, eqv_int, dForL_nil, lcL_nil] at h ⊢
      exact h
  · exact h.elim
theorem len_is_taker (svs : List SV) (R : RVd → Prop) (h : sp_is_taker svs R) : svs.length = 1 := by
  unfold sp_is_taker at h
  split at h
  · rfl
  · exact h.elim
/-! ### is_row -/
def rowB : PyData → Bool
  | .tuple ds => decide (ds.length ≤ 8) && ds.all takerB
  | _ => false
def sp_is_row : DSp
  | [.dat d], R => R (.dat (.bool (rowB d)))
  | _, _ => False
/-- is_row: 0 thing, 1 one -/
abbrev b_is_row : DS := (dRet (dAndV (d1 (isiD "tuple") (dVar 0)) (dAndV (d2 leD (dCB lenD (nCons (dVar 0) nNil)) (dC (.int 8))) (dCB allD (nCons (dFr (nLc (itSeq (dVar 0)) (gdName 1) dYes (dCall sp_is_taker (aDat (dVar 1) aNil)) [1])) nNil)))))
/-- a comprehension whose element is a function of the item -/
theorem lcL_map {g : DG} {te : DE} {env : Denv} {f : PyData → PyData} (hg : ∀ d Q, (g d env fun env' => te env' Q) = Q (f d)) : ∀ (ds : List PyData) (Q : List PyData → Prop), lcL g dYes te env ds Q = Q (ds.map f)
  | [], Q => rfl
  | d :: ds, Q => by
    show (g d env fun env' => te env' fun y => lcL g dYes te env ds fun ys => Q (y :: ys)) = _
    rw [hg d]
    exact lcL_map hg ds fun ys => Q (f d :: ys)
theorem rd_is_row (svs : List SV) (R : RVd → Prop) (h : sp_is_row svs R) : b_is_row { nx := fun _ => R (.dat .none), rt := R } (startd 2 svs) := by
  unfold sp_is_row at h
  split at h
  · rename_i d
    simp only [b_is_row, isi_tup, dSeq, dAsgG, dAsgN, dRet, dRetN, dRetO, dRet0, dDrop, dIfS, dNext, dApp, dInsert, q_setI, q_setQ, q_take, dFor, dFreeze, dNever, q_par, q_parQ, q_par3, q_parQ3, dParNE, dParDE, gdName, q_gnil, q_gcons, q_gtup, dVar, dOwn, dC, d1, d2, n2, nCons, nNil, nLst, dTup, dFr, dTest, dAnd, dOr, dNot, dAndV, dOrV, dNotV, dIf, dChain, dCB, nCB, dCall, nCall, aDat, aBag, aNil, q_neg, q_add, q_addl, q_addt, q_sub, q_mul, q_mull, q_mult, q_fdiv, q_mod, q_pow, q_lt, q_le, q_gt, q_ge, eqD, neD, isD, isntD, q_isnn, q_isni, q_isnb, q_isnt, q_isnl, q_lenl, q_lent, q_inti, q_intb, q_max2, q_min2, q_listl, q_listt, q_tuplel, q_tuplet, q_sum, q_min, q_max, allD, itSeq, itR1, q_itR2, q_rng2, q_en, q_en1, q_zip, q_zipQ, q_seqr, q_lenr, q_ixr, q_seql, q_seqt, q_rvd, q_rvn, q_catn, q_ixl, q_ixt, q_sl, q_sll, q_slt, q_slr, nSlL, oNone, oSome, nLc, wipeD, q_dropc, q_dropxd, q_dropxb, q_dropxo, q_dropxn, q_drope, dYes, dCnt, q_revl, q_revt, q_revr, nListRg, dTupRg, exInts, exOpt, q_addr1, q_addrr, q_ixk0, q_ixk1, exRow, exTk, cntL, cntQ_some, cntQ_none, List.getElem?_cons_zero, List.getElem?_cons_succ, List.getElem?_nil, Option.some.injEq, SV.dat.injEq, SV.own.injEq, PyData.int.injEq, PyData.bool.injEq, PyData.tuple.injEq, PyData.list.injEq, PyData.str.injEq, RVd.new.injEq, RVd.dat.injEq, exists_eq_left, exists_eq_left', exists_eq_right, List.cons.injEq, List.set_cons_zero, List.set_cons_succ, reduceCtorEq, and_true, true_and, false_and, and_false, not_true_eq_false, not_false_eq_true, if_true, if_false, ite_true, ite_false, decide_eq_true_eq, Bool.not_eq_true', decide_eq_false_iff_not, Bool.and_true, Bool.true_and, Bool.and_false, Bool.false_and, Bool.not_true, Bool.not_false, Bool.false_eq_true, List.map_cons, List.map_nil, List.length_cons, List.length_nil, Nat.zero_add, Nat.reduceAdd, Nat.reduceLeDiff, startd, List.replicate_succ, List.replicate_zero, List.nil_append, List.cons_append, Nat.reduceSub, exists_const, and_self, shp_int, shp_none, shp_bool, eqv_int, dForL_nil, lcL_nil]
    cases d with
    | tuple ds =>
      simp only [isTupB, rowB, dSeq, dAsgG, dAsgN, dRet, dRetN, dRetO, dRet0, dDrop, dIfS, dNext, dApp, dInsert, q_setI, q_setQ, q_take, dFor, dFreeze, dNever, q_par, q_parQ, q_par3, q_parQ3, dParNE, dParDE, gdName, q_gnil, q_gcons, q_gtup, dVar, dOwn, dC, d1, d2, n2, nCons, nNil, nLst, dTup, dFr, dTest, dAnd, dOr, dNot, dAndV, dOrV, dNotV, dIf, dChain, dCB, nCB, dCall, nCall, aDat, aBag, aNil, q_neg, q_add, q_addl, q_addt, q_sub, q_mul, q_mull, q_mult, q_fdiv, q_mod, q_pow, q_lt, q_le, q_gt, q_ge, eqD, neD, isD, isntD, q_isnn, q_isni, q_isnb, q_isnt, q_isnl, q_lenl, q_lent, q_inti, q_intb, q_max2, q_min2, q_listl, q_listt, q_tuplel, q_tuplet, q_sum, q_min, q_max, allD, itSeq, itR1, q_itR2, q_rng2, q_en, q_en1, q_zip, q_zipQ, q_seqr, q_lenr, q_ixr, q_seql, q_seqt, q_rvd, q_rvn, q_catn, q_ixl, q_ixt, q_sl, q_sll, q_slt, q_slr, nSlL, oNone, oSome, nLc, wipeD, q_dropc, q_dropxd, q_dropxb, q_dropxo, q_dropxn, q_drope, dYes, dCnt, q_revl, q_revt, q_revr, nListRg, dTupRg, exInts, exOpt, q_addr1, q_addrr, q_ixk0, q_ixk1, exRow, exTk, cntL, cntQ_some, cntQ_none, List.getElem?_cons_zero, List.getElem?_cons_succ, List.getElem?_nil, Option.some.injEq, SV.dat.injEq, SV.own.injEq, PyData.int.injEq, PyData.bool.injEq, PyData.tuple.injEq, PyData.list.injEq, PyData.str.injEq, RVd.new.injEq, RVd.dat.injEq, exists_eq_left, exists_eq_left', exists_eq_right, List.cons.injEq, List.set_cons_zero, List.set_cons_succ, reduceCtorEq, and_true, true_and, false_and, and_false, not_true_eq_false, not_false_eq_true, if_true, if_false, ite_true, ite_false, decide_eq_true_eq, Bool.not_eq_true', decide_eq_false_iff_not, Bool.and_true, Bool.true_and, Bool.and_false, Bool.false_and, Bool.not_true, Bool.not_false, Bool.false_eq_true, List.map_cons, List.map_nil, List.length_cons, List.length_nil, Nat.zero_add, Nat.reduceAdd, Nat.reduceLeDiff, startd, List.replicate_succ, List.replicate_zero, List.nil_append, List.cons_append, Nat.reduceSub, exists_const, and_self, shp_int, shp_none, shp_bool, eqv_int, dForL_nil, lcL_nil] at h ⊢
      by_cases h8 : ds.length ≤ 8
      · have h8' : (ds.length : Int) ≤ 8 := by omega
        simp only [h8, h8', decide_true, dSeq, dAsgG, dAsgN, dRet, dRetN, dRetO, dRet0, dDrop, dIfS, dNext, dApp, dInsert, q_setI, q_setQ, q_take, dFor, dFreeze, dNever, q_par, q_parQ, q_par3, q_parQ3, dParNE, dParDE, gdName, q_gnil, q_gcons, q_gtup, dVar, dOwn, dC, d1, d2, n2, nCons, nNil, nLst, dTup, dFr, dTest, dAnd, dOr, dNot, dAndV, dOrV, dNotV, dIf, dChain, dCB, nCB, dCall, nCall, aDat, aBag, aNil, q_neg, q_add, q_addl, q_addt, q_sub, q_mul, q_mull, q_mult, q_fdiv, q_mod, q_pow, q_lt, q_le, q_gt, q_ge, eqD, neD, isD, isntD, q_isnn, q_isni, q_isnb, q_isnt, q_isnl, q_lenl, q_lent, q_inti, q_intb, q_max2, q_min2, q_listl, q_listt, q_tuplel, q_tuplet, q_sum, q_min, q_max, allD, itSeq, itR1, q_itR2, q_rng2, q_en, q_en1, q_zip, q_zipQ, q_seqr, q_lenr, q_ixr, q_seql, q_seqt, q_rvd, q_rvn, q_catn, q_ixl, q_ixt, q_sl, q_sll, q_slt, q_slr, nSlL, oNone, oSome, nLc, wipeD, q_dropc, q_dropxd, q_dropxb, q_dropxo, q_dropxn, q_drope, dYes, dCnt, q_revl, q_revt, q_revr, nListRg, dTupRg, exInts, exOpt, q_addr1, q_addrr, q_ixk0, q_ixk1, exRow, exTk, cntL, cntQ_some, cntQ_none, List.getElem?_cons_zero, List.getElem?_cons_succ, List.getElem?_nil, Option.some.injEq, SV.dat.injEq, SV.own.injEq, PyData.int.injEq, PyData.bool.injEq, PyData.tuple.injEq, PyData.list.injEq, PyData.str.injEq, RVd.new.injEq, RVd.dat.injEq, exists_eq_left, exists_eq_left', exists_eq_right, List.cons.injEq, List.set_cons_zero, List.set_cons_succ, reduceCtorEq, and_true, true_and, false_and, and_false, not_true_eq_false, not_false_eq_true, if_true, if_false, ite_true, ite_false, decide_eq_true_eq, Bool.not_eq_true', decide_eq_false_iff_not, Bool.and_true, Bool.true_and, Bool.and_false, Bool.false_and, Bool.not_true, Bool.not_false, Bool.false_eq_true, List.map_cons, List.map_nil, List.length_cons, List.length_nil, Nat.zero_add, Nat.reduceAdd, Nat.reduceLeDiff, startd, List.replicate_succ, List.replicate_zero, List.nil_append, List.cons_append, Nat.reduceSub, exists_const, and_self, shp_int, shp_none, shp_bool, eqv_int, dForL_nil, lcL_nil] at h ⊢
        refine ⟨by omega, ?_⟩
        rw [lcL_map (f := fun d => .bool (takerB d)) (fun d Q => by simp only [sp_is_taker, dSeq, dAsgG, dAsgN, dRet, dRetN, dRetO, dRet0, dDrop, dIfS, dNext, dApp, dInsert, q_setI, q_setQ, q_take, dFor, dFreeze, dNever, q_par, q_parQ, q_par3, q_parQ3, dParNE, dParDE, gdName, q_gnil, q_gcons, q_gtup, dVar, dOwn, dC, d1, d2, n2, nCons, nNil, nLst, dTup, dFr, dTest, dAnd, dOr, dNot, dAndV, dOrV, dNotV, dIf, dChain, dCB, nCB, dCall, nCall, aDat, aBag, aNil, q_neg, q_add, q_addl, q_addt, q_sub, q_mul, q_mull, q_mult, q_fdiv, q_mod, q_pow, q_lt, q_le, q_gt, q_ge, eqD, neD, isD, isntD, q_isnn, q_isni, q_isnb, q_isnt, q_isnl, q_lenl, q_lent, q_inti, q_intb, q_max2, q_min2, q_listl, q_listt, q_tuplel, q_tuplet, q_sum, q_min, q_max, allD, itSeq, itR1, q_itR2, q_rng2, q_en, q_en1, q_zip, q_zipQ, q_seqr, q_lenr, q_ixr, q_seql, q_seqt, q_rvd, q_rvn, q_catn, q_ixl, q_ixt, q_sl, q_sll, q_slt, q_slr, nSlL, oNone, oSome, nLc, wipeD, q_dropc, q_dropxd, q_dropxb, q_dropxo, q_dropxn, q_drope, dYes, dCnt, q_revl, q_revt, q_revr, nListRg, dTupRg, exInts, exOpt, q_addr1, q_addrr, q_ixk0, q_ixk1, exRow, exTk, cntL, cntQ_some, cntQ_none, List.getElem?_cons_zero, List.getElem?_cons_succ, List.getElem?_nil, Option.some.injEq, SV.dat.injEq, SV.own.injEq, PyData.int.injEq, PyData.bool.injEq, PyData.tuple.injEq, PyData.list.injEq, PyData.str.injEq, RVd.new.injEq, RVd.dat.injEq, exists_eq_left, exists_eq_left', exists_eq_right, List.cons.injEq, List.set_cons_zero, List.set_cons_succ, reduceCtorEq, and_true, true_and, false_and, and_false, not_true_eq_false, not_false_eq_true, if_true, if_false, ite_true, ite_false, decide_eq_true_eq, Bool.not_eq_true', decide_eq_false_iff_not, Bool.and_true, Bool.true_and, Bool.and_false, Bool.false_and, Bool.not_true, Bool.not_false, Bool.false_eq_true, List.map_cons, List.map_nil, List.length_cons, List.length_nil, Nat.zero_add, Nat.reduceAdd, Nat.reduceLeDiff, startd, List.replicate_succ, List.replicate_zero, List.nil_append, List.cons_append, Nat.reduceSub, exists_const, and_self, shp_int, shp_none, shp_bool, eqv_int, dForL_nil, lcL_nil])]
        refine ⟨ds.map takerB, ?_, ?_⟩
        · rw [List.map_map]
          rfl
        · rw [List.all_map]
          exact h
      · have h8' : ¬ (ds.length : Int) ≤ 8 := by omega
        simp only [h8, h8', decide_false, dSeq, dAsgG, dAsgN, dRet, dRetN, dRetO, dRet0, dDrop, dIfS, dNext, dApp, dInsert, q_setI, q_setQ, q_take, dFor, dFreeze, dNever, q_par, q_parQ, q_par3, q_parQ3, dParNE, dParDE, gdName, q_gnil, q_gcons, q_gtup, dVar, dOwn, dC, d1, d2, n2, nCons, nNil, nLst, dTup, dFr, dTest, dAnd, dOr, dNot, dAndV, dOrV, dNotV, dIf, dChain, dCB, nCB, dCall, nCall, aDat, aBag, aNil, q_neg, q_add, q_addl, q_addt, q_sub, q_mul, q_mull, q_mult, q_fdiv, q_mod, q_pow, q_lt, q_le, q_gt, q_ge, eqD, neD, isD, isntD, q_isnn, q_isni, q_isnb, q_isnt, q_isnl, q_lenl, q_lent, q_inti, q_intb, q_max2, q_min2, q_listl, q_listt, q_tuplel, q_tuplet, q_sum, q_min, q_max, allD, itSeq, itR1, q_itR2, q_rng2, q_en, q_en1, q_zip, q_zipQ, q_seqr, q_lenr, q_ixr, q_seql, q_seqt, q_rvd, q_rvn, q_catn, q_ixl, q_ixt, q_sl, q_sll, q_slt, q_slr, nSlL, oNone, oSome, nLc, wipeD, q_dropc, q_dropxd, q_dropxb, q_dropxo, q_dropxn, q_drope, dYes, dCnt, q_revl, q_revt, q_revr, nListRg, dTupRg, exInts, exOpt, q_addr1, q_addrr, q_ixk0, q_ixk1, exRow, exTk, cntL, cntQ_some, cntQ_none, List.getElem?_cons_zero, List.getElem?_cons_succ, List.getElem?_nil, Option.some.injEq, SV.dat.injEq, SV.own.injEq, PyData.int.injEq, PyData.bool.injEq, PyData.tuple.injEq, PyData.list.injEq, PyData.str.injEq, RVd.new.injEq, RVd.dat.injEq, exists_eq_left, exists_eq_left', exists_eq_right, List.cons.injEq, List.set_cons_zero, List.set_cons_succ, reduceCtorEq, and_true, true_and, false_and, and_false, not_true_eq_false, not_false_eq_true, if_true, if_false, ite_true, ite_false, decide_eq_true_eq, Bool.not_eq_true', decide_eq_false_iff_not, Bool.and_true, Bool.true_and, Bool.and_false, Bool.false_and, Bool.not_true, Bool.not_false, Bool.false_eq_true, List.map_cons, List.map_nil, List.length_cons, List.length_nil, Nat.zero_add, Nat.reduceAdd, Nat.reduceLeDiff, startd, List.replicate_succ, List.replicate_zero, List.nil_append, List.cons_append, Nat.reduceSub, exists_const, and_self, shp_int, shp_none, shp_bool, eqv_int, dForL_nil, lcL_nil] at h ⊢
        exact h
    | _ =>
      simp only [isTupB, rowB, dSeq, dAsgG, dAsgN, dRet, dRetN, dRetO, dRet0, dDrop, dIfS, dNext, dApp, dInsert, q_setI, q_setQ, q_take, dFor, dFreeze, dNever, q_par, q_parQ, q_par3, q_parQ3, dParNE, dParDE, gdName, q_gnil, q_gcons, q_gtup, dVar, dOwn, dC, d1, d2, n2, nCons, nNil, nLst, dTup, dFr, dTest, dAnd, dOr, dNot, dAndV, dOrV, dNotV, dIf, dChain, dCB, nCB, dCall, nCall, aDat, aBag, aNil, q_neg, q_add, q_addl, q_addt, q_sub, q_mul, q_mull, q_mult, q_fdiv, q_mod, q_pow, q_lt, q_le, q_gt, q_ge, eqD, neD, isD, isntD, q_isnn, q_isni, q_isnb, q_isnt, q_isnl, q_lenl, q_lent, q_inti, q_intb, q_max2, q_min2, q_listl, q_listt, q_tuplel, q_tuplet, q_sum, q_min, q_max, allD, itSeq, itR1, q_itR2, q_rng2, q_en, q_en1, q_zip, q_zipQ, q_seqr, q_lenr, q_ixr, q_seql, q_seqt, q_rvd, q_rvn, q_catn, q_ixl, q_ixt, q_sl, q_sll, q_slt, q_slr, nSlL, oNone, oSome, nLc, wipeD, q_dropc, q_dropxd, q_dropxb, q_dropxo, q_dropxn, q_drope, dYes, dCnt, q_revl, q_revt, q_revr, nListRg, dTupRg, exInts, exOpt, q_addr1, q_addrr, q_ixk0, q_ixk1, exRow, exTk, cntL, cntQ_some, cntQ_none, List.getElem?_cons_zero, List.getElem?_cons_succ, List.getElem?_nil, Option.some.injEq, SV.dat.injEq, SV.own.injEq, PyData.int.injEq, PyData.bool.injEq, PyData.tuple.injEq, PyData.list.injEq, PyData.str.injEq, RVd.new.injEq, RVd.dat.injEq, exists_eq_left, exists_eq_left', exists_eq_right, List.cons.injEq, List.set_cons_zero, List.set_cons_succ, reduceCtorEq, and_true, true_and, false_and, and_false, not_true_eq_false, not_false_eq_true, if_true, if_false, ite_true, ite_false, decide_eq_true_eq, Bool.not_eq_true', decide_eq_false_iff_not, Bool.and_true, Bool.true_and, Bool.and_false, Bool.false_and, Bool.not_true, Bool.not_false, Bool.false_eq_true, List.map_cons, List.map_nil, List.length_cons, List.length_nil, Nat.zero_add, Nat.reduceAdd, Nat.reduceLeDiff, startd, List.replicate_succ, List.replicate_zero, List.nil_append, List.cons_append, Nat.reduceSub, exists_const, and_self, shp_int, shp_none, shp_bool, eqv_int, dForL_nil, lcL_nil] at h ⊢
      exact h
  · exact h.elim
theorem len_is_row (svs : List SV) (R : RVd → Prop) (h : sp_is_row svs R) : svs.length = 1 := by
  unfold sp_is_row at h
  split at h
  · rfl
  · exact h.elim
/-! ### need_row, need_number (where nothing is refused) -/
/-! ### rows -/
def TkOk (t : Int × Int) : Prop := 2 ≤ t.1 ∧ t.1 ≤ 1000 ∧ 0 ≤ t.2 ∧ t.2 < t.1
def RowOk (rs : List (Int × Int)) : Prop := rs.length ≤ 8 ∧ ∀ t ∈ rs, TkOk t
theorem takerB_ok {t : Int × Int} (h : TkOk t) : takerB (tkD t) = true := by
  obtain ⟨e, c⟩ := t
  obtain ⟨h1, h2, h3, h4⟩ := h
  simp only [tkD, takerB, withinB, Bool.and_eq_true, decide_eq_true_eq]
  dsimp only at h1 h2 h3 h4
  omega
theorem rowB_ok {rs : List (Int × Int)} (h : RowOk rs) : rowB (rowD rs) = true := by
  simp only [rowD, rowB, List.length_map, Bool.and_eq_true, decide_eq_true_eq, List.all_eq_true]
  refine ⟨h.1, fun d hd => ?_⟩
  obtain ⟨t, ht, rfl⟩ := List.mem_map.mp hd
  exact takerB_ok (h.2 t ht)
theorem within_ok {i lo hi : Int} (h1 : lo ≤ i) (h2 : i ≤ hi) : withinB (.int i) lo hi = true := by simp only [withinB, h1, h2, decide_true, Bool.and_self]
/-! ### who -/
def whoG : Int → List (Int × Int) → Int → Option Int
  | _, [], _ => none
  | k, (e, c) :: rs, p => if (p + c) % e = 0 then some k else whoG (k + 1) rs (p - (p + c) / e)
/-! ### counts, taken -/
def countsG : List (Int × Int) → Int → List Int
  | [], n => [n]
  | (e, c) :: rs, n => (n + c) / e :: countsG rs (n - (n + c) / e)
end Pd

set_option maxRecDepth 100000
set_option maxHeartbeats 4000000
/-! The laws' own helpers: draws, takers, rows, pieces one by one, numbers. -/
namespace Pd
open PySem L2
open Evl (Ex)
abbrev sp_law_take : DSp := spTake
abbrev sp_law_draws : DSp := spDraws
/-! ### draws -/
/-- _law_draws: 0 cell, 1 many, 2 size, 3 found, 4 rest, 5 stirred, 6 k -/
abbrev b_law_draws : DS := (dSeq (dAsgN (nLst nNil) 3)
  (dSeq (dAsgG (d2 mulD (dVar 0) (dCB intD (nCons (d2 geD (dVar 0) (d2 powD (dC (.int 10)) (dC (.int 18)))) nNil))) (gdName 4))
  (dSeq (dAsgG (d2 modD (dVar 0) (dC (.int 2305843009213693951))) (gdName 5))
  (dSeq (dFor (itR1 (nCons (d2 addD (dVar 1) (dC (.int 3))) nNil)) (gdName 6)
  (dSeq (dAsgG (d2 modD (d2 addD (d2 addD (d2 addD (d2 mulD (dVar 5) (dVar 5)) (d2 mulD (dC (.int 48271)) (dVar 5))) (dVar 6)) (dC (.int 1))) (dC (.int 2305843009213693951))) (gdName 5))
  (dIfS (dAnd (dTest (d2 gtD (dVar 6) (dC (.int 2)))) (dTest (d2 gtD (dVar 4) (dC (.int 0))))) (dSeq (dApp 3 (d2 modD (dVar 4) (dVar 2)))
  (dAsgG (d2 fdivD (dVar 4) (dVar 2)) (gdName 4))) (dIfS (dTest (d2 gtD (dVar 6) (dC (.int 2)))) (dApp 3 (d2 modD (d2 fdivD (dVar 5) (dC (.int 4096))) (dVar 2))) dNext))))
  (dRetO 3)))))
theorem draws_loop {D : DEnds} {x0 x1 : Option SV} {g : DG} {tb : DS} (hg : g = gdName 6)
    (htb : tb = (dSeq (dAsgG (d2 modD (d2 addD (d2 addD (d2 addD (d2 mulD (dVar 5) (dVar 5)) (d2 mulD (dC (.int 48271)) (dVar 5))) (dVar 6)) (dC (.int 1))) (dC (.int 2305843009213693951))) (gdName 5))
  (dIfS (dAnd (dTest (d2 gtD (dVar 6) (dC (.int 2)))) (dTest (d2 gtD (dVar 4) (dC (.int 0))))) (dSeq (dApp 3 (d2 modD (dVar 4) (dVar 2)))
  (dAsgG (d2 fdivD (dVar 4) (dVar 2)) (gdName 4))) (dIfS (dTest (d2 gtD (dVar 6) (dC (.int 2)))) (dApp 3 (d2 modD (d2 fdivD (dVar 5) (dC (.int 4096))) (dVar 2))) dNext)))) :
    ∀ (m k : Nat) (acc : List Int) (rest st : Int) (x6 : Option SV), 0 ≤ st → st < 2305843009213693951 → (∀ x ∈ acc, 0 ≤ x ∧ x < 1000) → acc.length = k - 3 → k ≤ 1000 →
      (∀ (acc' : List Int) (rest st : Int) (x6 : Option SV), (∀ x ∈ acc', 0 ≤ x ∧ x < 1000) → acc'.length = k + m - 3 → D.nx [x0, x1, some (.dat (.int 1000)), some (.own (acc'.map .int)), some (.dat (.int rest)), some (.dat (.int st)), x6]) → m + k ≤ 1000 →
      dForL g tb ((List.range' k m).map fun i => .int ((0 : Int) + (i : Nat))) D [x0, x1, some (.dat (.int 1000)), some (.own (acc.map .int)), some (.dat (.int rest)), some (.dat (.int st)), x6]
  | 0, k, acc, rest, st, x6, _, _, ha, hl, _, h, _ => h acc rest st x6 ha (by simpa using hl)
  | m + 1, k, acc, rest, st, x6, s0, s1, ha, hl, hk, h, hm => by
    rw [List.range'_succ, List.map_cons, dForL_cons, hg, htb]
    have m1 : mulOk st st := .inl ⟨by omega, by omega⟩
    have m2 : mulOk 48271 st := .inl ⟨by decide, by omega⟩
    have l1 : acc.length < 1000000 := by omega
    simp only [m1, m2, List.length_map, l1, show (0 : Int) < 2305843009213693951 by decide, show (0 : Int) < 1000 by decide, show (0 : Int) < 4096 by decide, show (1000 : Int).natAbs < 2 ^ 1000 by decide, show (4096 : Int).natAbs < 2 ^ 1000 by decide, dSeq, dAsgG, dAsgN, dRet, dRetN, dRetO, dRet0, dDrop, dIfS, dNext, dApp, dInsert, q_setI, q_setQ, q_take, dFor, dFreeze, dNever, q_par, q_parQ, q_par3, q_parQ3, dParNE, dParDE, gdName, q_gnil, q_gcons, q_gtup, dVar, dOwn, dC, d1, d2, n2, nCons, nNil, nLst, dTup, dFr, dTest, dAnd, dOr, dNot, dAndV, dOrV, dNotV, dIf, dChain, dCB, nCB, dCall, nCall, aDat, aBag, aNil, q_neg, q_add, q_addl, q_addt, q_sub, q_mul, q_mull, q_mult, q_fdiv, q_mod, q_pow, q_lt, q_le, q_gt, q_ge, eqD, neD, isD, isntD, q_isnn, q_isni, q_isnb, q_isnt, q_isnl, q_lenl, q_lent, q_inti, q_intb, q_max2, q_min2, q_listl, q_listt, q_tuplel, q_tuplet, q_sum, q_min, q_max, allD, itSeq, itR1, q_itR2, q_rng2, q_en, q_en1, q_zip, q_zipQ, q_seqr, q_lenr, q_ixr, q_seql, q_seqt, q_rvd, q_rvn, q_catn, q_ixl, q_ixt, q_sl, q_sll, q_slt, q_slr, nSlL, oNone, oSome, nLc, wipeD, q_dropc, q_dropxd, q_dropxb, q_dropxo, q_dropxn, q_drope, dYes, dCnt, q_revl, q_revt, q_revr, nListRg, dTupRg, exInts, exOpt, q_addr1, q_addrr, q_ixk0, q_ixk1, exRow, exTk, cntL, cntQ_some, cntQ_none, List.getElem?_cons_zero, List.getElem?_cons_succ, List.getElem?_nil, Option.some.injEq, SV.dat.injEq, SV.own.injEq, PyData.int.injEq, PyData.bool.injEq, PyData.tuple.injEq, PyData.list.injEq, PyData.str.injEq, RVd.new.injEq, RVd.dat.injEq, exists_eq_left, exists_eq_left', exists_eq_right, List.cons.injEq, List.set_cons_zero, List.set_cons_succ, reduceCtorEq, and_true, true_and, false_and, and_false, not_true_eq_false, not_false_eq_true, if_true, if_false, ite_true, ite_false, decide_eq_true_eq, Bool.not_eq_true', decide_eq_false_iff_not, Bool.and_true, Bool.true_and, Bool.and_false, Bool.false_and, Bool.not_true, Bool.not_false, Bool.false_eq_true, List.map_cons, List.map_nil, List.length_cons, List.length_nil, Nat.zero_add, Nat.reduceAdd, Nat.reduceLeDiff, startd, List.replicate_succ, List.replicate_zero, List.nil_append, List.cons_append, Nat.reduceSub, exists_const, and_self, shp_int, shp_none, shp_bool, eqv_int, dForL_nil, lcL_nil]
    generalize hst : (st * st + 48271 * st + ((0 : Int) + (k : Nat)) + 1) % 2305843009213693951 = st'
    have s0' : 0 ≤ st' := by rw [← hst]; exact Int.emod_nonneg _ (by decide)
    have s1' : st' < 2305843009213693951 := by rw [← hst]; exact Int.emod_lt_of_pos _ (by decide)
    have app : ∀ v : Int, 0 ≤ v → v < 1000 → (∀ x ∈ acc ++ [v], 0 ≤ x ∧ x < 1000) := fun v v0 v1 x hx => by
      rcases List.mem_append.mp hx with hx | hx
      · exact ha x hx
      · have : x = v := by simpa using hx
        omega
    have next : ∀ (acc' : List Int) (rest : Int) (x6 : Option SV), (∀ x ∈ acc', 0 ≤ x ∧ x < 1000) → acc'.length = k + 1 - 3 → dForL (gdName 6) _ ((List.range' (k + 1) m).map fun i => .int ((0 : Int) + (i : Nat))) D [x0, x1, some (.dat (.int 1000)), some (.own (acc'.map .int)), some (.dat (.int rest)), some (.dat (.int st')), x6] :=
      fun acc' rest x6 h1 h2 => draws_loop rfl rfl m (k + 1) acc' rest st' x6 s0' s1' h1 h2 (by omega) (fun a r s y h3 h4 => h a r s y h3 (by omega)) (by omega)
    have ea : ∀ v : Int, acc.map PyData.int ++ [.int v] = (acc ++ [v]).map PyData.int := fun v => by simp
    by_cases h2 : (2 : Int) < 0 + (k : Nat)
    · have hk3 : k ≥ 3 := by omega
      by_cases h3 : 0 < rest
      · simp only [h2, h3, dSeq, dAsgG, dAsgN, dRet, dRetN, dRetO, dRet0, dDrop, dIfS, dNext, dApp, dInsert, q_setI, q_setQ, q_take, dFor, dFreeze, dNever, q_par, q_parQ, q_par3, q_parQ3, dParNE, dParDE, gdName, q_gnil, q_gcons, q_gtup, dVar, dOwn, dC, d1, d2, n2, nCons, nNil, nLst, dTup, dFr, dTest, dAnd, dOr, dNot, dAndV, dOrV, dNotV, dIf, dChain, dCB, nCB, dCall, nCall, aDat, aBag, aNil, q_neg, q_add, q_addl, q_addt, q_sub, q_mul, q_mull, q_mult, q_fdiv, q_mod, q_pow, q_lt, q_le, q_gt, q_ge, eqD, neD, isD, isntD, q_isnn, q_isni, q_isnb, q_isnt, q_isnl, q_lenl, q_lent, q_inti, q_intb, q_max2, q_min2, q_listl, q_listt, q_tuplel, q_tuplet, q_sum, q_min, q_max, allD, itSeq, itR1, q_itR2, q_rng2, q_en, q_en1, q_zip, q_zipQ, q_seqr, q_lenr, q_ixr, q_seql, q_seqt, q_rvd, q_rvn, q_catn, q_ixl, q_ixt, q_sl, q_sll, q_slt, q_slr, nSlL, oNone, oSome, nLc, wipeD, q_dropc, q_dropxd, q_dropxb, q_dropxo, q_dropxn, q_drope, dYes, dCnt, q_revl, q_revt, q_revr, nListRg, dTupRg, exInts, exOpt, q_addr1, q_addrr, q_ixk0, q_ixk1, exRow, exTk, cntL, cntQ_some, cntQ_none, List.getElem?_cons_zero, List.getElem?_cons_succ, List.getElem?_nil, Option.some.injEq, SV.dat.injEq, SV.own.injEq, PyData.int.injEq, PyData.bool.injEq, PyData.tuple.injEq, PyData.list.injEq, PyData.str.injEq, RVd.new.injEq, RVd.dat.injEq, exists_eq_left, exists_eq_left', exists_eq_right, List.cons.injEq, List.set_cons_zero, List.set_cons_succ, reduceCtorEq, and_true, true_and, false_and, and_false, not_true_eq_false, not_false_eq_true, if_true, if_false, ite_true, ite_false, decide_eq_true_eq, Bool.not_eq_true', decide_eq_false_iff_not, Bool.and_true, Bool.true_and, Bool.and_false, Bool.false_and, Bool.not_true, Bool.not_false, Bool.false_eq_true, List.map_cons, List.map_nil, List.length_cons, List.length_nil, Nat.zero_add, Nat.reduceAdd, Nat.reduceLeDiff, startd, List.replicate_succ, List.replicate_zero, List.nil_append, List.cons_append, Nat.reduceSub, exists_const, and_self, shp_int, shp_none, shp_bool, eqv_int, dForL_nil, lcL_nil]
        rw [ea]
        exact next _ _ _ (app _ (Int.emod_nonneg _ (by decide)) (Int.emod_lt_of_pos _ (by decide))) (by simp; omega)
      · simp only [h2, h3, dSeq, dAsgG, dAsgN, dRet, dRetN, dRetO, dRet0, dDrop, dIfS, dNext, dApp, dInsert, q_setI, q_setQ, q_take, dFor, dFreeze, dNever, q_par, q_parQ, q_par3, q_parQ3, dParNE, dParDE, gdName, q_gnil, q_gcons, q_gtup, dVar, dOwn, dC, d1, d2, n2, nCons, nNil, nLst, dTup, dFr, dTest, dAnd, dOr, dNot, dAndV, dOrV, dNotV, dIf, dChain, dCB, nCB, dCall, nCall, aDat, aBag, aNil, q_neg, q_add, q_addl, q_addt, q_sub, q_mul, q_mull, q_mult, q_fdiv, q_mod, q_pow, q_lt, q_le, q_gt, q_ge, eqD, neD, isD, isntD, q_isnn, q_isni, q_isnb, q_isnt, q_isnl, q_lenl, q_lent, q_inti, q_intb, q_max2, q_min2, q_listl, q_listt, q_tuplel, q_tuplet, q_sum, q_min, q_max, allD, itSeq, itR1, q_itR2, q_rng2, q_en, q_en1, q_zip, q_zipQ, q_seqr, q_lenr, q_ixr, q_seql, q_seqt, q_rvd, q_rvn, q_catn, q_ixl, q_ixt, q_sl, q_sll, q_slt, q_slr, nSlL, oNone, oSome, nLc, wipeD, q_dropc, q_dropxd, q_dropxb, q_dropxo, q_dropxn, q_drope, dYes, dCnt, q_revl, q_revt, q_revr, nListRg, dTupRg, exInts, exOpt, q_addr1, q_addrr, q_ixk0, q_ixk1, exRow, exTk, cntL, cntQ_some, cntQ_none, List.getElem?_cons_zero, List.getElem?_cons_succ, List.getElem?_nil, Option.some.injEq, SV.dat.injEq, SV.own.injEq, PyData.int.injEq, PyData.bool.injEq, PyData.tuple.injEq, PyData.list.injEq, PyData.str.injEq, RVd.new.injEq, RVd.dat.injEq, exists_eq_left, exists_eq_left', exists_eq_right, List.cons.injEq, List.set_cons_zero, List.set_cons_succ, reduceCtorEq, and_true, true_and, false_and, and_false, not_true_eq_false, not_false_eq_true, if_true, if_false, ite_true, ite_false, decide_eq_true_eq, Bool.not_eq_true', decide_eq_false_iff_not, Bool.and_true, Bool.true_and, Bool.and_false, Bool.false_and, Bool.not_true, Bool.not_false, Bool.false_eq_true, List.map_cons, List.map_nil, List.length_cons, List.length_nil, Nat.zero_add, Nat.reduceAdd, Nat.reduceLeDiff, startd, List.replicate_succ, List.replicate_zero, List.nil_append, List.cons_append, Nat.reduceSub, exists_const, and_self, shp_int, shp_none, shp_bool, eqv_int, dForL_nil, lcL_nil]
        rw [ea]
        exact next _ _ _ (app _ (Int.emod_nonneg _ (by decide)) (Int.emod_lt_of_pos _ (by decide))) (by simp; omega)
    · simp only [h2, dSeq, dAsgG, dAsgN, dRet, dRetN, dRetO, dRet0, dDrop, dIfS, dNext, dApp, dInsert, q_setI, q_setQ, q_take, dFor, dFreeze, dNever, q_par, q_parQ, q_par3, q_parQ3, dParNE, dParDE, gdName, q_gnil, q_gcons, q_gtup, dVar, dOwn, dC, d1, d2, n2, nCons, nNil, nLst, dTup, dFr, dTest, dAnd, dOr, dNot, dAndV, dOrV, dNotV, dIf, dChain, dCB, nCB, dCall, nCall, aDat, aBag, aNil, q_neg, q_add, q_addl, q_addt, q_sub, q_mul, q_mull, q_mult, q_fdiv, q_mod, q_pow, q_lt, q_le, q_gt, q_ge, eqD, neD, isD, isntD, q_isnn, q_isni, q_isnb, q_isnt, q_isnl, q_lenl, q_lent, q_inti, q_intb, q_max2, q_min2, q_listl, q_listt, q_tuplel, q_tuplet, q_sum, q_min, q_max, allD, itSeq, itR1, q_itR2, q_rng2, q_en, q_en1, q_zip, q_zipQ, q_seqr, q_lenr, q_ixr, q_seql, q_seqt, q_rvd, q_rvn, q_catn, q_ixl, q_ixt, q_sl, q_sll, q_slt, q_slr, nSlL, oNone, oSome, nLc, wipeD, q_dropc, q_dropxd, q_dropxb, q_dropxo, q_dropxn, q_drope, dYes, dCnt, q_revl, q_revt, q_revr, nListRg, dTupRg, exInts, exOpt, q_addr1, q_addrr, q_ixk0, q_ixk1, exRow, exTk, cntL, cntQ_some, cntQ_none, List.getElem?_cons_zero, List.getElem?_cons_succ, List.getElem?_nil, Option.some.injEq, SV.dat.injEq, SV.own.injEq, PyData.int.injEq, PyData.bool.injEq, PyData.tuple.injEq, PyData.list.injEq, PyData.str.injEq, RVd.new.injEq, RVd.dat.injEq, exists_eq_left, exists_eq_left', exists_eq_right, List.cons.injEq, List.set_cons_zero, List.set_cons_succ, reduceCtorEq, and_true, true_and, false_and, and_false, not_true_eq_false, not_false_eq_true, if_true, if_false, ite_true, ite_false, decide_eq_true_eq, Bool.not_eq_true', decide_eq_false_iff_not, Bool.and_true, Bool.true_and, Bool.and_false, Bool.false_and, Bool.not_true, Bool.not_false, Bool.false_eq_true, List.map_cons, List.map_nil, List.length_cons, List.length_nil, Nat.zero_add, Nat.reduceAdd, Nat.reduceLeDiff, startd, List.replicate_succ, List.replicate_zero, List.nil_append, List.cons_append, Nat.reduceSub, exists_const, and_self, shp_int, shp_none, shp_bool, eqv_int, dForL_nil, lcL_nil]
      exact next _ _ _ ha (by omega)
theorem rd_law_draws (svs : List SV) (R : RVd → Prop) (h : sp_law_draws svs R) : b_law_draws { nx := fun _ => R (.dat .none), rt := R } (startd 7 svs) := by
  obtain ⟨c, rfl, h⟩ := h
  simp only [b_law_draws, show (0 : Int) < 2305843009213693951 by decide, show (0 : Int) ≤ 18 by decide, show (18 : Int) ≤ 1000 by decide, show (10 : Int).natAbs < 2 ^ 64 by decide, show -(2 : Int) ^ 62 ≤ 400 + 3 by decide, show (400 : Int) + 3 < 2 ^ 62 by decide, rngD, dSeq, dAsgG, dAsgN, dRet, dRetN, dRetO, dRet0, dDrop, dIfS, dNext, dApp, dInsert, q_setI, q_setQ, q_take, dFor, dFreeze, dNever, q_par, q_parQ, q_par3, q_parQ3, dParNE, dParDE, gdName, q_gnil, q_gcons, q_gtup, dVar, dOwn, dC, d1, d2, n2, nCons, nNil, nLst, dTup, dFr, dTest, dAnd, dOr, dNot, dAndV, dOrV, dNotV, dIf, dChain, dCB, nCB, dCall, nCall, aDat, aBag, aNil, q_neg, q_add, q_addl, q_addt, q_sub, q_mul, q_mull, q_mult, q_fdiv, q_mod, q_pow, q_lt, q_le, q_gt, q_ge, eqD, neD, isD, isntD, q_isnn, q_isni, q_isnb, q_isnt, q_isnl, q_lenl, q_lent, q_inti, q_intb, q_max2, q_min2, q_listl, q_listt, q_tuplel, q_tuplet, q_sum, q_min, q_max, allD, itSeq, itR1, q_itR2, q_rng2, q_en, q_en1, q_zip, q_zipQ, q_seqr, q_lenr, q_ixr, q_seql, q_seqt, q_rvd, q_rvn, q_catn, q_ixl, q_ixt, q_sl, q_sll, q_slt, q_slr, nSlL, oNone, oSome, nLc, wipeD, q_dropc, q_dropxd, q_dropxb, q_dropxo, q_dropxn, q_drope, dYes, dCnt, q_revl, q_revt, q_revr, nListRg, dTupRg, exInts, exOpt, q_addr1, q_addrr, q_ixk0, q_ixk1, exRow, exTk, cntL, cntQ_some, cntQ_none, List.getElem?_cons_zero, List.getElem?_cons_succ, List.getElem?_nil, Option.some.injEq, SV.dat.injEq, SV.own.injEq, PyData.int.injEq, PyData.bool.injEq, PyData.tuple.injEq, PyData.list.injEq, PyData.str.injEq, RVd.new.injEq, RVd.dat.injEq, exists_eq_left, exists_eq_left', exists_eq_right, List.cons.injEq, List.set_cons_zero, List.set_cons_succ, reduceCtorEq, and_true, true_and, false_and, and_false, not_true_eq_false, not_false_eq_true, if_true, if_false, ite_true, ite_false, decide_eq_true_eq, Bool.not_eq_true', decide_eq_false_iff_not, Bool.and_true, Bool.true_and, Bool.and_false, Bool.false_and, Bool.not_true, Bool.not_false, Bool.false_eq_true, List.map_cons, List.map_nil, List.length_cons, List.length_nil, Nat.zero_add, Nat.reduceAdd, Nat.reduceLeDiff, startd, List.replicate_succ, List.replicate_zero, List.nil_append, List.cons_append, Nat.reduceSub, exists_const, and_self, shp_int, shp_none, shp_bool, eqv_int, dForL_nil, lcL_nil]
  refine ⟨?_, ?_⟩
  · split
    · exact .inr (.inr rfl)
    · exact .inr (.inl rfl)
  · rw [show (400 + 3 : Int).toNat = 403 by decide, List.range_eq_range']
    refine draws_loop rfl rfl 403 0 [] _ _ _ (Int.emod_nonneg _ (by decide)) (Int.emod_lt_of_pos _ (by decide)) (by simp) rfl (by decide) (fun acc' rest st x6 h1 h2 => ?_) (by decide)
    simp only [dSeq, dAsgG, dAsgN, dRet, dRetN, dRetO, dRet0, dDrop, dIfS, dNext, dApp, dInsert, q_setI, q_setQ, q_take, dFor, dFreeze, dNever, q_par, q_parQ, q_par3, q_parQ3, dParNE, dParDE, gdName, q_gnil, q_gcons, q_gtup, dVar, dOwn, dC, d1, d2, n2, nCons, nNil, nLst, dTup, dFr, dTest, dAnd, dOr, dNot, dAndV, dOrV, dNotV, dIf, dChain, dCB, nCB, dCall, nCall, aDat, aBag, aNil, q_neg, q_add, q_addl, q_addt, q_sub, q_mul, q_mull, q_mult, q_fdiv, q_mod, q_pow, q_lt, q_le, q_gt, q_ge, eqD, neD, isD, isntD, q_isnn, q_isni, q_isnb, q_isnt, q_isnl, q_lenl, q_lent, q_inti, q_intb, q_max2, q_min2, q_listl, q_listt, q_tuplel, q_tuplet, q_sum, q_min, q_max, allD, itSeq, itR1, q_itR2, q_rng2, q_en, q_en1, q_zip, q_zipQ, q_seqr, q_lenr, q_ixr, q_seql, q_seqt, q_rvd, q_rvn, q_catn, q_ixl, q_ixt, q_sl, q_sll, q_slt, q_slr, nSlL, oNone, oSome, nLc, wipeD, q_dropc, q_dropxd, q_dropxb, q_dropxo, q_dropxn, q_drope, dYes, dCnt, q_revl, q_revt, q_revr, nListRg, dTupRg, exInts, exOpt, q_addr1, q_addrr, q_ixk0, q_ixk1, exRow, exTk, cntL, cntQ_some, cntQ_none, List.getElem?_cons_zero, List.getElem?_cons_succ, List.getElem?_nil, Option.some.injEq, SV.dat.injEq, SV.own.injEq, PyData.int.injEq, PyData.bool.injEq, PyData.tuple.injEq, PyData.list.injEq, PyData.str.injEq, RVd.new.injEq, RVd.dat.injEq, exists_eq_left, exists_eq_left', exists_eq_right, List.cons.injEq, List.set_cons_zero, List.set_cons_succ, reduceCtorEq, and_true, true_and, false_and, and_false, not_true_eq_false, not_false_eq_true, if_true, if_false, ite_true, ite_false, decide_eq_true_eq, Bool.not_eq_true', decide_eq_false_iff_not, Bool.and_true, Bool.true_and, Bool.and_false, Bool.false_and, Bool.not_true, Bool.not_false, Bool.false_eq_true, List.map_cons, List.map_nil, List.length_cons, List.length_nil, Nat.zero_add, Nat.reduceAdd, Nat.reduceLeDiff, startd, List.replicate_succ, List.replicate_zero, List.nil_append, List.cons_append, Nat.reduceSub, exists_const, and_self, shp_int, shp_none, shp_bool, eqv_int, dForL_nil, lcL_nil]
    exact h acc' (by simpa using h2) h1
theorem len_law_draws (svs : List SV) (R : RVd → Prop) (h : sp_law_draws svs R) : svs.length = 3 := by
  obtain ⟨c, rfl, h⟩ := h
  rfl
/-! ### takers, rows -/
def sp_law_taker : DSp
  | [.bag, .dat (.int far)], R => 2 ≤ far ∧ ∀ e c : Int, 2 ≤ e → e ≤ far → 0 ≤ c → c < e → R (.dat (tkD (e, c)))
  | _, _ => False
/-- _law_taker: 0 bag, 1 far, 2 every -/
abbrev b_law_taker : DS := (dSeq (dAsgG (d2 addD (dC (.int 2)) (d2 ixD (dFr (nLst (nCons (dCall sp_law_take (aBag 0 (aDat (dCB min2D (nCons (dC (.int 4)) (nCons (d2 subD (dVar 1) (dC (.int 1))) nNil))) aNil))) (nCons (dCall sp_law_take (aBag 0 (aDat (d2 subD (dVar 1) (dC (.int 1))) aNil))) nNil)))) (dCall sp_law_take (aBag 0 (aDat (dC (.int 2)) aNil))))) (gdName 2))
  (dRet (dTup (nCons (dVar 2) (nCons (d2 ixD (dFr (nLst (nCons (dC (.int 0)) (nCons (dCall sp_law_take (aBag 0 (aDat (dVar 2) aNil))) (nCons (d2 subD (dVar 2) (dC (.int 1))) nNil))))) (dCall sp_law_take (aBag 0 (aDat (dC (.int 3)) aNil)))) nNil)))))
theorem rd_law_taker (svs : List SV) (R : RVd → Prop) (h : sp_law_taker svs R) : b_law_taker { nx := fun _ => R (.dat .none), rt := R } (startd 3 svs) := by
  unfold sp_law_taker at h
  split at h
  · rename_i far
    obtain ⟨hf, h⟩ := h
    have key : ∀ e : Int, 2 ≤ e → e ≤ far → 0 < e ∧ ∀ r : Int, 0 ≤ r → r < e → ((0 : Int) < 3) ∧ ∀ r' : Int, 0 ≤ r' → r' < 3 → ∃ z, atI [PyData.int 0, .int r, .int (e - 1)] r' = some z ∧ R (.dat (.tuple [.int e, z])) := fun e h1 h2 => ⟨by omega, fun r r0 r1 => ⟨by decide, fun r' s0 s1 => by
      have : r' = 0 ∨ r' = 1 ∨ r' = 2 := by omega
      rcases this with rfl | rfl | rfl
      · exact ⟨_, at0, h e 0 h1 h2 (by omega) (by omega)⟩
      · exact ⟨_, at1, h e r h1 h2 r0 r1⟩
      · exact ⟨_, atI_nat (j := 2) rfl, h e (e - 1) h1 h2 (by omega) (by omega)⟩⟩⟩
    simp only [b_law_taker, dSeq, dAsgG, dAsgN, dRet, dRetN, dRetO, dRet0, dDrop, dIfS, dNext, dApp, dInsert, q_setI, q_setQ, q_take, dFor, dFreeze, dNever, q_par, q_parQ, q_par3, q_parQ3, dParNE, dParDE, gdName, q_gnil, q_gcons, q_gtup, dVar, dOwn, dC, d1, d2, n2, nCons, nNil, nLst, dTup, dFr, dTest, dAnd, dOr, dNot, dAndV, dOrV, dNotV, dIf, dChain, dCB, nCB, dCall, nCall, aDat, aBag, aNil, q_neg, q_add, q_addl, q_addt, q_sub, q_mul, q_mull, q_mult, q_fdiv, q_mod, q_pow, q_lt, q_le, q_gt, q_ge, eqD, neD, isD, isntD, q_isnn, q_isni, q_isnb, q_isnt, q_isnl, q_lenl, q_lent, q_inti, q_intb, q_max2, q_min2, q_listl, q_listt, q_tuplel, q_tuplet, q_sum, q_min, q_max, allD, itSeq, itR1, q_itR2, q_rng2, q_en, q_en1, q_zip, q_zipQ, q_seqr, q_lenr, q_ixr, q_seql, q_seqt, q_rvd, q_rvn, q_catn, q_ixl, q_ixt, q_sl, q_sll, q_slt, q_slr, nSlL, oNone, oSome, nLc, wipeD, q_dropc, q_dropxd, q_dropxb, q_dropxo, q_dropxn, q_drope, dYes, dCnt, q_revl, q_revt, q_revr, nListRg, dTupRg, exInts, exOpt, q_addr1, q_addrr, q_ixk0, q_ixk1, exRow, exTk, cntL, cntQ_some, cntQ_none, List.getElem?_cons_zero, List.getElem?_cons_succ, List.getElem?_nil, Option.some.injEq, SV.dat.injEq, SV.own.injEq, PyData.int.injEq, PyData.bool.injEq, PyData.tuple.injEq, PyData.list.injEq, PyData.str.injEq, RVd.new.injEq, RVd.dat.injEq, exists_eq_left, exists_eq_left', exists_eq_right, List.cons.injEq, List.set_cons_zero, List.set_cons_succ, reduceCtorEq, and_true, true_and, false_and, and_false, not_true_eq_false, not_false_eq_true, if_true, if_false, ite_true, ite_false, decide_eq_true_eq, Bool.not_eq_true', decide_eq_false_iff_not, Bool.and_true, Bool.true_and, Bool.and_false, Bool.false_and, Bool.not_true, Bool.not_false, Bool.false_eq_true, List.map_cons, List.map_nil, List.length_cons, List.length_nil, Nat.zero_add, Nat.reduceAdd, Nat.reduceLeDiff, startd, List.replicate_succ, List.replicate_zero, List.nil_append, List.cons_append, Nat.reduceSub, exists_const, and_self, shp_int, shp_none, shp_bool, eqv_int, dForL_nil, lcL_nil]
    refine ⟨by omega, fun r1 a0 a1 => ⟨by omega, fun r2 b0 b1 => ⟨by decide, fun r3 c0 c1 => ?_⟩⟩⟩
    have : r3 = 0 ∨ r3 = 1 := by omega
    rcases this with rfl | rfl
    · refine ⟨_, at0, ?_⟩
      simp only [dSeq, dAsgG, dAsgN, dRet, dRetN, dRetO, dRet0, dDrop, dIfS, dNext, dApp, dInsert, q_setI, q_setQ, q_take, dFor, dFreeze, dNever, q_par, q_parQ, q_par3, q_parQ3, dParNE, dParDE, gdName, q_gnil, q_gcons, q_gtup, dVar, dOwn, dC, d1, d2, n2, nCons, nNil, nLst, dTup, dFr, dTest, dAnd, dOr, dNot, dAndV, dOrV, dNotV, dIf, dChain, dCB, nCB, dCall, nCall, aDat, aBag, aNil, q_neg, q_add, q_addl, q_addt, q_sub, q_mul, q_mull, q_mult, q_fdiv, q_mod, q_pow, q_lt, q_le, q_gt, q_ge, eqD, neD, isD, isntD, q_isnn, q_isni, q_isnb, q_isnt, q_isnl, q_lenl, q_lent, q_inti, q_intb, q_max2, q_min2, q_listl, q_listt, q_tuplel, q_tuplet, q_sum, q_min, q_max, allD, itSeq, itR1, q_itR2, q_rng2, q_en, q_en1, q_zip, q_zipQ, q_seqr, q_lenr, q_ixr, q_seql, q_seqt, q_rvd, q_rvn, q_catn, q_ixl, q_ixt, q_sl, q_sll, q_slt, q_slr, nSlL, oNone, oSome, nLc, wipeD, q_dropc, q_dropxd, q_dropxb, q_dropxo, q_dropxn, q_drope, dYes, dCnt, q_revl, q_revt, q_revr, nListRg, dTupRg, exInts, exOpt, q_addr1, q_addrr, q_ixk0, q_ixk1, exRow, exTk, cntL, cntQ_some, cntQ_none, List.getElem?_cons_zero, List.getElem?_cons_succ, List.getElem?_nil, Option.some.injEq, SV.dat.injEq, SV.own.injEq, PyData.int.injEq, PyData.bool.injEq, PyData.tuple.injEq, PyData.list.injEq, PyData.str.injEq, RVd.new.injEq, RVd.dat.injEq, exists_eq_left, exists_eq_left', exists_eq_right, List.cons.injEq, List.set_cons_zero, List.set_cons_succ, reduceCtorEq, and_true, true_and, false_and, and_false, not_true_eq_false, not_false_eq_true, if_true, if_false, ite_true, ite_false, decide_eq_true_eq, Bool.not_eq_true', decide_eq_false_iff_not, Bool.and_true, Bool.true_and, Bool.and_false, Bool.false_and, Bool.not_true, Bool.not_false, Bool.false_eq_true, List.map_cons, List.map_nil, List.length_cons, List.length_nil, Nat.zero_add, Nat.reduceAdd, Nat.reduceLeDiff, startd, List.replicate_succ, List.replicate_zero, List.nil_append, List.cons_append, Nat.reduceSub, exists_const, and_self, shp_int, shp_none, shp_bool, eqv_int, dForL_nil, lcL_nil]
      exact key (2 + r1) (by omega) (by omega)
    · refine ⟨_, at1, ?_⟩
      simp only [dSeq, dAsgG, dAsgN, dRet, dRetN, dRetO, dRet0, dDrop, dIfS, dNext, dApp, dInsert, q_setI, q_setQ, q_take, dFor, dFreeze, dNever, q_par, q_parQ, q_par3, q_parQ3, dParNE, dParDE, gdName, q_gnil, q_gcons, q_gtup, dVar, dOwn, dC, d1, d2, n2, nCons, nNil, nLst, dTup, dFr, dTest, dAnd, dOr, dNot, dAndV, dOrV, dNotV, dIf, dChain, dCB, nCB, dCall, nCall, aDat, aBag, aNil, q_neg, q_add, q_addl, q_addt, q_sub, q_mul, q_mull, q_mult, q_fdiv, q_mod, q_pow, q_lt, q_le, q_gt, q_ge, eqD, neD, isD, isntD, q_isnn, q_isni, q_isnb, q_isnt, q_isnl, q_lenl, q_lent, q_inti, q_intb, q_max2, q_min2, q_listl, q_listt, q_tuplel, q_tuplet, q_sum, q_min, q_max, allD, itSeq, itR1, q_itR2, q_rng2, q_en, q_en1, q_zip, q_zipQ, q_seqr, q_lenr, q_ixr, q_seql, q_seqt, q_rvd, q_rvn, q_catn, q_ixl, q_ixt, q_sl, q_sll, q_slt, q_slr, nSlL, oNone, oSome, nLc, wipeD, q_dropc, q_dropxd, q_dropxb, q_dropxo, q_dropxn, q_drope, dYes, dCnt, q_revl, q_revt, q_revr, nListRg, dTupRg, exInts, exOpt, q_addr1, q_addrr, q_ixk0, q_ixk1, exRow, exTk, cntL, cntQ_some, cntQ_none, List.getElem?_cons_zero, List.getElem?_cons_succ, List.getElem?_nil, Option.some.injEq, SV.dat.injEq, SV.own.injEq, PyData.int.injEq, PyData.bool.injEq, PyData.tuple.injEq, PyData.list.injEq, PyData.str.injEq, RVd.new.injEq, RVd.dat.injEq, exists_eq_left, exists_eq_left', exists_eq_right, List.cons.injEq, List.set_cons_zero, List.set_cons_succ, reduceCtorEq, and_true, true_and, false_and, and_false, not_true_eq_false, not_false_eq_true, if_true, if_false, ite_true, ite_false, decide_eq_true_eq, Bool.not_eq_true', decide_eq_false_iff_not, Bool.and_true, Bool.true_and, Bool.and_false, Bool.false_and, Bool.not_true, Bool.not_false, Bool.false_eq_true, List.map_cons, List.map_nil, List.length_cons, List.length_nil, Nat.zero_add, Nat.reduceAdd, Nat.reduceLeDiff, startd, List.replicate_succ, List.replicate_zero, List.nil_append, List.cons_append, Nat.reduceSub, exists_const, and_self, shp_int, shp_none, shp_bool, eqv_int, dForL_nil, lcL_nil]
      exact key (2 + r2) (by omega) (by omega)
  · exact h.elim
theorem len_law_taker (svs : List SV) (R : RVd → Prop) (h : sp_law_taker svs R) : svs.length = 2 := by
  unfold sp_law_taker at h
  split at h
  · rfl
  · exact h.elim
theorem pick3 {a b c r : Int} (P : Int → Prop) (h0 : 0 ≤ r) (h3 : r < 3) (ha : P a) (hb : P b) (hc : P c) : ∃ z, atI [PyData.int a, .int b, .int c] r = some (.int z) ∧ P z := by
  have : r = 0 ∨ r = 1 ∨ r = 2 := by omega
  rcases this with rfl | rfl | rfl
  · exact ⟨a, at0, ha⟩
  · exact ⟨b, at1, hb⟩
  · exact ⟨c, atI_nat (j := 2) rfl, hc⟩
theorem lcL_mapOn {g : DG} {te : DE} {env : Denv} {f : PyData → PyData} : ∀ {ds : List PyData} (hg : ∀ d ∈ ds, ∀ Q, (g d env fun env' => te env' Q) = Q (f d)) {Q : List PyData → Prop}, lcL g dYes te env ds Q = Q (ds.map f)
  | [], _, Q => rfl
  | d :: ds, hg, Q => by
    show (g d env fun env' => te env' fun y => lcL g dYes te env ds fun ys => Q (y :: ys)) = _
    rw [hg d List.mem_cons_self]
    exact lcL_mapOn (fun x hx => hg x (List.mem_cons_of_mem _ hx))
/-- a comprehension whose element is any of a kind -/
theorem lcL_any {α : Type} {g : DG} {te : DE} {env : Denv} {f : α → PyData} {P : α → Prop} (hg : ∀ d (Q : PyData → Prop), (∀ x, P x → Q (f x)) → g d env fun env' => te env' Q) : ∀ (ds : List PyData) (Q : List PyData → Prop), (∀ xs : List α, xs.length = ds.length → (∀ x ∈ xs, P x) → Q (xs.map f)) → lcL g dYes te env ds Q
  | [], Q, h => h [] rfl (by simp)
  | d :: ds, Q, h => by
    show g d env fun env' => te env' fun y => lcL g dYes te env ds fun ys => Q (y :: ys)
    refine hg d _ fun x hx => lcL_any hg ds _ fun xs hl hp => ?_
    exact h (x :: xs) (by rw [List.length_cons, List.length_cons, hl]) fun y hy => by
      rcases List.mem_cons.mp hy with rfl | hy
      · exact hx
      · exact hp y hy
/-- takers of every so-manieth up to a bound -/
def TkIn (far : Int) (t : Int × Int) : Prop := 2 ≤ t.1 ∧ t.1 ≤ far ∧ 0 ≤ t.2 ∧ t.2 < t.1
theorem TkIn.ok {far : Int} {t : Int × Int} (h : TkIn far t) (hf : far ≤ 1000) : TkOk t := ⟨h.1, by have := h.2.1; omega, h.2.2⟩
def sp_law_drawn_row : DSp
  | [.bag, .dat (.int takers), .dat (.int far)], R => 0 ≤ takers ∧ takers ≤ 8 ∧ 2 ≤ far ∧ far ≤ 1000 ∧ ∀ rs : List (Int × Int), (rs.length : Int) ≤ takers → (∀ t ∈ rs, TkIn far t) → R (.dat (rowD rs))
  | _, _ => False
/-- _law_drawn_row: 0 bag, 1 takers, 2 far, 3 turn -/
abbrev b_law_drawn_row : DS := (dRet (dCB tupleD (nCons (dFr (nLc (itR1 (nCons (dCall sp_law_take (aBag 0 (aDat (d2 addD (dVar 1) (dC (.int 1))) aNil))) nNil)) (gdName 3) dYes (dCall sp_law_taker (aBag 0 (aDat (dVar 2) aNil))) [3])) nNil)))
theorem rd_law_drawn_row (svs : List SV) (R : RVd → Prop) (h : sp_law_drawn_row svs R) : b_law_drawn_row { nx := fun _ => R (.dat .none), rt := R } (startd 4 svs) := by
  unfold sp_law_drawn_row at h
  split at h
  · rename_i takers far
    obtain ⟨h1, h2, h3, h4, h⟩ := h
    simp only [b_law_drawn_row, dSeq, dAsgG, dAsgN, dRet, dRetN, dRetO, dRet0, dDrop, dIfS, dNext, dApp, dInsert, q_setI, q_setQ, q_take, dFor, dFreeze, dNever, q_par, q_parQ, q_par3, q_parQ3, dParNE, dParDE, gdName, q_gnil, q_gcons, q_gtup, dVar, dOwn, dC, d1, d2, n2, nCons, nNil, nLst, dTup, dFr, dTest, dAnd, dOr, dNot, dAndV, dOrV, dNotV, dIf, dChain, dCB, nCB, dCall, nCall, aDat, aBag, aNil, q_neg, q_add, q_addl, q_addt, q_sub, q_mul, q_mull, q_mult, q_fdiv, q_mod, q_pow, q_lt, q_le, q_gt, q_ge, eqD, neD, isD, isntD, q_isnn, q_isni, q_isnb, q_isnt, q_isnl, q_lenl, q_lent, q_inti, q_intb, q_max2, q_min2, q_listl, q_listt, q_tuplel, q_tuplet, q_sum, q_min, q_max, allD, itSeq, itR1, q_itR2, q_rng2, q_en, q_en1, q_zip, q_zipQ, q_seqr, q_lenr, q_ixr, q_seql, q_seqt, q_rvd, q_rvn, q_catn, q_ixl, q_ixt, q_sl, q_sll, q_slt, q_slr, nSlL, oNone, oSome, nLc, wipeD, q_dropc, q_dropxd, q_dropxb, q_dropxo, q_dropxn, q_drope, dYes, dCnt, q_revl, q_revt, q_revr, nListRg, dTupRg, exInts, exOpt, q_addr1, q_addrr, q_ixk0, q_ixk1, exRow, exTk, cntL, cntQ_some, cntQ_none, List.getElem?_cons_zero, List.getElem?_cons_succ, List.getElem?_nil, Option.some.injEq, SV.dat.injEq, SV.own.injEq, PyData.int.injEq, PyData.bool.injEq, PyData.tuple.injEq, PyData.list.injEq, PyData.str.injEq, RVd.new.injEq, RVd.dat.injEq, exists_eq_left, exists_eq_left', exists_eq_right, List.cons.injEq, List.set_cons_zero, List.set_cons_succ, reduceCtorEq, and_true, true_and, false_and, and_false, not_true_eq_false, not_false_eq_true, if_true, if_false, ite_true, ite_false, decide_eq_true_eq, Bool.not_eq_true', decide_eq_false_iff_not, Bool.and_true, Bool.true_and, Bool.and_false, Bool.false_and, Bool.not_true, Bool.not_false, Bool.false_eq_true, List.map_cons, List.map_nil, List.length_cons, List.length_nil, Nat.zero_add, Nat.reduceAdd, Nat.reduceLeDiff, startd, List.replicate_succ, List.replicate_zero, List.nil_append, List.cons_append, Nat.reduceSub, exists_const, and_self, shp_int, shp_none, shp_bool, eqv_int, dForL_nil, lcL_nil]
    refine ⟨by omega, fun r r0 r1 => ⟨⟨by omega, by omega⟩, ?_, ?_⟩⟩
    · rw [rngD_len]
      omega
    · refine lcL_any (f := tkD) (P := TkIn far) (fun d Q hq => ?_) _ _ fun xs hl hp => h xs ?_ hp
      · simp only [sp_law_taker, dSeq, dAsgG, dAsgN, dRet, dRetN, dRetO, dRet0, dDrop, dIfS, dNext, dApp, dInsert, q_setI, q_setQ, q_take, dFor, dFreeze, dNever, q_par, q_parQ, q_par3, q_parQ3, dParNE, dParDE, gdName, q_gnil, q_gcons, q_gtup, dVar, dOwn, dC, d1, d2, n2, nCons, nNil, nLst, dTup, dFr, dTest, dAnd, dOr, dNot, dAndV, dOrV, dNotV, dIf, dChain, dCB, nCB, dCall, nCall, aDat, aBag, aNil, q_neg, q_add, q_addl, q_addt, q_sub, q_mul, q_mull, q_mult, q_fdiv, q_mod, q_pow, q_lt, q_le, q_gt, q_ge, eqD, neD, isD, isntD, q_isnn, q_isni, q_isnb, q_isnt, q_isnl, q_lenl, q_lent, q_inti, q_intb, q_max2, q_min2, q_listl, q_listt, q_tuplel, q_tuplet, q_sum, q_min, q_max, allD, itSeq, itR1, q_itR2, q_rng2, q_en, q_en1, q_zip, q_zipQ, q_seqr, q_lenr, q_ixr, q_seql, q_seqt, q_rvd, q_rvn, q_catn, q_ixl, q_ixt, q_sl, q_sll, q_slt, q_slr, nSlL, oNone, oSome, nLc, wipeD, q_dropc, q_dropxd, q_dropxb, q_dropxo, q_dropxn, q_drope, dYes, dCnt, q_revl, q_revt, q_revr, nListRg, dTupRg, exInts, exOpt, q_addr1, q_addrr, q_ixk0, q_ixk1, exRow, exTk, cntL, cntQ_some, cntQ_none, List.getElem?_cons_zero, List.getElem?_cons_succ, List.getElem?_nil, Option.some.injEq, SV.dat.injEq, SV.own.injEq, PyData.int.injEq, PyData.bool.injEq, PyData.tuple.injEq, PyData.list.injEq, PyData.str.injEq, RVd.new.injEq, RVd.dat.injEq, exists_eq_left, exists_eq_left', exists_eq_right, List.cons.injEq, List.set_cons_zero, List.set_cons_succ, reduceCtorEq, and_true, true_and, false_and, and_false, not_true_eq_false, not_false_eq_true, if_true, if_false, ite_true, ite_false, decide_eq_true_eq, Bool.not_eq_true', decide_eq_false_iff_not, Bool.and_true, Bool.true_and, Bool.and_false, Bool.false_and, Bool.not_true, Bool.not_false, Bool.false_eq_true, List.map_cons, List.map_nil, List.length_cons, List.length_nil, Nat.zero_add, Nat.reduceAdd, Nat.reduceLeDiff, startd, List.replicate_succ, List.replicate_zero, List.nil_append, List.cons_append, Nat.reduceSub, exists_const, and_self, shp_int, shp_none, shp_bool, eqv_int, dForL_nil, lcL_nil]
        exact ⟨h3, fun e c a1 a2 a3 a4 => hq (e, c) ⟨a1, a2, a3, a4⟩⟩
      · rw [hl, rngD_len]
        omega
  · exact h.elim
theorem len_law_drawn_row (svs : List SV) (R : RVd → Prop) (h : sp_law_drawn_row svs R) : svs.length = 3 := by
  unfold sp_law_drawn_row at h
  split at h
  · rfl
  · exact h.elim
/-! ### gone, piece by piece -/
def pieceG : Int → List (Int × Int) → List Int → Option Int × List Int
  | k, (e, _) :: rs, c :: cs => if (c + 1) % e = 0 then (some k, (c + 1) % e :: cs) else ((pieceG (k + 1) rs cs).1, (c + 1) % e :: (pieceG (k + 1) rs cs).2)
  | _, [], cs => (none, cs)
  | _, _ :: _, [] => (none, [])
def goneG (rs : List (Int × Int)) : List Int → Nat → List (Option Int) × List Int
  | cs, 0 => ([], cs)
  | cs, n + 1 => ((pieceG 0 rs cs).1 :: (goneG rs (pieceG 0 rs cs).2 n).1, (goneG rs (pieceG 0 rs cs).2 n).2)
theorem pieceG_len : ∀ (k : Int) (rs : List (Int × Int)) (cs : List Int), (pieceG k rs cs).2.length = cs.length
  | k, [], cs => by simp [pieceG]
  | k, _ :: _, [] => by simp [pieceG]
  | k, (e, b) :: rs, c :: cs => by
    unfold pieceG
    split
    · simp
    · simp [pieceG_len (k + 1) rs cs]
/-! ### numbers -/
def numbersG (n : Nat) (os : List (Option Int)) : List Int := ((List.range n).map fun (i : Nat) => ((os.count (some ((i : Nat) : Int)) : Nat) : Int)) ++ [((os.count none : Nat) : Int)]
end Pd

set_option maxRecDepth 100000
set_option maxHeartbeats 4000000
/-! Plain mathematics: who, counts, piece by piece. -/
namespace Pd
open PySem L2
theorem emod_succ {x e : Int} (he : 0 < e) : (x % e + 1) % e = (x + 1) % e := by
  rw [Int.add_emod (x % e) 1, Int.emod_emod, ← Int.add_emod]
theorem ediv_succ_z {x e : Int} (he : 0 < e) (h : (x + 1) % e = 0) : (x + 1) / e = x / e + 1 := by
  have h1 := Int.mul_ediv_add_emod x e
  have h2 := Int.mul_ediv_add_emod (x + 1) e
  rw [h] at h2
  have r0 := Int.emod_nonneg x (by omega : e ≠ 0)
  have r1 := Int.emod_lt_of_pos x he
  generalize hq : x / e = q at *
  generalize hq' : (x + 1) / e = q' at *
  generalize x % e = r at *
  have e1 : e * q' = e * q + (r + 1) := by omega
  have e2 : e * (q' - q) = r + 1 := by rw [Int.mul_sub]; omega
  have h3 : 0 < q' - q := by
    refine Int.pos_of_mul_pos_right (a := e) ?_ he
    omega
  have h4 : q' - q < 2 := by
    refine Int.lt_of_mul_lt_mul_left (a := e) ?_ (Int.le_of_lt he)
    omega
  omega
theorem ediv_succ_n {x e : Int} (he : 0 < e) (h : (x + 1) % e ≠ 0) : (x + 1) / e = x / e := by
  have h1 := Int.mul_ediv_add_emod x e
  have r0 := Int.emod_nonneg x (by omega : e ≠ 0)
  have r1 := Int.emod_lt_of_pos x he
  have h2 : (x % e + 1) % e = (x + 1) % e := emod_succ he
  have hr : x % e + 1 < e := by
    rcases Int.lt_or_eq_of_le (show x % e + 1 ≤ e by omega) with z | z
    · exact z
    · exact absurd (by rw [← h2, z, Int.emod_self]) h
  have e1 : x + 1 = (x % e + 1) + e * (x / e) := by omega
  rw [e1, Int.add_mul_ediv_left _ _ (by omega), Int.ediv_eq_zero_of_lt (by omega) hr]
  omega
/-! ### what each has counted behind n pieces -/
def stG : List (Int × Int) → Int → List Int
  | [], _ => []
  | (e, c) :: rs, n => (c + n) % e :: stG rs (n - (n + c) / e)
theorem stG_len : ∀ (rs : List (Int × Int)) (n : Int), (stG rs n).length = rs.length
  | [], _ => rfl
  | (e, c) :: rs, n => by
    show (stG rs _).length + 1 = rs.length + 1
    rw [stG_len]
theorem piece_st : ∀ (rs : List (Int × Int)) (k n : Int), (∀ t ∈ rs, TkOk t) → pieceG k rs (stG rs n) = (whoG k rs (n + 1), stG rs (n + 1))
  | [], k, n, _ => rfl
  | (e, c) :: rs, k, n, ht => by
    obtain ⟨t1, t2, t3, t4⟩ := ht (e, c) List.mem_cons_self
    dsimp only at t1 t2 t3 t4
    have he : 0 < e := by omega
    have e0 : ((c + n) % e + 1) % e = (n + 1 + c) % e := by rw [emod_succ he]; congr 1; omega
    have e1 : n + 1 + c = (n + c) + 1 := by omega
    have e2 : (c + (n + 1)) % e = (n + 1 + c) % e := by congr 1; omega
    simp only [stG, pieceG, whoG, e0, e2]
    by_cases hz : (n + 1 + c) % e = 0
    · have hd : (n + 1 + c) / e = (n + c) / e + 1 := by
        rw [e1] at hz ⊢
        exact ediv_succ_z he hz
      simp only [hz, if_true, hd]
      rw [show n + 1 - ((n + c) / e + 1) = n - (n + c) / e by omega]
    · have hd : (n + 1 + c) / e = (n + c) / e := by
        rw [e1] at hz ⊢
        exact ediv_succ_n he hz
      simp only [hz, if_false, hd]
      rw [piece_st rs (k + 1) (n - (n + c) / e) fun t h => ht t (List.mem_cons_of_mem _ h)]
      rw [show n + 1 - (n + c) / e = n - (n + c) / e + 1 by omega]
theorem stG_zero : ∀ (rs : List (Int × Int)), (∀ t ∈ rs, TkOk t) → stG rs 0 = rs.map (·.2)
  | [], _ => rfl
  | (e, c) :: rs, ht => by
    obtain ⟨t1, t2, t3, t4⟩ := ht (e, c) List.mem_cons_self
    dsimp only at t1 t2 t3 t4
    show (c + 0) % e :: stG rs (0 - (0 + c) / e) = c :: rs.map (·.2)
    rw [Int.zero_add, Int.add_zero, Int.ediv_eq_zero_of_lt t3 t4, Int.emod_eq_of_lt t3 t4, show (0 : Int) - 0 = 0 by omega, stG_zero rs fun t h => ht t (List.mem_cons_of_mem _ h)]
/-- who takes the pieces from n on -/
def seenF (rs : List (Int × Int)) (n : Int) : Nat → List (Option Int)
  | 0 => []
  | m + 1 => whoG 0 rs (n + 1) :: seenF rs (n + 1) m
theorem gone_st {rs : List (Int × Int)} (ht : ∀ t ∈ rs, TkOk t) : ∀ (m : Nat) (n : Int), goneG rs (stG rs n) m = (seenF rs n m, stG rs (n + (m : Nat)))
  | 0, n => by simp [goneG, seenF]
  | m + 1, n => by
    simp only [goneG, piece_st rs 0 n ht, gone_st ht m (n + 1), seenF]
    rw [show n + 1 + (m : Nat) = n + ((m + 1 : Nat) : Int) by omega]
theorem gone_eq {rs : List (Int × Int)} (ht : ∀ t ∈ rs, TkOk t) (m : Nat) : goneG rs (rs.map (·.2)) m = (seenF rs 0 m, stG rs (m : Nat)) := by
  rw [← stG_zero rs ht, gone_st ht, Int.zero_add]
theorem seenF_len (rs : List (Int × Int)) : ∀ (m : Nat) (n : Int), (seenF rs n m).length = m
  | 0, _ => rfl
  | m + 1, n => by
    show (seenF rs (n + 1) m).length + 1 = m + 1
    rw [seenF_len]
theorem seenF_get (rs : List (Int × Int)) : ∀ (m : Nat) (n : Int) (i : Nat), i < m → (seenF rs n m)[i]? = some (whoG 0 rs (n + 1 + (i : Nat)))
  | 0, _, _, h => by omega
  | m + 1, n, 0, _ => by simp [seenF]
  | m + 1, n, i + 1, h => by
    show (seenF rs (n + 1) m)[i]? = _
    rw [seenF_get rs m (n + 1) i (by omega), show n + 1 + 1 + (i : Nat) = n + 1 + ((i + 1 : Nat) : Int) by omega]
theorem seenF_take (rs : List (Int × Int)) : ∀ (m : Nat) (n : Int) (k : Nat), k ≤ m → (seenF rs n m).take k = seenF rs n k
  | m, n, 0, _ => by simp [seenF]
  | 0, n, k + 1, h => by omega
  | m + 1, n, k + 1, h => by
    show whoG 0 rs (n + 1) :: (seenF rs (n + 1) m).take k = whoG 0 rs (n + 1) :: seenF rs (n + 1) k
    rw [seenF_take rs m (n + 1) k (by omega)]
theorem seenF_succ (rs : List (Int × Int)) : ∀ (m : Nat) (n : Int), seenF rs n (m + 1) = seenF rs n m ++ [whoG 0 rs (n + 1 + (m : Nat))]
  | 0, n => by simp [seenF]
  | m + 1, n => by
    show whoG 0 rs (n + 1) :: seenF rs (n + 1) (m + 1) = whoG 0 rs (n + 1) :: (seenF rs (n + 1) m ++ _)
    rw [seenF_succ rs m (n + 1), show n + 1 + 1 + (m : Nat) = n + 1 + ((m + 1 : Nat) : Int) by omega]
/-! ### numbers grow where somebody takes -/
def addO : Int → List Int → Option Int → List Int
  | _, [], _ => []
  | _, [x], o => [if o = none then x + 1 else x]
  | k, x :: y :: r, o => (if o = some k then x + 1 else x) :: addO (k + 1) (y :: r) o
theorem whoG_ge : ∀ (rs : List (Int × Int)) (k p j : Int), whoG k rs p = some j → k ≤ j ∧ j < k + (rs.length : Nat)
  | [], k, p, j, h => by cases h
  | (e, c) :: rs, k, p, j, h => by
    unfold whoG at h
    split at h
    · cases h
      simp
      omega
    · have := whoG_ge rs (k + 1) _ j h
      simp
      omega
theorem addO_lt : ∀ (l : List Int) (k j : Int), j < k → addO k l (some j) = l
  | [], _, _, _ => rfl
  | [x], k, j, _ => by simp [addO]
  | x :: y :: r, k, j, h => by
    unfold addO
    rw [addO_lt (y :: r) (k + 1) j (by omega), if_neg (by intro z; cases z; omega)]
theorem countsG_ne (rs : List (Int × Int)) (n : Int) : ∃ y r, countsG rs n = y :: r := by
  cases rs with
  | nil => exact ⟨n, [], rfl⟩
  | cons t rs =>
    obtain ⟨e, c⟩ := t
    exact ⟨_, _, rfl⟩
theorem countsG_len : ∀ (rs : List (Int × Int)) (n : Int), (countsG rs n).length = rs.length + 1
  | [], _ => rfl
  | (e, c) :: rs, n => by
    show (countsG rs _).length + 1 = rs.length + 1 + 1
    rw [countsG_len]
theorem counts_succ : ∀ (rs : List (Int × Int)) (k n : Int), (∀ t ∈ rs, TkOk t) → countsG rs (n + 1) = addO k (countsG rs n) (whoG k rs (n + 1))
  | [], k, n, _ => by simp [countsG, whoG, addO]
  | (e, c) :: rs, k, n, ht => by
    obtain ⟨t1, t2, t3, t4⟩ := ht (e, c) List.mem_cons_self
    dsimp only at t1 t2 t3 t4
    have he : 0 < e := by omega
    have e1 : n + 1 + c = (n + c) + 1 := by omega
    have ht' : ∀ t ∈ rs, TkOk t := fun t h => ht t (List.mem_cons_of_mem _ h)
    simp only [countsG, whoG]
    obtain ⟨y, r, hy⟩ := countsG_ne rs (n - (n + c) / e)
    by_cases hz : (n + 1 + c) % e = 0
    · have hd : (n + 1 + c) / e = (n + c) / e + 1 := by
        rw [e1] at hz ⊢
        exact ediv_succ_z he hz
      simp only [hz, if_true, hd]
      rw [show n + 1 - ((n + c) / e + 1) = n - (n + c) / e by omega, hy]
      show _ = (if some k = some k then _ else _) :: addO (k + 1) (y :: r) (some k)
      rw [if_pos rfl, addO_lt _ _ _ (by omega)]
    · have hd : (n + 1 + c) / e = (n + c) / e := by
        rw [e1] at hz ⊢
        exact ediv_succ_n he hz
      simp only [hz, if_false, hd]
      rw [show n + 1 - (n + c) / e = n - (n + c) / e + 1 by omega, counts_succ rs (k + 1) _ ht', hy]
      show _ = (if whoG (k + 1) rs (n - (n + c) / e + 1) = some k then _ else _) :: addO (k + 1) (y :: r) _
      rw [if_neg fun z => by
        have := (whoG_ge rs (k + 1) _ k z).1
        omega]
theorem counts_zero : ∀ (rs : List (Int × Int)), (∀ t ∈ rs, TkOk t) → countsG rs 0 = List.replicate (rs.length + 1) 0
  | [], _ => rfl
  | (e, c) :: rs, ht => by
    obtain ⟨t1, t2, t3, t4⟩ := ht (e, c) List.mem_cons_self
    dsimp only at t1 t2 t3 t4
    show (0 + c) / e :: countsG rs (0 - (0 + c) / e) = _
    rw [Int.zero_add, Int.ediv_eq_zero_of_lt t3 t4, show (0 : Int) - 0 = 0 by omega, counts_zero rs fun t h => ht t (List.mem_cons_of_mem _ h)]
    rfl
def numFrom (k : Int) : Nat → List (Option Int) → List Int
  | 0, os => [((os.count none : Nat) : Int)]
  | n + 1, os => ((os.count (some k) : Nat) : Int) :: numFrom (k + 1) n os
theorem numFrom_eq : ∀ (n : Nat) (k : Int) (os : List (Option Int)), numFrom k n os = ((List.range n).map fun (i : Nat) => ((os.count (some (k + ((i : Nat) : Int))) : Nat) : Int)) ++ [((os.count none : Nat) : Int)]
  | 0, _, _ => rfl
  | n + 1, k, os => by
    unfold numFrom
    rw [numFrom_eq n (k + 1) os, List.range_succ_eq_map, List.map_cons, List.map_map]
    simp only [List.cons_append, List.cons.injEq]
    refine ⟨by simp, ?_⟩
    congr 1
    refine List.map_congr_left fun i _ => ?_
    show ((os.count (some (k + 1 + ((i : Nat) : Int))) : Nat) : Int) = ((os.count (some (k + ((i + 1 : Nat) : Int))) : Nat) : Int)
    rw [show k + 1 + ((i : Nat) : Int) = k + ((i + 1 : Nat) : Int) by omega]
theorem numbers_from (n : Nat) (os : List (Option Int)) : numbersG n os = numFrom 0 n os := by
  rw [numFrom_eq]
  unfold numbersG
  congr 1
  refine List.map_congr_left fun i _ => ?_
  rw [Int.zero_add]
theorem numFrom_add : ∀ (n : Nat) (k : Int) (os : List (Option Int)) (o : Option Int), (∀ j, o = some j → j < k + (n : Nat)) → numFrom k n (os ++ [o]) = addO k (numFrom k n os) o
  | 0, k, os, o, h => by
    show [(((os ++ [o]).count none : Nat) : Int)] = [if o = none then ((os.count none : Nat) : Int) + 1 else ((os.count none : Nat) : Int)]
    rw [List.count_append]
    cases o with
    | none => simp
    | some j => simp
  | n + 1, k, os, o, h => by
    have hne : ∃ y r, numFrom (k + 1) n os = y :: r := by
      cases n with
      | zero => exact ⟨_, _, rfl⟩
      | succ n => exact ⟨_, _, rfl⟩
    obtain ⟨y, r, hy⟩ := hne
    unfold numFrom
    rw [numFrom_add n (k + 1) os o (fun j hj => by have := h j hj; omega), hy]
    show _ = (if o = some k then _ else _) :: addO (k + 1) (y :: r) o
    rw [List.count_append]
    congr 1
    by_cases ho : o = some k
    · rw [if_pos ho, ho]
      simp
    · rw [if_neg ho]
      have : List.count (some k) [o] = 0 := List.count_eq_zero.mpr (by simpa using fun z => ho z.symm)
      rw [this]
      simp
theorem counts_numbers {rs : List (Int × Int)} (ht : ∀ t ∈ rs, TkOk t) : ∀ m : Nat, countsG rs (m : Nat) = numbersG rs.length (seenF rs 0 m)
  | 0 => by
    rw [show ((0 : Nat) : Int) = 0 from rfl, counts_zero rs ht, numbers_from]
    show _ = numFrom 0 rs.length []
    rw [numFrom_eq]
    rw [List.replicate_succ']
    congr 1
    refine (List.eq_replicate_iff.mpr ⟨by simp, fun b hb => ?_⟩).symm
    obtain ⟨i, _, rfl⟩ := List.mem_map.mp hb
    rfl
  | m + 1 => by
    rw [show ((m + 1 : Nat) : Int) = (m : Int) + 1 by omega, counts_succ rs 0 _ ht, counts_numbers ht m, seenF_succ, numbers_from, numbers_from, Int.zero_add]
    rw [numFrom_add]
    · rw [Int.add_comm 1 (m : Int)]
    · intro j hj
      have := (whoG_ge rs 0 _ j hj).2
      omega
/-! ### slices -/
theorem cut_to (ds : List PyData) (m : Nat) : cutD ds none (some (m : Int)) = ds.take m := by
  unfold cutD
  rw [HT.sIx_none, HT.sIx_nat, List.drop_zero, Nat.sub_zero]
  rcases Nat.le_total m ds.length with h | h
  · rw [Nat.min_eq_left h]
  · rw [Nat.min_eq_right h, List.take_of_length_le (Nat.le_refl _), List.take_of_length_le h]
theorem cut_from (ds : List PyData) (m : Nat) : cutD ds (some (m : Int)) none = ds.drop m := by
  unfold cutD
  rw [HT.sIx_none, HT.sIx_nat]
  rcases Nat.le_total m ds.length with h | h
  · rw [Nat.min_eq_left h, List.take_of_length_le (by rw [List.length_drop]; exact Nat.le_refl _)]
  · rw [Nat.min_eq_right h, List.drop_of_length_le (Nat.le_refl _), List.drop_of_length_le h]
    simp
theorem cut_last (ds : List PyData) (x : PyData) : cutD (ds ++ [x]) none (some (-1)) = ds := by
  unfold cutD
  rw [HT.sIx_none, List.drop_zero, Nat.sub_zero]
  have : HT.sIx (ds ++ [x]).length (ds ++ [x]).length (some (-1)) = ds.length := by
    show (if (-1 : Int) < 0 then ((-1 : Int) + ((ds ++ [x]).length : Int)).toNat else min (-1 : Int).toNat (ds ++ [x]).length) = _
    rw [if_pos (by decide), List.length_append, List.length_singleton]
    omega
  rw [this, List.take_left]
end Pd

set_option maxRecDepth 100000
set_option maxHeartbeats 4000000
/-! Things of any kind, things spoilt; a row by a reading of the law's own. -/
namespace Pd
open PySem L2
/-- nested at most n deep, no list or tuple longer than m -/
def smN (m : Nat) : Nat → PyData → Prop
  | 0, d => seqD d = none
  | n + 1, d => ∀ ds, seqD d = some ds → ds.length ≤ m ∧ ∀ x ∈ ds, smN m n x
theorem smN_flat {m : Nat} {d : PyData} (h : seqD d = none) : ∀ n, smN m n d
  | 0 => h
  | n + 1 => fun ds e => by
    rw [h] at e
    cases e
theorem smN_mono {m m' : Nat} (hm : m ≤ m') : ∀ {n n' : Nat} {d : PyData}, n ≤ n' → smN m n d → smN m' n' d
  | 0, n', d, _, h => smN_flat h n'
  | n + 1, 0, d, hn, _ => absurd hn (by omega)
  | n + 1, n' + 1, d, hn, h => fun ds e => ⟨Nat.le_trans (h ds e).1 hm, fun x hx => smN_mono hm (Nat.le_of_succ_le_succ hn) ((h ds e).2 x hx)⟩
theorem smN_list {m n : Nat} {ds : List PyData} (hl : ds.length ≤ m) (h : ∀ x ∈ ds, smN m n x) : smN m (n + 1) (.list ds) := fun es e => by
  cases e
  exact ⟨hl, h⟩
theorem smN_tuple {m n : Nat} {ds : List PyData} (hl : ds.length ≤ m) (h : ∀ x ∈ ds, smN m n x) : smN m (n + 1) (.tuple ds) := fun es e => by
  cases e
  exact ⟨hl, h⟩
theorem eqv_bool (a b : Bool) : PyData.eqv (.bool a) (.bool b) = decide (a = b) := by
  cases a <;> cases b <;> simp [PyData.eqv]
theorem kit_tup (d : PyData) : kitB (tyD d) "tuple" = some (isTupB d) := by
  have := isi_tup d fun z => z = .bool (isTupB d)
  cases d with
  | none => exact (show kitB "NoneType" "tuple" = some false by decide +kernel)
  | bool _ => exact (show kitB "bool" "tuple" = some false by decide +kernel)
  | int _ => exact (show kitB "int" "tuple" = some false by decide +kernel)
  | str _ => exact (show kitB "str" "tuple" = some false by decide +kernel)
  | list _ => exact (show kitB "list" "tuple" = some false by decide +kernel)
  | tuple _ => exact (show kitB "tuple" "tuple" = some true by decide +kernel)
  | dict _ => exact (show kitB "dict" "tuple" = some false by decide +kernel)
theorem kit_lst (d : PyData) : kitB (tyD d) "list" = some (isLstB d) := by
  cases d with
  | none => exact (show kitB "NoneType" "list" = some false by decide +kernel)
  | bool _ => exact (show kitB "bool" "list" = some false by decide +kernel)
  | int _ => exact (show kitB "int" "list" = some false by decide +kernel)
  | str _ => exact (show kitB "str" "list" = some false by decide +kernel)
  | list _ => exact (show kitB "list" "list" = some true by decide +kernel)
  | tuple _ => exact (show kitB "tuple" "list" = some false by decide +kernel)
  | dict _ => exact (show kitB "dict" "list" = some false by decide +kernel)
theorem isi2_tl (d : PyData) (Q : PyData → Prop) : isi2D "tuple" "list" d Q = Q (.bool (isTupB d || isLstB d)) := by
  unfold isi2D
  rw [kit_tup, kit_lst]
  simp
/-! ### odd things -/
def sp_law_odd : DSp := fun svs R => ∃ ns : List Int, svs = [.dat (.list (ns.map .int))] ∧ 2 ≤ ns.length ∧ (∀ x ∈ ns, 0 ≤ x ∧ x < 1000) ∧ ∀ d, smN 2 2 d → R (.dat d)
theorem q_odd {ns : List Int} {R : RVd → Prop} : sp_law_odd [.dat (.list (ns.map .int))] R = (2 ≤ ns.length ∧ (∀ x ∈ ns, 0 ≤ x ∧ x < 1000) ∧ ∀ d, smN 2 2 d → R (.dat d)) := by
  simp only [sp_law_odd, List.cons.injEq, SV.dat.injEq, PyData.list.injEq, and_true, exInts]
theorem len_law_odd (svs : List SV) (R : RVd → Prop) (h : sp_law_odd svs R) : svs.length = 1 := by
  obtain ⟨ns, rfl, _⟩ := h
  rfl
theorem at_in {α : Type} {xs : List α} {i : Int} (h0 : 0 ≤ i) (h1 : i < (xs.length : Nat)) : ∃ z, atI xs i = some z ∧ z ∈ xs := by
  obtain ⟨j, rfl⟩ : ∃ j : Nat, i = (j : Int) := ⟨i.toNat, by omega⟩
  have hj : j < xs.length := by omega
  exact ⟨xs[j], atI_nat (List.getElem?_eq_getElem hj), List.getElem_mem hj⟩
theorem at_ints {ns : List Int} {i : Nat} (h : i < ns.length) : ∃ z, atI (ns.map PyData.int) (i : Int) = some (.int z) ∧ z ∈ ns := ⟨ns[i], atI_nat (by rw [List.getElem?_map, List.getElem?_eq_getElem h]; rfl), List.getElem_mem h⟩
/-- _law_odd: 0 picks, 1 odd -/
abbrev b_law_odd : DS := (dSeq (dAsgG (dFr (nLst (nCons (dC .none) (nCons (dC (.bool true)) (nCons (dC (.bool false)) (nCons (d1 negD (dC (.int 1))) (nCons (dC (.int 0)) (nCons (dC (.int 1)) (nCons (dC (.int 2)) (nCons (dC (.int 6)) (nCons (dC (.int 8)) (nCons (dC (.int 40)) (nCons (dC (.int 1000)) (nCons (d2 powD (dC (.int 10)) (dC (.int 18))) (nCons (d2 addD (d2 powD (dC (.int 10)) (dC (.int 18))) (dC (.int 1))) (nCons (d2 powD (dC (.int 10)) (dC (.int 30))) (nCons (dC (.str (Str.ofString ""))) (nCons (dC (.str (Str.ofString "a"))) (nCons (dC (.str (Str.ofString "2"))) nNil))))))))))))))))))) (gdName 1))
  (dSeq (dAsgG (d2 addD (dVar 1) (dFr (nLst (nCons (dTup nNil) (nCons (dFr (nLst nNil)) (nCons (dTup (nCons (dC (.int 0)) nNil)) (nCons (dTup (nCons (dC (.int 2)) nNil)) (nCons (dTup (nCons (dC (.int 2)) (nCons (dC (.int 0)) nNil))) (nCons (dTup (nCons (dTup (nCons (dC (.int 2)) (nCons (dC (.int 0)) nNil))) nNil)) nNil))))))))) (gdName 1))
  (dSeq (dAsgG (d2 addD (dVar 1) (dFr (nLst (nCons (dFr (nLst (nCons (dTup (nCons (dC (.int 2)) (nCons (dC (.int 0)) nNil))) nNil))) (nCons (dTup (nCons (dTup (nCons (dC (.int 2)) (nCons (dC (.int 2)) nNil))) nNil)) (nCons (dTup (nCons (dTup (nCons (dC (.int 1)) (nCons (dC (.int 0)) nNil))) nNil)) (nCons (dTup (nCons (dTup (nCons (dC (.int 2)) (nCons (dC (.int 0)) nNil))) (nCons (dTup (nCons (dC (.int 3)) (nCons (dC (.int 1)) nNil))) nNil))) (nCons (dTup (nCons (dC .none) nNil)) (nCons (dTup (nCons (dTup (nCons (dC (.int 2)) nNil)) nNil)) nNil))))))))) (gdName 1))
  (dRet (d2 ixD (dVar 1) (d2 modD (d2 addD (d2 ixD (dVar 0) (dC (.int 0))) (d2 mulD (dC (.int 7)) (d2 ixD (dVar 0) (dC (.int 1))))) (dCB lenD (nCons (dVar 1) nNil))))))))
/-- one assignment, its value told by itself -/
theorem st_asg {t : DE} {i : Nat} {rest : DS} {D : DEnds} {env : Denv} (P : PyData → Prop) (h : ∀ Q : PyData → Prop, (∀ d, P d → Q d) → t env Q) (hr : ∀ d, P d → rest D (env.set i (some (.dat d)))) : dSeq (dAsgG t (gdName i)) rest D env := h _ hr
theorem st_asg1 {t : DE} {i : Nat} {rest : DS} {D : DEnds} {env : Denv} (d : PyData) (h : ∀ Q : PyData → Prop, Q d → t env Q) (hr : rest D (env.set i (some (.dat d)))) : dSeq (dAsgG t (gdName i)) rest D env := h _ hr
def odd1 : List PyData := [.none, .bool true, .bool false, .int (-1), .int 0, .int 1, .int 2, .int 6, .int 8, .int 40, .int 1000, .int (10 ^ (18 : Int).toNat), .int (10 ^ (18 : Int).toNat + 1), .int (10 ^ (30 : Int).toNat), .str (Str.ofString ""), .str (Str.ofString "a"), .str (Str.ofString "2")]
def odd2 : List PyData := [.tuple [], .list [], .tuple [.int 0], .tuple [.int 2], .tuple [.int 2, .int 0], .tuple [.tuple [.int 2, .int 0]]]
def odd3 : List PyData := [.list [.tuple [.int 2, .int 0]], .tuple [.tuple [.int 2, .int 2]], .tuple [.tuple [.int 1, .int 0]], .tuple [.tuple [.int 2, .int 0], .tuple [.int 3, .int 1]], .tuple [.none], .tuple [.tuple [.int 2]]]
theorem odd_sm {d : PyData} (h : d ∈ (odd1 ++ odd2) ++ odd3) : smN 2 2 d := by
  rcases List.mem_append.mp h with h | h
  · rcases List.mem_append.mp h with h | h
    · simp only [odd1, List.mem_cons, List.not_mem_nil, or_false] at h
      rcases h with h | h | h | h | h | h | h | h | h | h | h | h | h | h | h | h | h <;> subst h <;> exact smN_flat rfl 2
    · simp only [odd2, List.mem_cons, List.not_mem_nil, or_false] at h
      rcases h with h | h | h | h | h | h <;> subst h <;> simp [smN, seqD]
  · simp only [odd3, List.mem_cons, List.not_mem_nil, or_false] at h
    rcases h with h | h | h | h | h | h <;> subst h <;> simp [smN, seqD]
theorem rd_law_odd (svs : List SV) (R : RVd → Prop) (h : sp_law_odd svs R) : b_law_odd { nx := fun _ => R (.dat .none), rt := R } (startd 2 svs) := by
  obtain ⟨ns, rfl, hl, hb, hR⟩ := h
  refine st_asg1 (.list odd1) (fun Q q => ?_) ?_
  · simp only [show (0 : Int) ≤ 18 by decide, show (18 : Int) ≤ 1000 by decide, show (0 : Int) ≤ 30 by decide, show (30 : Int) ≤ 1000 by decide, show (10 : Int).natAbs < 2 ^ 64 by decide, dSeq, dAsgG, dAsgN, dRet, dRetN, dRetO, dRet0, dDrop, dIfS, dNext, dApp, dInsert, q_setI, q_setQ, q_take, dFor, dFreeze, dNever, q_par, q_parQ, q_par3, q_parQ3, dParNE, dParDE, gdName, q_gnil, q_gcons, q_gtup, dVar, dOwn, dC, d1, d2, n2, nCons, nNil, nLst, dTup, dFr, dTest, dAnd, dOr, dNot, dAndV, dOrV, dNotV, dIf, dChain, dCB, nCB, dCall, nCall, aDat, aBag, aNil, q_neg, q_add, q_addl, q_addt, q_sub, q_mul, q_mull, q_mult, q_fdiv, q_mod, q_pow, q_lt, q_le, q_gt, q_ge, eqD, neD, isD, isntD, q_isnn, q_isni, q_isnb, q_isnt, q_isnl, q_lenl, q_lent, q_inti, q_intb, q_max2, q_min2, q_listl, q_listt, q_tuplel, q_tuplet, q_sum, q_min, q_max, allD, itSeq, itR1, q_itR2, q_rng2, q_en, q_en1, q_zip, q_zipQ, q_seqr, q_lenr, q_ixr, q_seql, q_seqt, q_rvd, q_rvn, q_catn, q_ixl, q_ixt, q_sl, q_sll, q_slt, q_slr, nSlL, oNone, oSome, nLc, wipeD, q_dropc, q_dropxd, q_dropxb, q_dropxo, q_dropxn, q_drope, dYes, dCnt, q_revl, q_revt, q_revr, nListRg, dTupRg, exInts, exOpt, q_addr1, q_addrr, q_ixk0, q_ixk1, exRow, exTk, cntL, cntQ_some, cntQ_none, List.getElem?_cons_zero, List.getElem?_cons_succ, List.getElem?_nil, Option.some.injEq, SV.dat.injEq, SV.own.injEq, PyData.int.injEq, PyData.bool.injEq, PyData.tuple.injEq, PyData.list.injEq, PyData.str.injEq, RVd.new.injEq, RVd.dat.injEq, exists_eq_left, exists_eq_left', exists_eq_right, List.cons.injEq, List.set_cons_zero, List.set_cons_succ, reduceCtorEq, and_true, true_and, false_and, and_false, not_true_eq_false, not_false_eq_true, if_true, if_false, ite_true, ite_false, decide_eq_true_eq, Bool.not_eq_true', decide_eq_false_iff_not, Bool.and_true, Bool.true_and, Bool.and_false, Bool.false_and, Bool.not_true, Bool.not_false, Bool.false_eq_true, List.map_cons, List.map_nil, List.length_cons, List.length_nil, Nat.zero_add, Nat.reduceAdd, Nat.reduceLeDiff, startd, List.replicate_succ, List.replicate_zero, List.nil_append, List.cons_append, Nat.reduceSub, exists_const, and_self, shp_int, shp_none, shp_bool, eqv_int, dForL_nil, lcL_nil]
    exact q
  refine st_asg1 (.list (odd1 ++ odd2)) (fun Q q => ?_) ?_
  · simp only [dSeq, dAsgG, dAsgN, dRet, dRetN, dRetO, dRet0, dDrop, dIfS, dNext, dApp, dInsert, q_setI, q_setQ, q_take, dFor, dFreeze, dNever, q_par, q_parQ, q_par3, q_parQ3, dParNE, dParDE, gdName, q_gnil, q_gcons, q_gtup, dVar, dOwn, dC, d1, d2, n2, nCons, nNil, nLst, dTup, dFr, dTest, dAnd, dOr, dNot, dAndV, dOrV, dNotV, dIf, dChain, dCB, nCB, dCall, nCall, aDat, aBag, aNil, q_neg, q_add, q_addl, q_addt, q_sub, q_mul, q_mull, q_mult, q_fdiv, q_mod, q_pow, q_lt, q_le, q_gt, q_ge, eqD, neD, isD, isntD, q_isnn, q_isni, q_isnb, q_isnt, q_isnl, q_lenl, q_lent, q_inti, q_intb, q_max2, q_min2, q_listl, q_listt, q_tuplel, q_tuplet, q_sum, q_min, q_max, allD, itSeq, itR1, q_itR2, q_rng2, q_en, q_en1, q_zip, q_zipQ, q_seqr, q_lenr, q_ixr, q_seql, q_seqt, q_rvd, q_rvn, q_catn, q_ixl, q_ixt, q_sl, q_sll, q_slt, q_slr, nSlL, oNone, oSome, nLc, wipeD, q_dropc, q_dropxd, q_dropxb, q_dropxo, q_dropxn, q_drope, dYes, dCnt, q_revl, q_revt, q_revr, nListRg, dTupRg, exInts, exOpt, q_addr1, q_addrr, q_ixk0, q_ixk1, exRow, exTk, cntL, cntQ_some, cntQ_none, List.getElem?_cons_zero, List.getElem?_cons_succ, List.getElem?_nil, Option.some.injEq, SV.dat.injEq, SV.own.injEq, PyData.int.injEq, PyData.bool.injEq, PyData.tuple.injEq, PyData.list.injEq, PyData.str.injEq, RVd.new.injEq, RVd.dat.injEq, exists_eq_left, exists_eq_left', exists_eq_right, List.cons.injEq, List.set_cons_zero, List.set_cons_succ, reduceCtorEq, and_true, true_and, false_and, and_false, not_true_eq_false, not_false_eq_true, if_true, if_false, ite_true, ite_false, decide_eq_true_eq, Bool.not_eq_true', decide_eq_false_iff_not, Bool.and_true, Bool.true_and, Bool.and_false, Bool.false_and, Bool.not_true, Bool.not_false, Bool.false_eq_true, List.map_cons, List.map_nil, List.length_cons, List.length_nil, Nat.zero_add, Nat.reduceAdd, Nat.reduceLeDiff, startd, List.replicate_succ, List.replicate_zero, List.nil_append, List.cons_append, Nat.reduceSub, exists_const, and_self, shp_int, shp_none, shp_bool, eqv_int, dForL_nil, lcL_nil]
    exact ⟨by decide, q⟩
  refine st_asg1 (.list ((odd1 ++ odd2) ++ odd3)) (fun Q q => ?_) ?_
  · simp only [dSeq, dAsgG, dAsgN, dRet, dRetN, dRetO, dRet0, dDrop, dIfS, dNext, dApp, dInsert, q_setI, q_setQ, q_take, dFor, dFreeze, dNever, q_par, q_parQ, q_par3, q_parQ3, dParNE, dParDE, gdName, q_gnil, q_gcons, q_gtup, dVar, dOwn, dC, d1, d2, n2, nCons, nNil, nLst, dTup, dFr, dTest, dAnd, dOr, dNot, dAndV, dOrV, dNotV, dIf, dChain, dCB, nCB, dCall, nCall, aDat, aBag, aNil, q_neg, q_add, q_addl, q_addt, q_sub, q_mul, q_mull, q_mult, q_fdiv, q_mod, q_pow, q_lt, q_le, q_gt, q_ge, eqD, neD, isD, isntD, q_isnn, q_isni, q_isnb, q_isnt, q_isnl, q_lenl, q_lent, q_inti, q_intb, q_max2, q_min2, q_listl, q_listt, q_tuplel, q_tuplet, q_sum, q_min, q_max, allD, itSeq, itR1, q_itR2, q_rng2, q_en, q_en1, q_zip, q_zipQ, q_seqr, q_lenr, q_ixr, q_seql, q_seqt, q_rvd, q_rvn, q_catn, q_ixl, q_ixt, q_sl, q_sll, q_slt, q_slr, nSlL, oNone, oSome, nLc, wipeD, q_dropc, q_dropxd, q_dropxb, q_dropxo, q_dropxn, q_drope, dYes, dCnt, q_revl, q_revt, q_revr, nListRg, dTupRg, exInts, exOpt, q_addr1, q_addrr, q_ixk0, q_ixk1, exRow, exTk, cntL, cntQ_some, cntQ_none, List.getElem?_cons_zero, List.getElem?_cons_succ, List.getElem?_nil, Option.some.injEq, SV.dat.injEq, SV.own.injEq, PyData.int.injEq, PyData.bool.injEq, PyData.tuple.injEq, PyData.list.injEq, PyData.str.injEq, RVd.new.injEq, RVd.dat.injEq, exists_eq_left, exists_eq_left', exists_eq_right, List.cons.injEq, List.set_cons_zero, List.set_cons_succ, reduceCtorEq, and_true, true_and, false_and, and_false, not_true_eq_false, not_false_eq_true, if_true, if_false, ite_true, ite_false, decide_eq_true_eq, Bool.not_eq_true', decide_eq_false_iff_not, Bool.and_true, Bool.true_and, Bool.and_false, Bool.false_and, Bool.not_true, Bool.not_false, Bool.false_eq_true, List.map_cons, List.map_nil, List.length_cons, List.length_nil, Nat.zero_add, Nat.reduceAdd, Nat.reduceLeDiff, startd, List.replicate_succ, List.replicate_zero, List.nil_append, List.cons_append, Nat.reduceSub, exists_const, and_self, shp_int, shp_none, shp_bool, eqv_int, dForL_nil, lcL_nil]
    exact ⟨by decide, q⟩
  obtain ⟨z0, e0, m0⟩ := at_ints (ns := ns) (i := 0) (by omega)
  obtain ⟨z1, e1, m1⟩ := at_ints (ns := ns) (i := 1) (by omega)
  have e0 : atI (ns.map PyData.int) 0 = some (.int z0) := e0
  have e1 : atI (ns.map PyData.int) 1 = some (.int z1) := e1
  obtain ⟨p0, p1⟩ := hb z1 m1
  have mo : mulOk 7 z1 := .inl ⟨by decide, by omega⟩
  have hlen : ((odd1 ++ odd2) ++ odd3).length = 29 := rfl
  have hmod := Int.emod_nonneg (z0 + 7 * z1) (show (29 : Int) ≠ 0 by decide)
  have hmod2 := Int.emod_lt_of_pos (z0 + 7 * z1) (show (0 : Int) < 29 by decide)
  obtain ⟨d, hd, hm⟩ := at_in (xs := (odd1 ++ odd2) ++ odd3) (i := (z0 + 7 * z1) % 29) hmod (by rw [hlen]; exact hmod2)
  simp only [e0, e1, mo, hlen, dSeq, dAsgG, dAsgN, dRet, dRetN, dRetO, dRet0, dDrop, dIfS, dNext, dApp, dInsert, q_setI, q_setQ, q_take, dFor, dFreeze, dNever, q_par, q_parQ, q_par3, q_parQ3, dParNE, dParDE, gdName, q_gnil, q_gcons, q_gtup, dVar, dOwn, dC, d1, d2, n2, nCons, nNil, nLst, dTup, dFr, dTest, dAnd, dOr, dNot, dAndV, dOrV, dNotV, dIf, dChain, dCB, nCB, dCall, nCall, aDat, aBag, aNil, q_neg, q_add, q_addl, q_addt, q_sub, q_mul, q_mull, q_mult, q_fdiv, q_mod, q_pow, q_lt, q_le, q_gt, q_ge, eqD, neD, isD, isntD, q_isnn, q_isni, q_isnb, q_isnt, q_isnl, q_lenl, q_lent, q_inti, q_intb, q_max2, q_min2, q_listl, q_listt, q_tuplel, q_tuplet, q_sum, q_min, q_max, allD, itSeq, itR1, q_itR2, q_rng2, q_en, q_en1, q_zip, q_zipQ, q_seqr, q_lenr, q_ixr, q_seql, q_seqt, q_rvd, q_rvn, q_catn, q_ixl, q_ixt, q_sl, q_sll, q_slt, q_slr, nSlL, oNone, oSome, nLc, wipeD, q_dropc, q_dropxd, q_dropxb, q_dropxo, q_dropxn, q_drope, dYes, dCnt, q_revl, q_revt, q_revr, nListRg, dTupRg, exInts, exOpt, q_addr1, q_addrr, q_ixk0, q_ixk1, exRow, exTk, cntL, cntQ_some, cntQ_none, List.getElem?_cons_zero, List.getElem?_cons_succ, List.getElem?_nil, Option.some.injEq, SV.dat.injEq, SV.own.injEq, PyData.int.injEq, PyData.bool.injEq, PyData.tuple.injEq, PyData.list.injEq, PyData.str.injEq, RVd.new.injEq, RVd.dat.injEq, exists_eq_left, exists_eq_left', exists_eq_right, List.cons.injEq, List.set_cons_zero, List.set_cons_succ, reduceCtorEq, and_true, true_and, false_and, and_false, not_true_eq_false, not_false_eq_true, if_true, if_false, ite_true, ite_false, decide_eq_true_eq, Bool.not_eq_true', decide_eq_false_iff_not, Bool.and_true, Bool.true_and, Bool.and_false, Bool.false_and, Bool.not_true, Bool.not_false, Bool.false_eq_true, List.map_cons, List.map_nil, List.length_cons, List.length_nil, Nat.zero_add, Nat.reduceAdd, Nat.reduceLeDiff, startd, List.replicate_succ, List.replicate_zero, List.nil_append, List.cons_append, Nat.reduceSub, exists_const, and_self, shp_int, shp_none, shp_bool, eqv_int, dForL_nil, lcL_nil]
  exact ⟨by decide, d, hd, hR d (odd_sm hm)⟩
end Pd

set_option maxRecDepth 100000
set_option maxHeartbeats 4000000
namespace Pd
open PySem L2
/-! ### a thing spoilt -/
def sp_law_spoilt : Nat → DSp
  | 0 => fun _ _ => False
  | N + 1 => fun svs R => ∃ (m n : Nat) (d : PyData) (ns : List Int), svs = [.dat d, .dat (.list (ns.map .int))] ∧ n ≤ N ∧ 3 ≤ ns.length ∧ (∀ x ∈ ns, 0 ≤ x ∧ x < 1000) ∧ 2 ≤ m ∧ m ≤ 1000 ∧ smN m n d ∧ ∀ r : RVd, smN (m + 1) (n + 2) r.d → R r
theorem len_law_spoilt (n : Nat) (svs : List SV) (R : RVd → Prop) (h : sp_law_spoilt (n + 1) svs R) : svs.length = 2 := by
  obtain ⟨m, n, d, ns, rfl, _⟩ := h
  rfl
theorem cut_fromI (ns : List Int) (k : Nat) : cutD (ns.map PyData.int) (some (k : Int)) none = (ns.drop k).map PyData.int := by
  rw [cut_from, List.map_drop]
theorem drop_bd {ns : List Int} {k : Nat} (h : ∀ x ∈ ns, 0 ≤ x ∧ x < 1000) : ∀ x ∈ ns.drop k, 0 ≤ x ∧ x < 1000 := fun x hx => h x (List.mem_of_mem_drop hx)
/-- _law_spoilt: 0 thing, 1 picks, 2 pieces, 3 at, 4 turn_by -/
abbrev b_law_spoilt (n : Nat) : DS := (dSeq (dIfS (dOr (dNot (dTest (d1 (isi2D "tuple" "list") (dVar 0)))) (dOr (dTest (d2 eqD (dCB lenD (nCons (dVar 0) nNil)) (dC (.int 0)))) (dOr (dTest (d2 ltD (dCB lenD (nCons (dVar 1) nNil)) (dC (.int 9)))) (dTest (d2 eqD (d2 modD (d2 ixD (dVar 1) (dC (.int 0))) (dC (.int 9))) (dC (.int 0))))))) (dRet (dCall sp_law_odd (aDat (dSl (dVar 1) (oSome (dC (.int 1))) oNone) aNil))) dNext)
  (dSeq (dAsgN (nCB listN (nCons (dVar 0) nNil)) 2)
  (dSeq (dAsgG (d2 modD (d2 ixD (dVar 1) (dC (.int 1))) (dCB lenD (nCons (dOwn 2) nNil))) (gdName 3))
  (dSeq (dAsgG (d2 modD (d2 ixD (dVar 1) (dC (.int 2))) (dC (.int 12))) (gdName 4))
  (dSeq (dIfS (dTest (d2 eqD (dVar 4) (dC (.int 0)))) (dAsgN (n2 catN (dSl (dOwn 2) oNone (oSome (dVar 3))) (dSl (dOwn 2) (oSome (d2 addD (dVar 3) (dC (.int 1)))) oNone)) 2) (dIfS (dTest (d2 eqD (dVar 4) (dC (.int 1)))) (dAsgN (n2 catN (dSl (dOwn 2) oNone (oSome (d2 addD (dVar 3) (dC (.int 1))))) (dSl (dOwn 2) (oSome (dVar 3)) oNone)) 2) (dIfS (dTest (d2 eqD (dVar 4) (dC (.int 2)))) (dAsgN (n2 catN (dSl (dOwn 2) (oSome (dVar 3)) oNone) (dSl (dOwn 2) oNone (oSome (dVar 3)))) 2) (dIfS (dTest (d2 eqD (dVar 4) (dC (.int 3)))) (dAsgN (n2 catN (d2 addD (dSl (dOwn 2) oNone (oSome (dVar 3))) (dFr (nLst (nCons (dCall sp_law_odd (aDat (dSl (dVar 1) (oSome (dC (.int 3))) oNone) aNil)) nNil)))) (dSl (dOwn 2) (oSome (dVar 3)) oNone)) 2) (dIfS (dTest (d2 gtD (dVar 4) (dC (.int 4)))) (dSetI 2 (dVar 3) (dCall (sp_law_spoilt n) (aDat (d2 ixD (dOwn 2) (dVar 3)) (aDat (dSl (dVar 1) (oSome (dC (.int 4))) oNone) aNil)))) dNext)))))
  (dSeq (dIfS (dTest (d2 eqD (d1 (isiD "tuple") (dVar 0)) (d2 eqD (dVar 4) (dC (.int 4))))) (dRetO 2) dNext)
  (dRet (dCB tupleD (nCons (dOwn 2) nNil)))))))))
theorem rd_law_spoilt (N : Nat) (svs : List SV) (R : RVd → Prop) (h : sp_law_spoilt (N + 1) svs R) : b_law_spoilt N { nx := fun _ => R (.dat .none), rt := R } (startd 5 svs) := by
  obtain ⟨m, n, d, ns, rfl, hn, hl, hb, m2, m1000, hd, hR⟩ := h
  obtain ⟨z0, e0, i0⟩ := at_ints (ns := ns) (i := 0) (by omega)
  obtain ⟨z1, e1, i1⟩ := at_ints (ns := ns) (i := 1) (by omega)
  obtain ⟨z2, e2, i2⟩ := at_ints (ns := ns) (i := 2) (by omega)
  have e0 : atI (ns.map PyData.int) 0 = some (.int z0) := e0
  have e1 : atI (ns.map PyData.int) 1 = some (.int z1) := e1
  have e2 : atI (ns.map PyData.int) 2 = some (.int z2) := e2
  have c1 : cutD (ns.map PyData.int) (some 1) none = (ns.drop 1).map PyData.int := cut_fromI ns 1
  have c3 : cutD (ns.map PyData.int) (some 3) none = (ns.drop 3).map PyData.int := cut_fromI ns 3
  have c4 : cutD (ns.map PyData.int) (some 4) none = (ns.drop 4).map PyData.int := cut_fromI ns 4
  -- an odd thing instead
  have odd : ∀ d', smN 2 2 d' → R (.dat d') := fun d' h' => hR (.dat d') (smN_mono (by omega) (by omega) h')
  have o1 : (2 ≤ (ns.drop 1).length ∧ (∀ x ∈ ns.drop 1, 0 ≤ x ∧ x < 1000) ∧ ∀ d', smN 2 2 d' → R (.dat d')) := ⟨by rw [List.length_drop]; omega, drop_bd hb, odd⟩
  cases hs : seqD d with
  | none =>
    have ht : (isTupB d || isLstB d) = false := by
      cases d <;> first | rfl | cases hs
    simp only [b_law_spoilt, isi2_tl, ht, c1, q_odd, dSeq, dAsgG, dAsgN, dRet, dRetN, dRetO, dRet0, dDrop, dIfS, dNext, dApp, dInsert, q_setI, q_setQ, q_take, dFor, dFreeze, dNever, q_par, q_parQ, q_par3, q_parQ3, dParNE, dParDE, gdName, q_gnil, q_gcons, q_gtup, dVar, dOwn, dC, d1, d2, n2, nCons, nNil, nLst, dTup, dFr, dTest, dAnd, dOr, dNot, dAndV, dOrV, dNotV, dIf, dChain, dCB, nCB, dCall, nCall, aDat, aBag, aNil, q_neg, q_add, q_addl, q_addt, q_sub, q_mul, q_mull, q_mult, q_fdiv, q_mod, q_pow, q_lt, q_le, q_gt, q_ge, eqD, neD, isD, isntD, q_isnn, q_isni, q_isnb, q_isnt, q_isnl, q_lenl, q_lent, q_inti, q_intb, q_max2, q_min2, q_listl, q_listt, q_tuplel, q_tuplet, q_sum, q_min, q_max, allD, itSeq, itR1, q_itR2, q_rng2, q_en, q_en1, q_zip, q_zipQ, q_seqr, q_lenr, q_ixr, q_seql, q_seqt, q_rvd, q_rvn, q_catn, q_ixl, q_ixt, q_sl, q_sll, q_slt, q_slr, nSlL, oNone, oSome, nLc, wipeD, q_dropc, q_dropxd, q_dropxb, q_dropxo, q_dropxn, q_drope, dYes, dCnt, q_revl, q_revt, q_revr, nListRg, dTupRg, exInts, exOpt, q_addr1, q_addrr, q_ixk0, q_ixk1, exRow, exTk, cntL, cntQ_some, cntQ_none, List.getElem?_cons_zero, List.getElem?_cons_succ, List.getElem?_nil, Option.some.injEq, SV.dat.injEq, SV.own.injEq, PyData.int.injEq, PyData.bool.injEq, PyData.tuple.injEq, PyData.list.injEq, PyData.str.injEq, RVd.new.injEq, RVd.dat.injEq, exists_eq_left, exists_eq_left', exists_eq_right, List.cons.injEq, List.set_cons_zero, List.set_cons_succ, reduceCtorEq, and_true, true_and, false_and, and_false, not_true_eq_false, not_false_eq_true, if_true, if_false, ite_true, ite_false, decide_eq_true_eq, Bool.not_eq_true', decide_eq_false_iff_not, Bool.and_true, Bool.true_and, Bool.and_false, Bool.false_and, Bool.not_true, Bool.not_false, Bool.false_eq_true, List.map_cons, List.map_nil, List.length_cons, List.length_nil, Nat.zero_add, Nat.reduceAdd, Nat.reduceLeDiff, startd, List.replicate_succ, List.replicate_zero, List.nil_append, List.cons_append, Nat.reduceSub, exists_const, and_self, shp_int, shp_none, shp_bool, eqv_int, dForL_nil, lcL_nil]
    exact o1
  | some ds =>
    have ht : (isTupB d || isLstB d) = true := by
      cases d <;> first | rfl | cases hs
    have hlen : ∀ Q : PyData → Prop, lenD [d] Q = Q (.int ds.length) := fun Q => by
      cases d <;> first | (cases hs; rfl) | cases hs
    have hlst : ∀ Q : List PyData → Prop, listN [d] Q = Q ds := fun Q => by
      cases d <;> first | (cases hs; rfl) | cases hs
    cases n with
    | zero =>
      rw [show seqD d = none from hd] at hs
      cases hs
    | succ n =>
    obtain ⟨N', rfl⟩ : ∃ N', N = N' + 1 := ⟨N - 1, by omega⟩
    obtain ⟨dl, dx⟩ := hd ds hs
    have fin : ∀ P : List PyData, P.length ≤ m + 1 → (∀ x ∈ P, smN (m + 1) (n + 2) x) → R (.new P) ∧ R (.dat (.tuple P)) := fun P h1 h2 => ⟨hR (.new P) (smN_list h1 h2), hR (.dat (.tuple P)) (smN_tuple h1 h2)⟩
    have dx' : ∀ x ∈ ds, smN (m + 1) (n + 2) x := fun x hx => smN_mono (by omega) (by omega) (dx x hx)
    by_cases hz : ds.length = 0
    · have hz' : ((ds.length : Nat) : Int) = 0 := by omega
      simp only [b_law_spoilt, isi2_tl, ht, hlen, hz', c1, q_odd, decide_true, dSeq, dAsgG, dAsgN, dRet, dRetN, dRetO, dRet0, dDrop, dIfS, dNext, dApp, dInsert, q_setI, q_setQ, q_take, dFor, dFreeze, dNever, q_par, q_parQ, q_par3, q_parQ3, dParNE, dParDE, gdName, q_gnil, q_gcons, q_gtup, dVar, dOwn, dC, d1, d2, n2, nCons, nNil, nLst, dTup, dFr, dTest, dAnd, dOr, dNot, dAndV, dOrV, dNotV, dIf, dChain, dCB, nCB, dCall, nCall, aDat, aBag, aNil, q_neg, q_add, q_addl, q_addt, q_sub, q_mul, q_mull, q_mult, q_fdiv, q_mod, q_pow, q_lt, q_le, q_gt, q_ge, eqD, neD, isD, isntD, q_isnn, q_isni, q_isnb, q_isnt, q_isnl, q_lenl, q_lent, q_inti, q_intb, q_max2, q_min2, q_listl, q_listt, q_tuplel, q_tuplet, q_sum, q_min, q_max, allD, itSeq, itR1, q_itR2, q_rng2, q_en, q_en1, q_zip, q_zipQ, q_seqr, q_lenr, q_ixr, q_seql, q_seqt, q_rvd, q_rvn, q_catn, q_ixl, q_ixt, q_sl, q_sll, q_slt, q_slr, nSlL, oNone, oSome, nLc, wipeD, q_dropc, q_dropxd, q_dropxb, q_dropxo, q_dropxn, q_drope, dYes, dCnt, q_revl, q_revt, q_revr, nListRg, dTupRg, exInts, exOpt, q_addr1, q_addrr, q_ixk0, q_ixk1, exRow, exTk, cntL, cntQ_some, cntQ_none, List.getElem?_cons_zero, List.getElem?_cons_succ, List.getElem?_nil, Option.some.injEq, SV.dat.injEq, SV.own.injEq, PyData.int.injEq, PyData.bool.injEq, PyData.tuple.injEq, PyData.list.injEq, PyData.str.injEq, RVd.new.injEq, RVd.dat.injEq, exists_eq_left, exists_eq_left', exists_eq_right, List.cons.injEq, List.set_cons_zero, List.set_cons_succ, reduceCtorEq, and_true, true_and, false_and, and_false, not_true_eq_false, not_false_eq_true, if_true, if_false, ite_true, ite_false, decide_eq_true_eq, Bool.not_eq_true', decide_eq_false_iff_not, Bool.and_true, Bool.true_and, Bool.and_false, Bool.false_and, Bool.not_true, Bool.not_false, Bool.false_eq_true, List.map_cons, List.map_nil, List.length_cons, List.length_nil, Nat.zero_add, Nat.reduceAdd, Nat.reduceLeDiff, startd, List.replicate_succ, List.replicate_zero, List.nil_append, List.cons_append, Nat.reduceSub, exists_const, and_self, shp_int, shp_none, shp_bool, eqv_int, dForL_nil, lcL_nil]
      exact o1
    · have hz' : ¬ ((ds.length : Nat) : Int) = 0 := by omega
      by_cases h9 : ns.length < 9
      · have h9' : ((ns.length : Nat) : Int) < 9 := by omega
        simp only [b_law_spoilt, isi2_tl, ht, hlen, hz', List.length_map, h9', c1, q_odd, decide_true, decide_false, dSeq, dAsgG, dAsgN, dRet, dRetN, dRetO, dRet0, dDrop, dIfS, dNext, dApp, dInsert, q_setI, q_setQ, q_take, dFor, dFreeze, dNever, q_par, q_parQ, q_par3, q_parQ3, dParNE, dParDE, gdName, q_gnil, q_gcons, q_gtup, dVar, dOwn, dC, d1, d2, n2, nCons, nNil, nLst, dTup, dFr, dTest, dAnd, dOr, dNot, dAndV, dOrV, dNotV, dIf, dChain, dCB, nCB, dCall, nCall, aDat, aBag, aNil, q_neg, q_add, q_addl, q_addt, q_sub, q_mul, q_mull, q_mult, q_fdiv, q_mod, q_pow, q_lt, q_le, q_gt, q_ge, eqD, neD, isD, isntD, q_isnn, q_isni, q_isnb, q_isnt, q_isnl, q_lenl, q_lent, q_inti, q_intb, q_max2, q_min2, q_listl, q_listt, q_tuplel, q_tuplet, q_sum, q_min, q_max, allD, itSeq, itR1, q_itR2, q_rng2, q_en, q_en1, q_zip, q_zipQ, q_seqr, q_lenr, q_ixr, q_seql, q_seqt, q_rvd, q_rvn, q_catn, q_ixl, q_ixt, q_sl, q_sll, q_slt, q_slr, nSlL, oNone, oSome, nLc, wipeD, q_dropc, q_dropxd, q_dropxb, q_dropxo, q_dropxn, q_drope, dYes, dCnt, q_revl, q_revt, q_revr, nListRg, dTupRg, exInts, exOpt, q_addr1, q_addrr, q_ixk0, q_ixk1, exRow, exTk, cntL, cntQ_some, cntQ_none, List.getElem?_cons_zero, List.getElem?_cons_succ, List.getElem?_nil, Option.some.injEq, SV.dat.injEq, SV.own.injEq, PyData.int.injEq, PyData.bool.injEq, PyData.tuple.injEq, PyData.list.injEq, PyData.str.injEq, RVd.new.injEq, RVd.dat.injEq, exists_eq_left, exists_eq_left', exists_eq_right, List.cons.injEq, List.set_cons_zero, List.set_cons_succ, reduceCtorEq, and_true, true_and, false_and, and_false, not_true_eq_false, not_false_eq_true, if_true, if_false, ite_true, ite_false, decide_eq_true_eq, Bool.not_eq_true', decide_eq_false_iff_not, Bool.and_true, Bool.true_and, Bool.and_false, Bool.false_and, Bool.not_true, Bool.not_false, Bool.false_eq_true, List.map_cons, List.map_nil, List.length_cons, List.length_nil, Nat.zero_add, Nat.reduceAdd, Nat.reduceLeDiff, startd, List.replicate_succ, List.replicate_zero, List.nil_append, List.cons_append, Nat.reduceSub, exists_const, and_self, shp_int, shp_none, shp_bool, eqv_int, dForL_nil, lcL_nil]
        exact o1
      · have h9' : ¬ ((ns.length : Nat) : Int) < 9 := by omega
        by_cases h0 : z0 % 9 = 0
        · simp only [b_law_spoilt, isi2_tl, ht, hlen, hz', List.length_map, h9', e0, h0, c1, q_odd, decide_true, decide_false, show (0 : Int) < 9 by decide, dSeq, dAsgG, dAsgN, dRet, dRetN, dRetO, dRet0, dDrop, dIfS, dNext, dApp, dInsert, q_setI, q_setQ, q_take, dFor, dFreeze, dNever, q_par, q_parQ, q_par3, q_parQ3, dParNE, dParDE, gdName, q_gnil, q_gcons, q_gtup, dVar, dOwn, dC, d1, d2, n2, nCons, nNil, nLst, dTup, dFr, dTest, dAnd, dOr, dNot, dAndV, dOrV, dNotV, dIf, dChain, dCB, nCB, dCall, nCall, aDat, aBag, aNil, q_neg, q_add, q_addl, q_addt, q_sub, q_mul, q_mull, q_mult, q_fdiv, q_mod, q_pow, q_lt, q_le, q_gt, q_ge, eqD, neD, isD, isntD, q_isnn, q_isni, q_isnb, q_isnt, q_isnl, q_lenl, q_lent, q_inti, q_intb, q_max2, q_min2, q_listl, q_listt, q_tuplel, q_tuplet, q_sum, q_min, q_max, allD, itSeq, itR1, q_itR2, q_rng2, q_en, q_en1, q_zip, q_zipQ, q_seqr, q_lenr, q_ixr, q_seql, q_seqt, q_rvd, q_rvn, q_catn, q_ixl, q_ixt, q_sl, q_sll, q_slt, q_slr, nSlL, oNone, oSome, nLc, wipeD, q_dropc, q_dropxd, q_dropxb, q_dropxo, q_dropxn, q_drope, dYes, dCnt, q_revl, q_revt, q_revr, nListRg, dTupRg, exInts, exOpt, q_addr1, q_addrr, q_ixk0, q_ixk1, exRow, exTk, cntL, cntQ_some, cntQ_none, List.getElem?_cons_zero, List.getElem?_cons_succ, List.getElem?_nil, Option.some.injEq, SV.dat.injEq, SV.own.injEq, PyData.int.injEq, PyData.bool.injEq, PyData.tuple.injEq, PyData.list.injEq, PyData.str.injEq, RVd.new.injEq, RVd.dat.injEq, exists_eq_left, exists_eq_left', exists_eq_right, List.cons.injEq, List.set_cons_zero, List.set_cons_succ, reduceCtorEq, and_true, true_and, false_and, and_false, not_true_eq_false, not_false_eq_true, if_true, if_false, ite_true, ite_false, decide_eq_true_eq, Bool.not_eq_true', decide_eq_false_iff_not, Bool.and_true, Bool.true_and, Bool.and_false, Bool.false_and, Bool.not_true, Bool.not_false, Bool.false_eq_true, List.map_cons, List.map_nil, List.length_cons, List.length_nil, Nat.zero_add, Nat.reduceAdd, Nat.reduceLeDiff, startd, List.replicate_succ, List.replicate_zero, List.nil_append, List.cons_append, Nat.reduceSub, exists_const, and_self, shp_int, shp_none, shp_bool, eqv_int, dForL_nil, lcL_nil]
          exact o1
        · have hpos : (0 : Int) < ((ds.length : Nat) : Int) := by omega
          obtain ⟨k, hk⟩ : ∃ k : Nat, z1 % ((ds.length : Nat) : Int) = (k : Int) := ⟨(z1 % ((ds.length : Nat) : Int)).toNat, by have := Int.emod_nonneg z1 (show ((ds.length : Nat) : Int) ≠ 0 by omega); omega⟩
          have hkl : k < ds.length := by have := Int.emod_lt_of_pos z1 hpos; omega
          have a1 : cutD ds none (some (k : Int)) = ds.take k := cut_to ds k
          have a2 : cutD ds (some (k : Int)) none = ds.drop k := cut_from ds k
          have a3 : cutD ds none (some ((k : Int) + 1)) = ds.take (k + 1) := cut_to ds (k + 1)
          have a4 : cutD ds (some ((k : Int) + 1)) none = ds.drop (k + 1) := cut_from ds (k + 1)
          have mt : ∀ {x : PyData} {j : Nat}, x ∈ ds.take j → x ∈ ds := List.mem_of_mem_take
          have md : ∀ {x : PyData} {j : Nat}, x ∈ ds.drop j → x ∈ ds := List.mem_of_mem_drop
          have lt : ∀ j, (ds.take j).length ≤ ds.length := fun j => by rw [List.length_take]; omega
          have ld : ∀ j, (ds.drop j).length ≤ ds.length := fun j => by rw [List.length_drop]; omega
          have sm : ∀ i j, (ds.take i).length + (ds.drop j).length ≤ 1000000 := fun i j => by have := lt i; have := ld j; omega
          have fin2 : ∀ (P : List PyData) (b1 b2 : Bool), P.length ≤ m + 1 → (∀ x ∈ P, smN (m + 1) (n + 2) x) → (if b1 = b2 then R (.new P) else R (.dat (.tuple P))) := fun P b1 b2 h1 h2 => by
            split
            · exact (fin P h1 h2).1
            · exact (fin P h1 h2).2
          generalize htb : z2 % 12 = tb
          simp only [b_law_spoilt, isi2_tl, ht, hlen, hlst, hz', List.length_map, h9', e0, h0, e1, e2, hpos, hk, htb, isi_tup, a1, a2, a3, a4, eqv_bool, decide_true, decide_false, show (0 : Int) < 9 by decide, show (0 : Int) < 12 by decide, dSeq, dAsgG, dAsgN, dRet, dRetN, dRetO, dRet0, dDrop, dIfS, dNext, dApp, dInsert, q_setI, q_setQ, q_take, dFor, dFreeze, dNever, q_par, q_parQ, q_par3, q_parQ3, dParNE, dParDE, gdName, q_gnil, q_gcons, q_gtup, dVar, dOwn, dC, d1, d2, n2, nCons, nNil, nLst, dTup, dFr, dTest, dAnd, dOr, dNot, dAndV, dOrV, dNotV, dIf, dChain, dCB, nCB, dCall, nCall, aDat, aBag, aNil, q_neg, q_add, q_addl, q_addt, q_sub, q_mul, q_mull, q_mult, q_fdiv, q_mod, q_pow, q_lt, q_le, q_gt, q_ge, eqD, neD, isD, isntD, q_isnn, q_isni, q_isnb, q_isnt, q_isnl, q_lenl, q_lent, q_inti, q_intb, q_max2, q_min2, q_listl, q_listt, q_tuplel, q_tuplet, q_sum, q_min, q_max, allD, itSeq, itR1, q_itR2, q_rng2, q_en, q_en1, q_zip, q_zipQ, q_seqr, q_lenr, q_ixr, q_seql, q_seqt, q_rvd, q_rvn, q_catn, q_ixl, q_ixt, q_sl, q_sll, q_slt, q_slr, nSlL, oNone, oSome, nLc, wipeD, q_dropc, q_dropxd, q_dropxb, q_dropxo, q_dropxn, q_drope, dYes, dCnt, q_revl, q_revt, q_revr, nListRg, dTupRg, exInts, exOpt, q_addr1, q_addrr, q_ixk0, q_ixk1, exRow, exTk, cntL, cntQ_some, cntQ_none, List.getElem?_cons_zero, List.getElem?_cons_succ, List.getElem?_nil, Option.some.injEq, SV.dat.injEq, SV.own.injEq, PyData.int.injEq, PyData.bool.injEq, PyData.tuple.injEq, PyData.list.injEq, PyData.str.injEq, RVd.new.injEq, RVd.dat.injEq, exists_eq_left, exists_eq_left', exists_eq_right, List.cons.injEq, List.set_cons_zero, List.set_cons_succ, reduceCtorEq, and_true, true_and, false_and, and_false, not_true_eq_false, not_false_eq_true, if_true, if_false, ite_true, ite_false, decide_eq_true_eq, Bool.not_eq_true', decide_eq_false_iff_not, Bool.and_true, Bool.true_and, Bool.and_false, Bool.false_and, Bool.not_true, Bool.not_false, Bool.false_eq_true, List.map_cons, List.map_nil, List.length_cons, List.length_nil, Nat.zero_add, Nat.reduceAdd, Nat.reduceLeDiff, startd, List.replicate_succ, List.replicate_zero, List.nil_append, List.cons_append, Nat.reduceSub, exists_const, and_self, shp_int, shp_none, shp_bool, eqv_int, dForL_nil, lcL_nil]
          refine ite2 (fun _ => ⟨sm _ _, fin2 _ _ _ ?_ fun x hx => ?_⟩) fun _ => ite2 (fun _ => ⟨sm _ _, fin2 _ _ _ ?_ fun x hx => ?_⟩) fun _ => ite2 (fun _ => ⟨by rw [Nat.add_comm]; exact sm _ _, fin2 _ _ _ ?_ fun x hx => ?_⟩) fun _ => ite2 (fun _ => ?_) fun _ => ite2 (fun _ => ?_) fun _ => fin2 _ _ _ (by omega) dx'
          · rw [List.length_append, List.length_take, List.length_drop]
            omega
          · rcases List.mem_append.mp hx with h | h
            · exact dx' x (mt h)
            · exact dx' x (md h)
          · rw [List.length_append, List.length_take, List.length_drop]
            omega
          · rcases List.mem_append.mp hx with h | h
            · exact dx' x (mt h)
            · exact dx' x (md h)
          · rw [List.length_append, List.length_take, List.length_drop]
            omega
          · rcases List.mem_append.mp hx with h | h
            · exact dx' x (md h)
            · exact dx' x (mt h)
          · rw [c3, q_odd]
            refine ⟨by rw [List.length_drop]; omega, drop_bd hb, fun d' hd' => ⟨by have := lt k; omega, by rw [List.length_append, List.length_take, List.length_drop, List.length_singleton]; omega, fin2 _ _ _ ?_ fun x hx => ?_⟩⟩
            · rw [List.length_append, List.length_append, List.length_take, List.length_drop, List.length_singleton]
              omega
            · rcases List.mem_append.mp hx with h | h
              · rcases List.mem_append.mp h with h | h
                · exact dx' x (mt h)
                · have : x = d' := List.mem_singleton.mp h
                  subst this
                  exact smN_mono (by omega) (by omega) hd'
              · exact dx' x (md h)
          · have hz1 : atI ds (k : Int) = some ds[k] := atI_nat (List.getElem?_eq_getElem hkl)
            have hix : ixN ds.length (k : Int) = some k := by
              unfold ixN
              rw [if_pos (by omega), if_pos (by omega)]
              rfl
            refine ⟨_, hz1, ?_⟩
            rw [c4]
            refine ⟨m, n, _, _, rfl, by omega, by rw [List.length_drop]; omega, drop_bd hb, m2, m1000, dx _ (List.getElem_mem hkl), fun r hr => ⟨k, hix, fin2 _ _ _ ?_ fun x hx => ?_⟩⟩
            · rw [List.length_set]
              omega
            · rcases List.mem_or_eq_of_mem_set hx with h | h
              · exact dx' x h
              · subst h
                exact hr
/-! ### a row by the law's own reading -/
def sp_law_from : DSp
  | [.dat d, .dat (.int lo), .dat (.int hi)], R => R (.dat (.bool (withinB d lo hi)))
  | _, _ => False
/-- _law_from: 0 thing, 1 least, 2 top -/
abbrev b_law_from : DS := (dRet (dAndV (d1 (isiD "int") (dVar 0)) (dAndV (dNotV (d1 (isiD "bool") (dVar 0))) (dAndV (d2 leD (dVar 1) (dVar 0)) (d2 leD (dVar 0) (dVar 2))))))
theorem rd_law_from (svs : List SV) (R : RVd → Prop) (h : sp_law_from svs R) : b_law_from { nx := fun _ => R (.dat .none), rt := R } (startd 3 svs) := by
  unfold sp_law_from at h
  split at h
  · rename_i d lo hi
    simp only [b_law_from, isi_int, isi_bool, dSeq, dAsgG, dAsgN, dRet, dRetN, dRetO, dRet0, dDrop, dIfS, dNext, dApp, dInsert, q_setI, q_setQ, q_take, dFor, dFreeze, dNever, q_par, q_parQ, q_par3, q_parQ3, dParNE, dParDE, gdName, q_gnil, q_gcons, q_gtup, dVar, dOwn, dC, d1, d2, n2, nCons, nNil, nLst, dTup, dFr, dTest, dAnd, dOr, dNot, dAndV, dOrV, dNotV, dIf, dChain, dCB, nCB, dCall, nCall, aDat, aBag, aNil, q_neg, q_add, q_addl, q_addt, q_sub, q_mul, q_mull, q_mult, q_fdiv, q_mod, q_pow, q_lt, q_le, q_gt, q_ge, eqD, neD, isD, isntD, q_isnn, q_isni, q_isnb, q_isnt, q_isnl, q_lenl, q_lent, q_inti, q_intb, q_max2, q_min2, q_listl, q_listt, q_tuplel, q_tuplet, q_sum, q_min, q_max, allD, itSeq, itR1, q_itR2, q_rng2, q_en, q_en1, q_zip, q_zipQ, q_seqr, q_lenr, q_ixr, q_seql, q_seqt, q_rvd, q_rvn, q_catn, q_ixl, q_ixt, q_sl, q_sll, q_slt, q_slr, nSlL, oNone, oSome, nLc, wipeD, q_dropc, q_dropxd, q_dropxb, q_dropxo, q_dropxn, q_drope, dYes, dCnt, q_revl, q_revt, q_revr, nListRg, dTupRg, exInts, exOpt, q_addr1, q_addrr, q_ixk0, q_ixk1, exRow, exTk, cntL, cntQ_some, cntQ_none, List.getElem?_cons_zero, List.getElem?_cons_succ, List.getElem?_nil, Option.some.injEq, SV.dat.injEq, SV.own.injEq, PyData.int.injEq, PyData.bool.injEq, PyData.tuple.injEq, PyData.list.injEq, PyData.str.injEq, RVd.new.injEq, RVd.dat.injEq, exists_eq_left, exists_eq_left', exists_eq_right, List.cons.injEq, List.set_cons_zero, List.set_cons_succ, reduceCtorEq, and_true, true_and, false_and, and_false, not_true_eq_false, not_false_eq_true, if_true, if_false, ite_true, ite_false, decide_eq_true_eq, Bool.not_eq_true', decide_eq_false_iff_not, Bool.and_true, Bool.true_and, Bool.and_false, Bool.false_and, Bool.not_true, Bool.not_false, Bool.false_eq_true, List.map_cons, List.map_nil, List.length_cons, List.length_nil, Nat.zero_add, Nat.reduceAdd, Nat.reduceLeDiff, startd, List.replicate_succ, List.replicate_zero, List.nil_append, List.cons_append, Nat.reduceSub, exists_const, and_self, shp_int, shp_none, shp_bool, eqv_int, dForL_nil, lcL_nil]
    cases d with
    | int i =>
      simp only [isIntB, isBoolB, withinB, dSeq, dAsgG, dAsgN, dRet, dRetN, dRetO, dRet0, dDrop, dIfS, dNext, dApp, dInsert, q_setI, q_setQ, q_take, dFor, dFreeze, dNever, q_par, q_parQ, q_par3, q_parQ3, dParNE, dParDE, gdName, q_gnil, q_gcons, q_gtup, dVar, dOwn, dC, d1, d2, n2, nCons, nNil, nLst, dTup, dFr, dTest, dAnd, dOr, dNot, dAndV, dOrV, dNotV, dIf, dChain, dCB, nCB, dCall, nCall, aDat, aBag, aNil, q_neg, q_add, q_addl, q_addt, q_sub, q_mul, q_mull, q_mult, q_fdiv, q_mod, q_pow, q_lt, q_le, q_gt, q_ge, eqD, neD, isD, isntD, q_isnn, q_isni, q_isnb, q_isnt, q_isnl, q_lenl, q_lent, q_inti, q_intb, q_max2, q_min2, q_listl, q_listt, q_tuplel, q_tuplet, q_sum, q_min, q_max, allD, itSeq, itR1, q_itR2, q_rng2, q_en, q_en1, q_zip, q_zipQ, q_seqr, q_lenr, q_ixr, q_seql, q_seqt, q_rvd, q_rvn, q_catn, q_ixl, q_ixt, q_sl, q_sll, q_slt, q_slr, nSlL, oNone, oSome, nLc, wipeD, q_dropc, q_dropxd, q_dropxb, q_dropxo, q_dropxn, q_drope, dYes, dCnt, q_revl, q_revt, q_revr, nListRg, dTupRg, exInts, exOpt, q_addr1, q_addrr, q_ixk0, q_ixk1, exRow, exTk, cntL, cntQ_some, cntQ_none, List.getElem?_cons_zero, List.getElem?_cons_succ, List.getElem?_nil, Option.some.injEq, SV.dat.injEq, SV.own.injEq, PyData.int.injEq, PyData.bool.injEq, PyData.tuple.injEq, PyData.list.injEq, PyData.str.injEq, RVd.new.injEq, RVd.dat.injEq, exists_eq_left, exists_eq_left', exists_eq_right, List.cons.injEq, List.set_cons_zero, List.set_cons_succ, reduceCtorEq, and_true, true_and, false_and, and_false, not_true_eq_false, not_false_eq_true, if_true, if_false, ite_true, ite_false, decide_eq_true_eq, Bool.not_eq_true', decide_eq_false_iff_not, Bool.and_true, Bool.true_and, Bool.and_false, Bool.false_and, Bool.not_true, Bool.not_false, Bool.false_eq_true, List.map_cons, List.map_nil, List.length_cons, List.length_nil, Nat.zero_add, Nat.reduceAdd, Nat.reduceLeDiff, startd, List.replicate_succ, List.replicate_zero, List.nil_append, List.cons_append, Nat.reduceSub, exists_const, and_self, shp_int, shp_none, shp_bool, eqv_int, dForL_nil, lcL_nil] at h ⊢
      by_cases h1 : lo ≤ i
      · simp only [h1, dSeq, dAsgG, dAsgN, dRet, dRetN, dRetO, dRet0, dDrop, dIfS, dNext, dApp, dInsert, q_setI, q_setQ, q_take, dFor, dFreeze, dNever, q_par, q_parQ, q_par3, q_parQ3, dParNE, dParDE, gdName, q_gnil, q_gcons, q_gtup, dVar, dOwn, dC, d1, d2, n2, nCons, nNil, nLst, dTup, dFr, dTest, dAnd, dOr, dNot, dAndV, dOrV, dNotV, dIf, dChain, dCB, nCB, dCall, nCall, aDat, aBag, aNil, q_neg, q_add, q_addl, q_addt, q_sub, q_mul, q_mull, q_mult, q_fdiv, q_mod, q_pow, q_lt, q_le, q_gt, q_ge, eqD, neD, isD, isntD, q_isnn, q_isni, q_isnb, q_isnt, q_isnl, q_lenl, q_lent, q_inti, q_intb, q_max2, q_min2, q_listl, q_listt, q_tuplel, q_tuplet, q_sum, q_min, q_max, allD, itSeq, itR1, q_itR2, q_rng2, q_en, q_en1, q_zip, q_zipQ, q_seqr, q_lenr, q_ixr, q_seql, q_seqt, q_rvd, q_rvn, q_catn, q_ixl, q_ixt, q_sl, q_sll, q_slt, q_slr, nSlL, oNone, oSome, nLc, wipeD, q_dropc, q_dropxd, q_dropxb, q_dropxo, q_dropxn, q_drope, dYes, dCnt, q_revl, q_revt, q_revr, nListRg, dTupRg, exInts, exOpt, q_addr1, q_addrr, q_ixk0, q_ixk1, exRow, exTk, cntL, cntQ_some, cntQ_none, List.getElem?_cons_zero, List.getElem?_cons_succ, List.getElem?_nil, Option.some.injEq, SV.dat.injEq, SV.own.injEq, PyData.int.injEq, PyData.bool.injEq, PyData.tuple.injEq, PyData.list.injEq, PyData.str.injEq, RVd.new.injEq, RVd.dat.injEq, exists_eq_left, exists_eq_left', exists_eq_right, List.cons.injEq, List.set_cons_zero, List.set_cons_succ, reduceCtorEq, and_true, true_and, false_and, and_false, not_true_eq_false, not_false_eq_true, if_true, if_false, ite_true, ite_false, decide_eq_true_eq, Bool.not_eq_true', decide_eq_false_iff_not, Bool.and_true, Bool.true_and, Bool.and_false, Bool.false_and, Bool.not_true, Bool.not_false, Bool.false_eq_true, List.map_cons, List.map_nil, List.length_cons, List.length_nil, Nat.zero_add, Nat.reduceAdd, Nat.reduceLeDiff, startd, List.replicate_succ, List.replicate_zero, List.nil_append, List.cons_append, Nat.reduceSub, exists_const, and_self, shp_int, shp_none, shp_bool, eqv_int, dForL_nil, lcL_nil] at h ⊢
        exact h
      · simp only [h1, dSeq, dAsgG, dAsgN, dRet, dRetN, dRetO, dRet0, dDrop, dIfS, dNext, dApp, dInsert, q_setI, q_setQ, q_take, dFor, dFreeze, dNever, q_par, q_parQ, q_par3, q_parQ3, dParNE, dParDE, gdName, q_gnil, q_gcons, q_gtup, dVar, dOwn, dC, d1, d2, n2, nCons, nNil, nLst, dTup, dFr, dTest, dAnd, dOr, dNot, dAndV, dOrV, dNotV, dIf, dChain, dCB, nCB, dCall, nCall, aDat, aBag, aNil, q_neg, q_add, q_addl, q_addt, q_sub, q_mul, q_mull, q_mult, q_fdiv, q_mod, q_pow, q_lt, q_le, q_gt, q_ge, eqD, neD, isD, isntD, q_isnn, q_isni, q_isnb, q_isnt, q_isnl, q_lenl, q_lent, q_inti, q_intb, q_max2, q_min2, q_listl, q_listt, q_tuplel, q_tuplet, q_sum, q_min, q_max, allD, itSeq, itR1, q_itR2, q_rng2, q_en, q_en1, q_zip, q_zipQ, q_seqr, q_lenr, q_ixr, q_seql, q_seqt, q_rvd, q_rvn, q_catn, q_ixl, q_ixt, q_sl, q_sll, q_slt, q_slr, nSlL, oNone, oSome, nLc, wipeD, q_dropc, q_dropxd, q_dropxb, q_dropxo, q_dropxn, q_drope, dYes, dCnt, q_revl, q_revt, q_revr, nListRg, dTupRg, exInts, exOpt, q_addr1, q_addrr, q_ixk0, q_ixk1, exRow, exTk, cntL, cntQ_some, cntQ_none, List.getElem?_cons_zero, List.getElem?_cons_succ, List.getElem?_nil, Option.some.injEq, SV.dat.injEq, SV.own.injEq, PyData.int.injEq, PyData.bool.injEq, PyData.tuple.injEq, PyData.list.injEq, PyData.str.injEq, RVd.new.injEq, RVd.dat.injEq, exists_eq_left, exists_eq_left', exists_eq_right, List.cons.injEq, List.set_cons_zero, List.set_cons_succ, reduceCtorEq, and_true, true_and, false_and, and_false, not_true_eq_false, not_false_eq_true, if_true, if_false, ite_true, ite_false, decide_eq_true_eq, Bool.not_eq_true', decide_eq_false_iff_not, Bool.and_true, Bool.true_and, Bool.and_false, Bool.false_and, Bool.not_true, Bool.not_false, Bool.false_eq_true, List.map_cons, List.map_nil, List.length_cons, List.length_nil, Nat.zero_add, Nat.reduceAdd, Nat.reduceLeDiff, startd, List.replicate_succ, List.replicate_zero, List.nil_append, List.cons_append, Nat.reduceSub, exists_const, and_self, shp_int, shp_none, shp_bool, eqv_int, dForL_nil, lcL_nil] at h ⊢
        exact h
    | _ =>
      simp only [isIntB, isBoolB, withinB, dSeq, dAsgG, dAsgN, dRet, dRetN, dRetO, dRet0, dDrop, dIfS, dNext, dApp, dInsert, q_setI, q_setQ, q_take, dFor, dFreeze, dNever, q_par, q_parQ, q_par3, q_parQ3, dParNE, dParDE, gdName, q_gnil, q_gcons, q_gtup, dVar, dOwn, dC, d1, d2, n2, nCons, nNil, nLst, dTup, dFr, dTest, dAnd, dOr, dNot, dAndV, dOrV, dNotV, dIf, dChain, dCB, nCB, dCall, nCall, aDat, aBag, aNil, q_neg, q_add, q_addl, q_addt, q_sub, q_mul, q_mull, q_mult, q_fdiv, q_mod, q_pow, q_lt, q_le, q_gt, q_ge, eqD, neD, isD, isntD, q_isnn, q_isni, q_isnb, q_isnt, q_isnl, q_lenl, q_lent, q_inti, q_intb, q_max2, q_min2, q_listl, q_listt, q_tuplel, q_tuplet, q_sum, q_min, q_max, allD, itSeq, itR1, q_itR2, q_rng2, q_en, q_en1, q_zip, q_zipQ, q_seqr, q_lenr, q_ixr, q_seql, q_seqt, q_rvd, q_rvn, q_catn, q_ixl, q_ixt, q_sl, q_sll, q_slt, q_slr, nSlL, oNone, oSome, nLc, wipeD, q_dropc, q_dropxd, q_dropxb, q_dropxo, q_dropxn, q_drope, dYes, dCnt, q_revl, q_revt, q_revr, nListRg, dTupRg, exInts, exOpt, q_addr1, q_addrr, q_ixk0, q_ixk1, exRow, exTk, cntL, cntQ_some, cntQ_none, List.getElem?_cons_zero, List.getElem?_cons_succ, List.getElem?_nil, Option.some.injEq, SV.dat.injEq, SV.own.injEq, PyData.int.injEq, PyData.bool.injEq, PyData.tuple.injEq, PyData.list.injEq, PyData.str.injEq, RVd.new.injEq, RVd.dat.injEq, exists_eq_left, exists_eq_left', exists_eq_right, List.cons.injEq, List.set_cons_zero, List.set_cons_succ, reduceCtorEq, and_true, true_and, false_and, and_false, not_true_eq_false, not_false_eq_true, if_true, if_false, ite_true, ite_false, decide_eq_true_eq, Bool.not_eq_true', decide_eq_false_iff_not, Bool.and_true, Bool.true_and, Bool.and_false, Bool.false_and, Bool.not_true, Bool.not_false, Bool.false_eq_true, List.map_cons, List.map_nil, List.length_cons, List.length_nil, Nat.zero_add, Nat.reduceAdd, Nat.reduceLeDiff, startd, List.replicate_succ, List.replicate_zero, List.nil_append, List.cons_append, Nat.reduceSub, exists_const, and_self, shp_int, shp_none, shp_bool, eqv_int, dForL_nil, lcL_nil] at h ⊢
      exact h
  · exact h.elim
theorem len_law_from (svs : List SV) (R : RVd → Prop) (h : sp_law_from svs R) : svs.length = 3 := by
  unfold sp_law_from at h
  split at h
  · rfl
  · exact h.elim
def sp_law_is_row : DSp
  | [.dat d], R => R (.dat (.bool (rowB d)))
  | _, _ => False
/-- _law_is_row: 0 thing, 1 one -/
abbrev b_law_is_row : DS := (dSeq (dIfS (dOr (dNot (dTest (d1 (isiD "tuple") (dVar 0)))) (dTest (d2 gtD (dCB lenD (nCons (dVar 0) nNil)) (dC (.int 8))))) (dRet (dC (.bool false))) dNext)
  (dSeq (dFor (itSeq (dVar 0)) (gdName 1)
  (dSeq (dIfS (dOr (dNot (dTest (d1 (isiD "tuple") (dVar 1)))) (dOr (dTest (d2 neD (dCB lenD (nCons (dVar 1) nNil)) (dC (.int 2)))) (dNot (dTest (dCall sp_law_from (aDat (d2 ixD (dVar 1) (dC (.int 0))) (aDat (dC (.int 2)) (aDat (dC (.int 1000)) aNil)))))))) (dRet (dC (.bool false))) dNext)
  (dIfS (dNot (dTest (dCall sp_law_from (aDat (d2 ixD (dVar 1) (dC (.int 1))) (aDat (dC (.int 0)) (aDat (d2 subD (d2 ixD (dVar 1) (dC (.int 0))) (dC (.int 1))) aNil)))))) (dRet (dC (.bool false))) dNext)))
  (dRet (dC (.bool true)))))
theorem len_law_is_row (svs : List SV) (R : RVd → Prop) (h : sp_law_is_row svs R) : svs.length = 1 := by
  unfold sp_law_is_row at h
  split at h
  · rfl
  · exact h.elim
/-- one item of the loop: the next one, or False -/
theorem isrow_item {g : DG} {tb : DS} {D : DEnds} {x0 x1 : Option SV} (hg : g = gdName 1)
    (htb : tb = (dSeq (dIfS (dOr (dNot (dTest (d1 (isiD "tuple") (dVar 1)))) (dOr (dTest (d2 neD (dCB lenD (nCons (dVar 1) nNil)) (dC (.int 2)))) (dNot (dTest (dCall sp_law_from (aDat (d2 ixD (dVar 1) (dC (.int 0))) (aDat (dC (.int 2)) (aDat (dC (.int 1000)) aNil)))))))) (dRet (dC (.bool false))) dNext)
  (dIfS (dNot (dTest (dCall sp_law_from (aDat (d2 ixD (dVar 1) (dC (.int 1))) (aDat (dC (.int 0)) (aDat (d2 subD (d2 ixD (dVar 1) (dC (.int 0))) (dC (.int 1))) aNil)))))) (dRet (dC (.bool false))) dNext)))
    {d : PyData} {ds : List PyData} (h : if takerB d = true then ∀ x1, dForL g tb ds D [x0, x1] else D.rt (.dat (.bool false))) : dForL g tb (d :: ds) D [x0, x1] := by
  rw [dForL_cons]
  generalize dForL g tb ds D = rest at *
  rw [hg, htb]
  simp only [isi_tup, sp_law_from, dSeq, dAsgG, dAsgN, dRet, dRetN, dRetO, dRet0, dDrop, dIfS, dNext, dApp, dInsert, q_setI, q_setQ, q_take, dFor, dFreeze, dNever, q_par, q_parQ, q_par3, q_parQ3, dParNE, dParDE, gdName, q_gnil, q_gcons, q_gtup, dVar, dOwn, dC, d1, d2, n2, nCons, nNil, nLst, dTup, dFr, dTest, dAnd, dOr, dNot, dAndV, dOrV, dNotV, dIf, dChain, dCB, nCB, dCall, nCall, aDat, aBag, aNil, q_neg, q_add, q_addl, q_addt, q_sub, q_mul, q_mull, q_mult, q_fdiv, q_mod, q_pow, q_lt, q_le, q_gt, q_ge, eqD, neD, isD, isntD, q_isnn, q_isni, q_isnb, q_isnt, q_isnl, q_lenl, q_lent, q_inti, q_intb, q_max2, q_min2, q_listl, q_listt, q_tuplel, q_tuplet, q_sum, q_min, q_max, allD, itSeq, itR1, q_itR2, q_rng2, q_en, q_en1, q_zip, q_zipQ, q_seqr, q_lenr, q_ixr, q_seql, q_seqt, q_rvd, q_rvn, q_catn, q_ixl, q_ixt, q_sl, q_sll, q_slt, q_slr, nSlL, oNone, oSome, nLc, wipeD, q_dropc, q_dropxd, q_dropxb, q_dropxo, q_dropxn, q_drope, dYes, dCnt, q_revl, q_revt, q_revr, nListRg, dTupRg, exInts, exOpt, q_addr1, q_addrr, q_ixk0, q_ixk1, exRow, exTk, cntL, cntQ_some, cntQ_none, List.getElem?_cons_zero, List.getElem?_cons_succ, List.getElem?_nil, Option.some.injEq, SV.dat.injEq, SV.own.injEq, PyData.int.injEq, PyData.bool.injEq, PyData.tuple.injEq, PyData.list.injEq, PyData.str.injEq, RVd.new.injEq, RVd.dat.injEq, exists_eq_left, exists_eq_left', exists_eq_right, List.cons.injEq, List.set_cons_zero, List.set_cons_succ, reduceCtorEq, and_true, true_and, false_and, and_false, not_true_eq_false, not_false_eq_true, if_true, if_false, ite_true, ite_false, decide_eq_true_eq, Bool.not_eq_true', decide_eq_false_iff_not, Bool.and_true, Bool.true_and, Bool.and_false, Bool.false_and, Bool.not_true, Bool.not_false, Bool.false_eq_true, List.map_cons, List.map_nil, List.length_cons, List.length_nil, Nat.zero_add, Nat.reduceAdd, Nat.reduceLeDiff, startd, List.replicate_succ, List.replicate_zero, List.nil_append, List.cons_append, Nat.reduceSub, exists_const, and_self, shp_int, shp_none, shp_bool, eqv_int, dForL_nil, lcL_nil]
  cases d with
  | tuple es =>
    simp only [isTupB, dSeq, dAsgG, dAsgN, dRet, dRetN, dRetO, dRet0, dDrop, dIfS, dNext, dApp, dInsert, q_setI, q_setQ, q_take, dFor, dFreeze, dNever, q_par, q_parQ, q_par3, q_parQ3, dParNE, dParDE, gdName, q_gnil, q_gcons, q_gtup, dVar, dOwn, dC, d1, d2, n2, nCons, nNil, nLst, dTup, dFr, dTest, dAnd, dOr, dNot, dAndV, dOrV, dNotV, dIf, dChain, dCB, nCB, dCall, nCall, aDat, aBag, aNil, q_neg, q_add, q_addl, q_addt, q_sub, q_mul, q_mull, q_mult, q_fdiv, q_mod, q_pow, q_lt, q_le, q_gt, q_ge, eqD, neD, isD, isntD, q_isnn, q_isni, q_isnb, q_isnt, q_isnl, q_lenl, q_lent, q_inti, q_intb, q_max2, q_min2, q_listl, q_listt, q_tuplel, q_tuplet, q_sum, q_min, q_max, allD, itSeq, itR1, q_itR2, q_rng2, q_en, q_en1, q_zip, q_zipQ, q_seqr, q_lenr, q_ixr, q_seql, q_seqt, q_rvd, q_rvn, q_catn, q_ixl, q_ixt, q_sl, q_sll, q_slt, q_slr, nSlL, oNone, oSome, nLc, wipeD, q_dropc, q_dropxd, q_dropxb, q_dropxo, q_dropxn, q_drope, dYes, dCnt, q_revl, q_revt, q_revr, nListRg, dTupRg, exInts, exOpt, q_addr1, q_addrr, q_ixk0, q_ixk1, exRow, exTk, cntL, cntQ_some, cntQ_none, List.getElem?_cons_zero, List.getElem?_cons_succ, List.getElem?_nil, Option.some.injEq, SV.dat.injEq, SV.own.injEq, PyData.int.injEq, PyData.bool.injEq, PyData.tuple.injEq, PyData.list.injEq, PyData.str.injEq, RVd.new.injEq, RVd.dat.injEq, exists_eq_left, exists_eq_left', exists_eq_right, List.cons.injEq, List.set_cons_zero, List.set_cons_succ, reduceCtorEq, and_true, true_and, false_and, and_false, not_true_eq_false, not_false_eq_true, if_true, if_false, ite_true, ite_false, decide_eq_true_eq, Bool.not_eq_true', decide_eq_false_iff_not, Bool.and_true, Bool.true_and, Bool.and_false, Bool.false_and, Bool.not_true, Bool.not_false, Bool.false_eq_true, List.map_cons, List.map_nil, List.length_cons, List.length_nil, Nat.zero_add, Nat.reduceAdd, Nat.reduceLeDiff, startd, List.replicate_succ, List.replicate_zero, List.nil_append, List.cons_append, Nat.reduceSub, exists_const, and_self, shp_int, shp_none, shp_bool, eqv_int, dForL_nil, lcL_nil]
    match es, h with
    | [], h =>
      have z : ¬ ((0 : Nat) : Int) = 2 := by decide
      simp only [z, takerB, shp_int, eqv_int, decide_false, at0, at1, dSeq, dAsgG, dAsgN, dRet, dRetN, dRetO, dRet0, dDrop, dIfS, dNext, dApp, dInsert, q_setI, q_setQ, q_take, dFor, dFreeze, dNever, q_par, q_parQ, q_par3, q_parQ3, dParNE, dParDE, gdName, q_gnil, q_gcons, q_gtup, dVar, dOwn, dC, d1, d2, n2, nCons, nNil, nLst, dTup, dFr, dTest, dAnd, dOr, dNot, dAndV, dOrV, dNotV, dIf, dChain, dCB, nCB, dCall, nCall, aDat, aBag, aNil, q_neg, q_add, q_addl, q_addt, q_sub, q_mul, q_mull, q_mult, q_fdiv, q_mod, q_pow, q_lt, q_le, q_gt, q_ge, eqD, neD, isD, isntD, q_isnn, q_isni, q_isnb, q_isnt, q_isnl, q_lenl, q_lent, q_inti, q_intb, q_max2, q_min2, q_listl, q_listt, q_tuplel, q_tuplet, q_sum, q_min, q_max, allD, itSeq, itR1, q_itR2, q_rng2, q_en, q_en1, q_zip, q_zipQ, q_seqr, q_lenr, q_ixr, q_seql, q_seqt, q_rvd, q_rvn, q_catn, q_ixl, q_ixt, q_sl, q_sll, q_slt, q_slr, nSlL, oNone, oSome, nLc, wipeD, q_dropc, q_dropxd, q_dropxb, q_dropxo, q_dropxn, q_drope, dYes, dCnt, q_revl, q_revt, q_revr, nListRg, dTupRg, exInts, exOpt, q_addr1, q_addrr, q_ixk0, q_ixk1, exRow, exTk, cntL, cntQ_some, cntQ_none, List.getElem?_cons_zero, List.getElem?_cons_succ, List.getElem?_nil, Option.some.injEq, SV.dat.injEq, SV.own.injEq, PyData.int.injEq, PyData.bool.injEq, PyData.tuple.injEq, PyData.list.injEq, PyData.str.injEq, RVd.new.injEq, RVd.dat.injEq, exists_eq_left, exists_eq_left', exists_eq_right, List.cons.injEq, List.set_cons_zero, List.set_cons_succ, reduceCtorEq, and_true, true_and, false_and, and_false, not_true_eq_false, not_false_eq_true, if_true, if_false, ite_true, ite_false, decide_eq_true_eq, Bool.not_eq_true', decide_eq_false_iff_not, Bool.and_true, Bool.true_and, Bool.and_false, Bool.false_and, Bool.not_true, Bool.not_false, Bool.false_eq_true, List.map_cons, List.map_nil, List.length_cons, List.length_nil, Nat.zero_add, Nat.reduceAdd, Nat.reduceLeDiff, startd, List.replicate_succ, List.replicate_zero, List.nil_append, List.cons_append, Nat.reduceSub, exists_const, and_self, shp_int, shp_none, shp_bool, eqv_int, dForL_nil, lcL_nil] at h ⊢
      exact h
    | [a], h =>
      have z : ¬ ((1 : Nat) : Int) = 2 := by decide
      simp only [z, takerB, shp_int, eqv_int, decide_false, at0, at1, dSeq, dAsgG, dAsgN, dRet, dRetN, dRetO, dRet0, dDrop, dIfS, dNext, dApp, dInsert, q_setI, q_setQ, q_take, dFor, dFreeze, dNever, q_par, q_parQ, q_par3, q_parQ3, dParNE, dParDE, gdName, q_gnil, q_gcons, q_gtup, dVar, dOwn, dC, d1, d2, n2, nCons, nNil, nLst, dTup, dFr, dTest, dAnd, dOr, dNot, dAndV, dOrV, dNotV, dIf, dChain, dCB, nCB, dCall, nCall, aDat, aBag, aNil, q_neg, q_add, q_addl, q_addt, q_sub, q_mul, q_mull, q_mult, q_fdiv, q_mod, q_pow, q_lt, q_le, q_gt, q_ge, eqD, neD, isD, isntD, q_isnn, q_isni, q_isnb, q_isnt, q_isnl, q_lenl, q_lent, q_inti, q_intb, q_max2, q_min2, q_listl, q_listt, q_tuplel, q_tuplet, q_sum, q_min, q_max, allD, itSeq, itR1, q_itR2, q_rng2, q_en, q_en1, q_zip, q_zipQ, q_seqr, q_lenr, q_ixr, q_seql, q_seqt, q_rvd, q_rvn, q_catn, q_ixl, q_ixt, q_sl, q_sll, q_slt, q_slr, nSlL, oNone, oSome, nLc, wipeD, q_dropc, q_dropxd, q_dropxb, q_dropxo, q_dropxn, q_drope, dYes, dCnt, q_revl, q_revt, q_revr, nListRg, dTupRg, exInts, exOpt, q_addr1, q_addrr, q_ixk0, q_ixk1, exRow, exTk, cntL, cntQ_some, cntQ_none, List.getElem?_cons_zero, List.getElem?_cons_succ, List.getElem?_nil, Option.some.injEq, SV.dat.injEq, SV.own.injEq, PyData.int.injEq, PyData.bool.injEq, PyData.tuple.injEq, PyData.list.injEq, PyData.str.injEq, RVd.new.injEq, RVd.dat.injEq, exists_eq_left, exists_eq_left', exists_eq_right, List.cons.injEq, List.set_cons_zero, List.set_cons_succ, reduceCtorEq, and_true, true_and, false_and, and_false, not_true_eq_false, not_false_eq_true, if_true, if_false, ite_true, ite_false, decide_eq_true_eq, Bool.not_eq_true', decide_eq_false_iff_not, Bool.and_true, Bool.true_and, Bool.and_false, Bool.false_and, Bool.not_true, Bool.not_false, Bool.false_eq_true, List.map_cons, List.map_nil, List.length_cons, List.length_nil, Nat.zero_add, Nat.reduceAdd, Nat.reduceLeDiff, startd, List.replicate_succ, List.replicate_zero, List.nil_append, List.cons_append, Nat.reduceSub, exists_const, and_self, shp_int, shp_none, shp_bool, eqv_int, dForL_nil, lcL_nil] at h ⊢
      exact h
    | [a, b], h =>
      have z : ((2 : Nat) : Int) = 2 := rfl
      simp only [List.length_cons, List.length_nil, z, shp_int, eqv_int, decide_true, at0, at1, dSeq, dAsgG, dAsgN, dRet, dRetN, dRetO, dRet0, dDrop, dIfS, dNext, dApp, dInsert, q_setI, q_setQ, q_take, dFor, dFreeze, dNever, q_par, q_parQ, q_par3, q_parQ3, dParNE, dParDE, gdName, q_gnil, q_gcons, q_gtup, dVar, dOwn, dC, d1, d2, n2, nCons, nNil, nLst, dTup, dFr, dTest, dAnd, dOr, dNot, dAndV, dOrV, dNotV, dIf, dChain, dCB, nCB, dCall, nCall, aDat, aBag, aNil, q_neg, q_add, q_addl, q_addt, q_sub, q_mul, q_mull, q_mult, q_fdiv, q_mod, q_pow, q_lt, q_le, q_gt, q_ge, eqD, neD, isD, isntD, q_isnn, q_isni, q_isnb, q_isnt, q_isnl, q_lenl, q_lent, q_inti, q_intb, q_max2, q_min2, q_listl, q_listt, q_tuplel, q_tuplet, q_sum, q_min, q_max, allD, itSeq, itR1, q_itR2, q_rng2, q_en, q_en1, q_zip, q_zipQ, q_seqr, q_lenr, q_ixr, q_seql, q_seqt, q_rvd, q_rvn, q_catn, q_ixl, q_ixt, q_sl, q_sll, q_slt, q_slr, nSlL, oNone, oSome, nLc, wipeD, q_dropc, q_dropxd, q_dropxb, q_dropxo, q_dropxn, q_drope, dYes, dCnt, q_revl, q_revt, q_revr, nListRg, dTupRg, exInts, exOpt, q_addr1, q_addrr, q_ixk0, q_ixk1, exRow, exTk, cntL, cntQ_some, cntQ_none, List.getElem?_cons_zero, List.getElem?_cons_succ, List.getElem?_nil, Option.some.injEq, SV.dat.injEq, SV.own.injEq, PyData.int.injEq, PyData.bool.injEq, PyData.tuple.injEq, PyData.list.injEq, PyData.str.injEq, RVd.new.injEq, RVd.dat.injEq, exists_eq_left, exists_eq_left', exists_eq_right, List.cons.injEq, List.set_cons_zero, List.set_cons_succ, reduceCtorEq, and_true, true_and, false_and, and_false, not_true_eq_false, not_false_eq_true, if_true, if_false, ite_true, ite_false, decide_eq_true_eq, Bool.not_eq_true', decide_eq_false_iff_not, Bool.and_true, Bool.true_and, Bool.and_false, Bool.false_and, Bool.not_true, Bool.not_false, Bool.false_eq_true, List.map_cons, List.map_nil, List.length_cons, List.length_nil, Nat.zero_add, Nat.reduceAdd, Nat.reduceLeDiff, startd, List.replicate_succ, List.replicate_zero, List.nil_append, List.cons_append, Nat.reduceSub, exists_const, and_self, shp_int, shp_none, shp_bool, eqv_int, dForL_nil, lcL_nil] at h ⊢
      cases a with
      | int e =>
        simp only [takerB, withinB, at0, dSeq, dAsgG, dAsgN, dRet, dRetN, dRetO, dRet0, dDrop, dIfS, dNext, dApp, dInsert, q_setI, q_setQ, q_take, dFor, dFreeze, dNever, q_par, q_parQ, q_par3, q_parQ3, dParNE, dParDE, gdName, q_gnil, q_gcons, q_gtup, dVar, dOwn, dC, d1, d2, n2, nCons, nNil, nLst, dTup, dFr, dTest, dAnd, dOr, dNot, dAndV, dOrV, dNotV, dIf, dChain, dCB, nCB, dCall, nCall, aDat, aBag, aNil, q_neg, q_add, q_addl, q_addt, q_sub, q_mul, q_mull, q_mult, q_fdiv, q_mod, q_pow, q_lt, q_le, q_gt, q_ge, eqD, neD, isD, isntD, q_isnn, q_isni, q_isnb, q_isnt, q_isnl, q_lenl, q_lent, q_inti, q_intb, q_max2, q_min2, q_listl, q_listt, q_tuplel, q_tuplet, q_sum, q_min, q_max, allD, itSeq, itR1, q_itR2, q_rng2, q_en, q_en1, q_zip, q_zipQ, q_seqr, q_lenr, q_ixr, q_seql, q_seqt, q_rvd, q_rvn, q_catn, q_ixl, q_ixt, q_sl, q_sll, q_slt, q_slr, nSlL, oNone, oSome, nLc, wipeD, q_dropc, q_dropxd, q_dropxb, q_dropxo, q_dropxn, q_drope, dYes, dCnt, q_revl, q_revt, q_revr, nListRg, dTupRg, exInts, exOpt, q_addr1, q_addrr, q_ixk0, q_ixk1, exRow, exTk, cntL, cntQ_some, cntQ_none, List.getElem?_cons_zero, List.getElem?_cons_succ, List.getElem?_nil, Option.some.injEq, SV.dat.injEq, SV.own.injEq, PyData.int.injEq, PyData.bool.injEq, PyData.tuple.injEq, PyData.list.injEq, PyData.str.injEq, RVd.new.injEq, RVd.dat.injEq, exists_eq_left, exists_eq_left', exists_eq_right, List.cons.injEq, List.set_cons_zero, List.set_cons_succ, reduceCtorEq, and_true, true_and, false_and, and_false, not_true_eq_false, not_false_eq_true, if_true, if_false, ite_true, ite_false, decide_eq_true_eq, Bool.not_eq_true', decide_eq_false_iff_not, Bool.and_true, Bool.true_and, Bool.and_false, Bool.false_and, Bool.not_true, Bool.not_false, Bool.false_eq_true, List.map_cons, List.map_nil, List.length_cons, List.length_nil, Nat.zero_add, Nat.reduceAdd, Nat.reduceLeDiff, startd, List.replicate_succ, List.replicate_zero, List.nil_append, List.cons_append, Nat.reduceSub, exists_const, and_self, shp_int, shp_none, shp_bool, eqv_int, dForL_nil, lcL_nil] at h ⊢
        by_cases h1 : 2 ≤ e
        · by_cases h2 : e ≤ 1000
          · simp only [h1, h2, decide_true, dSeq, dAsgG, dAsgN, dRet, dRetN, dRetO, dRet0, dDrop, dIfS, dNext, dApp, dInsert, q_setI, q_setQ, q_take, dFor, dFreeze, dNever, q_par, q_parQ, q_par3, q_parQ3, dParNE, dParDE, gdName, q_gnil, q_gcons, q_gtup, dVar, dOwn, dC, d1, d2, n2, nCons, nNil, nLst, dTup, dFr, dTest, dAnd, dOr, dNot, dAndV, dOrV, dNotV, dIf, dChain, dCB, nCB, dCall, nCall, aDat, aBag, aNil, q_neg, q_add, q_addl, q_addt, q_sub, q_mul, q_mull, q_mult, q_fdiv, q_mod, q_pow, q_lt, q_le, q_gt, q_ge, eqD, neD, isD, isntD, q_isnn, q_isni, q_isnb, q_isnt, q_isnl, q_lenl, q_lent, q_inti, q_intb, q_max2, q_min2, q_listl, q_listt, q_tuplel, q_tuplet, q_sum, q_min, q_max, allD, itSeq, itR1, q_itR2, q_rng2, q_en, q_en1, q_zip, q_zipQ, q_seqr, q_lenr, q_ixr, q_seql, q_seqt, q_rvd, q_rvn, q_catn, q_ixl, q_ixt, q_sl, q_sll, q_slt, q_slr, nSlL, oNone, oSome, nLc, wipeD, q_dropc, q_dropxd, q_dropxb, q_dropxo, q_dropxn, q_drope, dYes, dCnt, q_revl, q_revt, q_revr, nListRg, dTupRg, exInts, exOpt, q_addr1, q_addrr, q_ixk0, q_ixk1, exRow, exTk, cntL, cntQ_some, cntQ_none, List.getElem?_cons_zero, List.getElem?_cons_succ, List.getElem?_nil, Option.some.injEq, SV.dat.injEq, SV.own.injEq, PyData.int.injEq, PyData.bool.injEq, PyData.tuple.injEq, PyData.list.injEq, PyData.str.injEq, RVd.new.injEq, RVd.dat.injEq, exists_eq_left, exists_eq_left', exists_eq_right, List.cons.injEq, List.set_cons_zero, List.set_cons_succ, reduceCtorEq, and_true, true_and, false_and, and_false, not_true_eq_false, not_false_eq_true, if_true, if_false, ite_true, ite_false, decide_eq_true_eq, Bool.not_eq_true', decide_eq_false_iff_not, Bool.and_true, Bool.true_and, Bool.and_false, Bool.false_and, Bool.not_true, Bool.not_false, Bool.false_eq_true, List.map_cons, List.map_nil, List.length_cons, List.length_nil, Nat.zero_add, Nat.reduceAdd, Nat.reduceLeDiff, startd, List.replicate_succ, List.replicate_zero, List.nil_append, List.cons_append, Nat.reduceSub, exists_const, and_self, shp_int, shp_none, shp_bool, eqv_int, dForL_nil, lcL_nil] at h ⊢
            cases b with
            | int c =>
              simp only [dSeq, dAsgG, dAsgN, dRet, dRetN, dRetO, dRet0, dDrop, dIfS, dNext, dApp, dInsert, q_setI, q_setQ, q_take, dFor, dFreeze, dNever, q_par, q_parQ, q_par3, q_parQ3, dParNE, dParDE, gdName, q_gnil, q_gcons, q_gtup, dVar, dOwn, dC, d1, d2, n2, nCons, nNil, nLst, dTup, dFr, dTest, dAnd, dOr, dNot, dAndV, dOrV, dNotV, dIf, dChain, dCB, nCB, dCall, nCall, aDat, aBag, aNil, q_neg, q_add, q_addl, q_addt, q_sub, q_mul, q_mull, q_mult, q_fdiv, q_mod, q_pow, q_lt, q_le, q_gt, q_ge, eqD, neD, isD, isntD, q_isnn, q_isni, q_isnb, q_isnt, q_isnl, q_lenl, q_lent, q_inti, q_intb, q_max2, q_min2, q_listl, q_listt, q_tuplel, q_tuplet, q_sum, q_min, q_max, allD, itSeq, itR1, q_itR2, q_rng2, q_en, q_en1, q_zip, q_zipQ, q_seqr, q_lenr, q_ixr, q_seql, q_seqt, q_rvd, q_rvn, q_catn, q_ixl, q_ixt, q_sl, q_sll, q_slt, q_slr, nSlL, oNone, oSome, nLc, wipeD, q_dropc, q_dropxd, q_dropxb, q_dropxo, q_dropxn, q_drope, dYes, dCnt, q_revl, q_revt, q_revr, nListRg, dTupRg, exInts, exOpt, q_addr1, q_addrr, q_ixk0, q_ixk1, exRow, exTk, cntL, cntQ_some, cntQ_none, List.getElem?_cons_zero, List.getElem?_cons_succ, List.getElem?_nil, Option.some.injEq, SV.dat.injEq, SV.own.injEq, PyData.int.injEq, PyData.bool.injEq, PyData.tuple.injEq, PyData.list.injEq, PyData.str.injEq, RVd.new.injEq, RVd.dat.injEq, exists_eq_left, exists_eq_left', exists_eq_right, List.cons.injEq, List.set_cons_zero, List.set_cons_succ, reduceCtorEq, and_true, true_and, false_and, and_false, not_true_eq_false, not_false_eq_true, if_true, if_false, ite_true, ite_false, decide_eq_true_eq, Bool.not_eq_true', decide_eq_false_iff_not, Bool.and_true, Bool.true_and, Bool.and_false, Bool.false_and, Bool.not_true, Bool.not_false, Bool.false_eq_true, List.map_cons, List.map_nil, List.length_cons, List.length_nil, Nat.zero_add, Nat.reduceAdd, Nat.reduceLeDiff, startd, List.replicate_succ, List.replicate_zero, List.nil_append, List.cons_append, Nat.reduceSub, exists_const, and_self, shp_int, shp_none, shp_bool, eqv_int, dForL_nil, lcL_nil] at h ⊢
              by_cases h3 : 0 ≤ c
              · by_cases h4 : c ≤ e - 1
                · simp only [h3, h4, decide_true, dSeq, dAsgG, dAsgN, dRet, dRetN, dRetO, dRet0, dDrop, dIfS, dNext, dApp, dInsert, q_setI, q_setQ, q_take, dFor, dFreeze, dNever, q_par, q_parQ, q_par3, q_parQ3, dParNE, dParDE, gdName, q_gnil, q_gcons, q_gtup, dVar, dOwn, dC, d1, d2, n2, nCons, nNil, nLst, dTup, dFr, dTest, dAnd, dOr, dNot, dAndV, dOrV, dNotV, dIf, dChain, dCB, nCB, dCall, nCall, aDat, aBag, aNil, q_neg, q_add, q_addl, q_addt, q_sub, q_mul, q_mull, q_mult, q_fdiv, q_mod, q_pow, q_lt, q_le, q_gt, q_ge, eqD, neD, isD, isntD, q_isnn, q_isni, q_isnb, q_isnt, q_isnl, q_lenl, q_lent, q_inti, q_intb, q_max2, q_min2, q_listl, q_listt, q_tuplel, q_tuplet, q_sum, q_min, q_max, allD, itSeq, itR1, q_itR2, q_rng2, q_en, q_en1, q_zip, q_zipQ, q_seqr, q_lenr, q_ixr, q_seql, q_seqt, q_rvd, q_rvn, q_catn, q_ixl, q_ixt, q_sl, q_sll, q_slt, q_slr, nSlL, oNone, oSome, nLc, wipeD, q_dropc, q_dropxd, q_dropxb, q_dropxo, q_dropxn, q_drope, dYes, dCnt, q_revl, q_revt, q_revr, nListRg, dTupRg, exInts, exOpt, q_addr1, q_addrr, q_ixk0, q_ixk1, exRow, exTk, cntL, cntQ_some, cntQ_none, List.getElem?_cons_zero, List.getElem?_cons_succ, List.getElem?_nil, Option.some.injEq, SV.dat.injEq, SV.own.injEq, PyData.int.injEq, PyData.bool.injEq, PyData.tuple.injEq, PyData.list.injEq, PyData.str.injEq, RVd.new.injEq, RVd.dat.injEq, exists_eq_left, exists_eq_left', exists_eq_right, List.cons.injEq, List.set_cons_zero, List.set_cons_succ, reduceCtorEq, and_true, true_and, false_and, and_false, not_true_eq_false, not_false_eq_true, if_true, if_false, ite_true, ite_false, decide_eq_true_eq, Bool.not_eq_true', decide_eq_false_iff_not, Bool.and_true, Bool.true_and, Bool.and_false, Bool.false_and, Bool.not_true, Bool.not_false, Bool.false_eq_true, List.map_cons, List.map_nil, List.length_cons, List.length_nil, Nat.zero_add, Nat.reduceAdd, Nat.reduceLeDiff, startd, List.replicate_succ, List.replicate_zero, List.nil_append, List.cons_append, Nat.reduceSub, exists_const, and_self, shp_int, shp_none, shp_bool, eqv_int, dForL_nil, lcL_nil] at h ⊢
                  exact h _
                · simp only [h3, h4, decide_true, decide_false, dSeq, dAsgG, dAsgN, dRet, dRetN, dRetO, dRet0, dDrop, dIfS, dNext, dApp, dInsert, q_setI, q_setQ, q_take, dFor, dFreeze, dNever, q_par, q_parQ, q_par3, q_parQ3, dParNE, dParDE, gdName, q_gnil, q_gcons, q_gtup, dVar, dOwn, dC, d1, d2, n2, nCons, nNil, nLst, dTup, dFr, dTest, dAnd, dOr, dNot, dAndV, dOrV, dNotV, dIf, dChain, dCB, nCB, dCall, nCall, aDat, aBag, aNil, q_neg, q_add, q_addl, q_addt, q_sub, q_mul, q_mull, q_mult, q_fdiv, q_mod, q_pow, q_lt, q_le, q_gt, q_ge, eqD, neD, isD, isntD, q_isnn, q_isni, q_isnb, q_isnt, q_isnl, q_lenl, q_lent, q_inti, q_intb, q_max2, q_min2, q_listl, q_listt, q_tuplel, q_tuplet, q_sum, q_min, q_max, allD, itSeq, itR1, q_itR2, q_rng2, q_en, q_en1, q_zip, q_zipQ, q_seqr, q_lenr, q_ixr, q_seql, q_seqt, q_rvd, q_rvn, q_catn, q_ixl, q_ixt, q_sl, q_sll, q_slt, q_slr, nSlL, oNone, oSome, nLc, wipeD, q_dropc, q_dropxd, q_dropxb, q_dropxo, q_dropxn, q_drope, dYes, dCnt, q_revl, q_revt, q_revr, nListRg, dTupRg, exInts, exOpt, q_addr1, q_addrr, q_ixk0, q_ixk1, exRow, exTk, cntL, cntQ_some, cntQ_none, List.getElem?_cons_zero, List.getElem?_cons_succ, List.getElem?_nil, Option.some.injEq, SV.dat.injEq, SV.own.injEq, PyData.int.injEq, PyData.bool.injEq, PyData.tuple.injEq, PyData.list.injEq, PyData.str.injEq, RVd.new.injEq, RVd.dat.injEq, exists_eq_left, exists_eq_left', exists_eq_right, List.cons.injEq, List.set_cons_zero, List.set_cons_succ, reduceCtorEq, and_true, true_and, false_and, and_false, not_true_eq_false, not_false_eq_true, if_true, if_false, ite_true, ite_false, decide_eq_true_eq, Bool.not_eq_true', decide_eq_false_iff_not, Bool.and_true, Bool.true_and, Bool.and_false, Bool.false_and, Bool.not_true, Bool.not_false, Bool.false_eq_true, List.map_cons, List.map_nil, List.length_cons, List.length_nil, Nat.zero_add, Nat.reduceAdd, Nat.reduceLeDiff, startd, List.replicate_succ, List.replicate_zero, List.nil_append, List.cons_append, Nat.reduceSub, exists_const, and_self, shp_int, shp_none, shp_bool, eqv_int, dForL_nil, lcL_nil] at h ⊢
                  exact h
              · simp only [h3, decide_false, dSeq, dAsgG, dAsgN, dRet, dRetN, dRetO, dRet0, dDrop, dIfS, dNext, dApp, dInsert, q_setI, q_setQ, q_take, dFor, dFreeze, dNever, q_par, q_parQ, q_par3, q_parQ3, dParNE, dParDE, gdName, q_gnil, q_gcons, q_gtup, dVar, dOwn, dC, d1, d2, n2, nCons, nNil, nLst, dTup, dFr, dTest, dAnd, dOr, dNot, dAndV, dOrV, dNotV, dIf, dChain, dCB, nCB, dCall, nCall, aDat, aBag, aNil, q_neg, q_add, q_addl, q_addt, q_sub, q_mul, q_mull, q_mult, q_fdiv, q_mod, q_pow, q_lt, q_le, q_gt, q_ge, eqD, neD, isD, isntD, q_isnn, q_isni, q_isnb, q_isnt, q_isnl, q_lenl, q_lent, q_inti, q_intb, q_max2, q_min2, q_listl, q_listt, q_tuplel, q_tuplet, q_sum, q_min, q_max, allD, itSeq, itR1, q_itR2, q_rng2, q_en, q_en1, q_zip, q_zipQ, q_seqr, q_lenr, q_ixr, q_seql, q_seqt, q_rvd, q_rvn, q_catn, q_ixl, q_ixt, q_sl, q_sll, q_slt, q_slr, nSlL, oNone, oSome, nLc, wipeD, q_dropc, q_dropxd, q_dropxb, q_dropxo, q_dropxn, q_drope, dYes, dCnt, q_revl, q_revt, q_revr, nListRg, dTupRg, exInts, exOpt, q_addr1, q_addrr, q_ixk0, q_ixk1, exRow, exTk, cntL, cntQ_some, cntQ_none, List.getElem?_cons_zero, List.getElem?_cons_succ, List.getElem?_nil, Option.some.injEq, SV.dat.injEq, SV.own.injEq, PyData.int.injEq, PyData.bool.injEq, PyData.tuple.injEq, PyData.list.injEq, PyData.str.injEq, RVd.new.injEq, RVd.dat.injEq, exists_eq_left, exists_eq_left', exists_eq_right, List.cons.injEq, List.set_cons_zero, List.set_cons_succ, reduceCtorEq, and_true, true_and, false_and, and_false, not_true_eq_false, not_false_eq_true, if_true, if_false, ite_true, ite_false, decide_eq_true_eq, Bool.not_eq_true', decide_eq_false_iff_not, Bool.and_true, Bool.true_and, Bool.and_false, Bool.false_and, Bool.not_true, Bool.not_false, Bool.false_eq_true, List.map_cons, List.map_nil, List.length_cons, List.length_nil, Nat.zero_add, Nat.reduceAdd, Nat.reduceLeDiff, startd, List.replicate_succ, List.replicate_zero, List.nil_append, List.cons_append, Nat.reduceSub, exists_const, and_self, shp_int, shp_none, shp_bool, eqv_int, dForL_nil, lcL_nil] at h ⊢
                exact h
            | _ =>
              simp only [dSeq, dAsgG, dAsgN, dRet, dRetN, dRetO, dRet0, dDrop, dIfS, dNext, dApp, dInsert, q_setI, q_setQ, q_take, dFor, dFreeze, dNever, q_par, q_parQ, q_par3, q_parQ3, dParNE, dParDE, gdName, q_gnil, q_gcons, q_gtup, dVar, dOwn, dC, d1, d2, n2, nCons, nNil, nLst, dTup, dFr, dTest, dAnd, dOr, dNot, dAndV, dOrV, dNotV, dIf, dChain, dCB, nCB, dCall, nCall, aDat, aBag, aNil, q_neg, q_add, q_addl, q_addt, q_sub, q_mul, q_mull, q_mult, q_fdiv, q_mod, q_pow, q_lt, q_le, q_gt, q_ge, eqD, neD, isD, isntD, q_isnn, q_isni, q_isnb, q_isnt, q_isnl, q_lenl, q_lent, q_inti, q_intb, q_max2, q_min2, q_listl, q_listt, q_tuplel, q_tuplet, q_sum, q_min, q_max, allD, itSeq, itR1, q_itR2, q_rng2, q_en, q_en1, q_zip, q_zipQ, q_seqr, q_lenr, q_ixr, q_seql, q_seqt, q_rvd, q_rvn, q_catn, q_ixl, q_ixt, q_sl, q_sll, q_slt, q_slr, nSlL, oNone, oSome, nLc, wipeD, q_dropc, q_dropxd, q_dropxb, q_dropxo, q_dropxn, q_drope, dYes, dCnt, q_revl, q_revt, q_revr, nListRg, dTupRg, exInts, exOpt, q_addr1, q_addrr, q_ixk0, q_ixk1, exRow, exTk, cntL, cntQ_some, cntQ_none, List.getElem?_cons_zero, List.getElem?_cons_succ, List.getElem?_nil, Option.some.injEq, SV.dat.injEq, SV.own.injEq, PyData.int.injEq, PyData.bool.injEq, PyData.tuple.injEq, PyData.list.injEq, PyData.str.injEq, RVd.new.injEq, RVd.dat.injEq, exists_eq_left, exists_eq_left', exists_eq_right, List.cons.injEq, List.set_cons_zero, List.set_cons_succ, reduceCtorEq, and_true, true_and, false_and, and_false, not_true_eq_false, not_false_eq_true, if_true, if_false, ite_true, ite_false, decide_eq_true_eq, Bool.not_eq_true', decide_eq_false_iff_not, Bool.and_true, Bool.true_and, Bool.and_false, Bool.false_and, Bool.not_true, Bool.not_false, Bool.false_eq_true, List.map_cons, List.map_nil, List.length_cons, List.length_nil, Nat.zero_add, Nat.reduceAdd, Nat.reduceLeDiff, startd, List.replicate_succ, List.replicate_zero, List.nil_append, List.cons_append, Nat.reduceSub, exists_const, and_self, shp_int, shp_none, shp_bool, eqv_int, dForL_nil, lcL_nil] at h ⊢
              exact h
          · simp only [h1, h2, decide_true, decide_false, dSeq, dAsgG, dAsgN, dRet, dRetN, dRetO, dRet0, dDrop, dIfS, dNext, dApp, dInsert, q_setI, q_setQ, q_take, dFor, dFreeze, dNever, q_par, q_parQ, q_par3, q_parQ3, dParNE, dParDE, gdName, q_gnil, q_gcons, q_gtup, dVar, dOwn, dC, d1, d2, n2, nCons, nNil, nLst, dTup, dFr, dTest, dAnd, dOr, dNot, dAndV, dOrV, dNotV, dIf, dChain, dCB, nCB, dCall, nCall, aDat, aBag, aNil, q_neg, q_add, q_addl, q_addt, q_sub, q_mul, q_mull, q_mult, q_fdiv, q_mod, q_pow, q_lt, q_le, q_gt, q_ge, eqD, neD, isD, isntD, q_isnn, q_isni, q_isnb, q_isnt, q_isnl, q_lenl, q_lent, q_inti, q_intb, q_max2, q_min2, q_listl, q_listt, q_tuplel, q_tuplet, q_sum, q_min, q_max, allD, itSeq, itR1, q_itR2, q_rng2, q_en, q_en1, q_zip, q_zipQ, q_seqr, q_lenr, q_ixr, q_seql, q_seqt, q_rvd, q_rvn, q_catn, q_ixl, q_ixt, q_sl, q_sll, q_slt, q_slr, nSlL, oNone, oSome, nLc, wipeD, q_dropc, q_dropxd, q_dropxb, q_dropxo, q_dropxn, q_drope, dYes, dCnt, q_revl, q_revt, q_revr, nListRg, dTupRg, exInts, exOpt, q_addr1, q_addrr, q_ixk0, q_ixk1, exRow, exTk, cntL, cntQ_some, cntQ_none, List.getElem?_cons_zero, List.getElem?_cons_succ, List.getElem?_nil, Option.some.injEq, SV.dat.injEq, SV.own.injEq, PyData.int.injEq, PyData.bool.injEq, PyData.tuple.injEq, PyData.list.injEq, PyData.str.injEq, RVd.new.injEq, RVd.dat.injEq, exists_eq_left, exists_eq_left', exists_eq_right, List.cons.injEq, List.set_cons_zero, List.set_cons_succ, reduceCtorEq, and_true, true_and, false_and, and_false, not_true_eq_false, not_false_eq_true, if_true, if_false, ite_true, ite_false, decide_eq_true_eq, Bool.not_eq_true', decide_eq_false_iff_not, Bool.and_true, Bool.true_and, Bool.and_false, Bool.false_and, Bool.not_true, Bool.not_false, Bool.false_eq_true, List.map_cons, List.map_nil, List.length_cons, List.length_nil, Nat.zero_add, Nat.reduceAdd, Nat.reduceLeDiff, startd, List.replicate_succ, List.replicate_zero, List.nil_append, List.cons_append, Nat.reduceSub, exists_const, and_self, shp_int, shp_none, shp_bool, eqv_int, dForL_nil, lcL_nil] at h ⊢
            exact h
        · simp only [h1, decide_false, dSeq, dAsgG, dAsgN, dRet, dRetN, dRetO, dRet0, dDrop, dIfS, dNext, dApp, dInsert, q_setI, q_setQ, q_take, dFor, dFreeze, dNever, q_par, q_parQ, q_par3, q_parQ3, dParNE, dParDE, gdName, q_gnil, q_gcons, q_gtup, dVar, dOwn, dC, d1, d2, n2, nCons, nNil, nLst, dTup, dFr, dTest, dAnd, dOr, dNot, dAndV, dOrV, dNotV, dIf, dChain, dCB, nCB, dCall, nCall, aDat, aBag, aNil, q_neg, q_add, q_addl, q_addt, q_sub, q_mul, q_mull, q_mult, q_fdiv, q_mod, q_pow, q_lt, q_le, q_gt, q_ge, eqD, neD, isD, isntD, q_isnn, q_isni, q_isnb, q_isnt, q_isnl, q_lenl, q_lent, q_inti, q_intb, q_max2, q_min2, q_listl, q_listt, q_tuplel, q_tuplet, q_sum, q_min, q_max, allD, itSeq, itR1, q_itR2, q_rng2, q_en, q_en1, q_zip, q_zipQ, q_seqr, q_lenr, q_ixr, q_seql, q_seqt, q_rvd, q_rvn, q_catn, q_ixl, q_ixt, q_sl, q_sll, q_slt, q_slr, nSlL, oNone, oSome, nLc, wipeD, q_dropc, q_dropxd, q_dropxb, q_dropxo, q_dropxn, q_drope, dYes, dCnt, q_revl, q_revt, q_revr, nListRg, dTupRg, exInts, exOpt, q_addr1, q_addrr, q_ixk0, q_ixk1, exRow, exTk, cntL, cntQ_some, cntQ_none, List.getElem?_cons_zero, List.getElem?_cons_succ, List.getElem?_nil, Option.some.injEq, SV.dat.injEq, SV.own.injEq, PyData.int.injEq, PyData.bool.injEq, PyData.tuple.injEq, PyData.list.injEq, PyData.str.injEq, RVd.new.injEq, RVd.dat.injEq, exists_eq_left, exists_eq_left', exists_eq_right, List.cons.injEq, List.set_cons_zero, List.set_cons_succ, reduceCtorEq, and_true, true_and, false_and, and_false, not_true_eq_false, not_false_eq_true, if_true, if_false, ite_true, ite_false, decide_eq_true_eq, Bool.not_eq_true', decide_eq_false_iff_not, Bool.and_true, Bool.true_and, Bool.and_false, Bool.false_and, Bool.not_true, Bool.not_false, Bool.false_eq_true, List.map_cons, List.map_nil, List.length_cons, List.length_nil, Nat.zero_add, Nat.reduceAdd, Nat.reduceLeDiff, startd, List.replicate_succ, List.replicate_zero, List.nil_append, List.cons_append, Nat.reduceSub, exists_const, and_self, shp_int, shp_none, shp_bool, eqv_int, dForL_nil, lcL_nil] at h ⊢
          exact h
      | _ =>
        simp only [takerB, withinB, dSeq, dAsgG, dAsgN, dRet, dRetN, dRetO, dRet0, dDrop, dIfS, dNext, dApp, dInsert, q_setI, q_setQ, q_take, dFor, dFreeze, dNever, q_par, q_parQ, q_par3, q_parQ3, dParNE, dParDE, gdName, q_gnil, q_gcons, q_gtup, dVar, dOwn, dC, d1, d2, n2, nCons, nNil, nLst, dTup, dFr, dTest, dAnd, dOr, dNot, dAndV, dOrV, dNotV, dIf, dChain, dCB, nCB, dCall, nCall, aDat, aBag, aNil, q_neg, q_add, q_addl, q_addt, q_sub, q_mul, q_mull, q_mult, q_fdiv, q_mod, q_pow, q_lt, q_le, q_gt, q_ge, eqD, neD, isD, isntD, q_isnn, q_isni, q_isnb, q_isnt, q_isnl, q_lenl, q_lent, q_inti, q_intb, q_max2, q_min2, q_listl, q_listt, q_tuplel, q_tuplet, q_sum, q_min, q_max, allD, itSeq, itR1, q_itR2, q_rng2, q_en, q_en1, q_zip, q_zipQ, q_seqr, q_lenr, q_ixr, q_seql, q_seqt, q_rvd, q_rvn, q_catn, q_ixl, q_ixt, q_sl, q_sll, q_slt, q_slr, nSlL, oNone, oSome, nLc, wipeD, q_dropc, q_dropxd, q_dropxb, q_dropxo, q_dropxn, q_drope, dYes, dCnt, q_revl, q_revt, q_revr, nListRg, dTupRg, exInts, exOpt, q_addr1, q_addrr, q_ixk0, q_ixk1, exRow, exTk, cntL, cntQ_some, cntQ_none, List.getElem?_cons_zero, List.getElem?_cons_succ, List.getElem?_nil, Option.some.injEq, SV.dat.injEq, SV.own.injEq, PyData.int.injEq, PyData.bool.injEq, PyData.tuple.injEq, PyData.list.injEq, PyData.str.injEq, RVd.new.injEq, RVd.dat.injEq, exists_eq_left, exists_eq_left', exists_eq_right, List.cons.injEq, List.set_cons_zero, List.set_cons_succ, reduceCtorEq, and_true, true_and, false_and, and_false, not_true_eq_false, not_false_eq_true, if_true, if_false, ite_true, ite_false, decide_eq_true_eq, Bool.not_eq_true', decide_eq_false_iff_not, Bool.and_true, Bool.true_and, Bool.and_false, Bool.false_and, Bool.not_true, Bool.not_false, Bool.false_eq_true, List.map_cons, List.map_nil, List.length_cons, List.length_nil, Nat.zero_add, Nat.reduceAdd, Nat.reduceLeDiff, startd, List.replicate_succ, List.replicate_zero, List.nil_append, List.cons_append, Nat.reduceSub, exists_const, and_self, shp_int, shp_none, shp_bool, eqv_int, dForL_nil, lcL_nil] at h ⊢
        exact h
    | a :: b :: c :: r, h =>
      have z : ¬ ((r.length + 1 + 1 + 1 : Nat) : Int) = 2 := by omega
      simp only [List.length_cons, z, takerB, shp_int, eqv_int, decide_false, at0, at1, dSeq, dAsgG, dAsgN, dRet, dRetN, dRetO, dRet0, dDrop, dIfS, dNext, dApp, dInsert, q_setI, q_setQ, q_take, dFor, dFreeze, dNever, q_par, q_parQ, q_par3, q_parQ3, dParNE, dParDE, gdName, q_gnil, q_gcons, q_gtup, dVar, dOwn, dC, d1, d2, n2, nCons, nNil, nLst, dTup, dFr, dTest, dAnd, dOr, dNot, dAndV, dOrV, dNotV, dIf, dChain, dCB, nCB, dCall, nCall, aDat, aBag, aNil, q_neg, q_add, q_addl, q_addt, q_sub, q_mul, q_mull, q_mult, q_fdiv, q_mod, q_pow, q_lt, q_le, q_gt, q_ge, eqD, neD, isD, isntD, q_isnn, q_isni, q_isnb, q_isnt, q_isnl, q_lenl, q_lent, q_inti, q_intb, q_max2, q_min2, q_listl, q_listt, q_tuplel, q_tuplet, q_sum, q_min, q_max, allD, itSeq, itR1, q_itR2, q_rng2, q_en, q_en1, q_zip, q_zipQ, q_seqr, q_lenr, q_ixr, q_seql, q_seqt, q_rvd, q_rvn, q_catn, q_ixl, q_ixt, q_sl, q_sll, q_slt, q_slr, nSlL, oNone, oSome, nLc, wipeD, q_dropc, q_dropxd, q_dropxb, q_dropxo, q_dropxn, q_drope, dYes, dCnt, q_revl, q_revt, q_revr, nListRg, dTupRg, exInts, exOpt, q_addr1, q_addrr, q_ixk0, q_ixk1, exRow, exTk, cntL, cntQ_some, cntQ_none, List.getElem?_cons_zero, List.getElem?_cons_succ, List.getElem?_nil, Option.some.injEq, SV.dat.injEq, SV.own.injEq, PyData.int.injEq, PyData.bool.injEq, PyData.tuple.injEq, PyData.list.injEq, PyData.str.injEq, RVd.new.injEq, RVd.dat.injEq, exists_eq_left, exists_eq_left', exists_eq_right, List.cons.injEq, List.set_cons_zero, List.set_cons_succ, reduceCtorEq, and_true, true_and, false_and, and_false, not_true_eq_false, not_false_eq_true, if_true, if_false, ite_true, ite_false, decide_eq_true_eq, Bool.not_eq_true', decide_eq_false_iff_not, Bool.and_true, Bool.true_and, Bool.and_false, Bool.false_and, Bool.not_true, Bool.not_false, Bool.false_eq_true, List.map_cons, List.map_nil, List.length_cons, List.length_nil, Nat.zero_add, Nat.reduceAdd, Nat.reduceLeDiff, startd, List.replicate_succ, List.replicate_zero, List.nil_append, List.cons_append, Nat.reduceSub, exists_const, and_self, shp_int, shp_none, shp_bool, eqv_int, dForL_nil, lcL_nil] at h ⊢
      exact h
  | _ =>
    simp only [isTupB, takerB, dSeq, dAsgG, dAsgN, dRet, dRetN, dRetO, dRet0, dDrop, dIfS, dNext, dApp, dInsert, q_setI, q_setQ, q_take, dFor, dFreeze, dNever, q_par, q_parQ, q_par3, q_parQ3, dParNE, dParDE, gdName, q_gnil, q_gcons, q_gtup, dVar, dOwn, dC, d1, d2, n2, nCons, nNil, nLst, dTup, dFr, dTest, dAnd, dOr, dNot, dAndV, dOrV, dNotV, dIf, dChain, dCB, nCB, dCall, nCall, aDat, aBag, aNil, q_neg, q_add, q_addl, q_addt, q_sub, q_mul, q_mull, q_mult, q_fdiv, q_mod, q_pow, q_lt, q_le, q_gt, q_ge, eqD, neD, isD, isntD, q_isnn, q_isni, q_isnb, q_isnt, q_isnl, q_lenl, q_lent, q_inti, q_intb, q_max2, q_min2, q_listl, q_listt, q_tuplel, q_tuplet, q_sum, q_min, q_max, allD, itSeq, itR1, q_itR2, q_rng2, q_en, q_en1, q_zip, q_zipQ, q_seqr, q_lenr, q_ixr, q_seql, q_seqt, q_rvd, q_rvn, q_catn, q_ixl, q_ixt, q_sl, q_sll, q_slt, q_slr, nSlL, oNone, oSome, nLc, wipeD, q_dropc, q_dropxd, q_dropxb, q_dropxo, q_dropxn, q_drope, dYes, dCnt, q_revl, q_revt, q_revr, nListRg, dTupRg, exInts, exOpt, q_addr1, q_addrr, q_ixk0, q_ixk1, exRow, exTk, cntL, cntQ_some, cntQ_none, List.getElem?_cons_zero, List.getElem?_cons_succ, List.getElem?_nil, Option.some.injEq, SV.dat.injEq, SV.own.injEq, PyData.int.injEq, PyData.bool.injEq, PyData.tuple.injEq, PyData.list.injEq, PyData.str.injEq, RVd.new.injEq, RVd.dat.injEq, exists_eq_left, exists_eq_left', exists_eq_right, List.cons.injEq, List.set_cons_zero, List.set_cons_succ, reduceCtorEq, and_true, true_and, false_and, and_false, not_true_eq_false, not_false_eq_true, if_true, if_false, ite_true, ite_false, decide_eq_true_eq, Bool.not_eq_true', decide_eq_false_iff_not, Bool.and_true, Bool.true_and, Bool.and_false, Bool.false_and, Bool.not_true, Bool.not_false, Bool.false_eq_true, List.map_cons, List.map_nil, List.length_cons, List.length_nil, Nat.zero_add, Nat.reduceAdd, Nat.reduceLeDiff, startd, List.replicate_succ, List.replicate_zero, List.nil_append, List.cons_append, Nat.reduceSub, exists_const, and_self, shp_int, shp_none, shp_bool, eqv_int, dForL_nil, lcL_nil] at h ⊢
    exact h
theorem isrow_loop {g : DG} {tb : DS} {D : DEnds} {x0 : Option SV} (hg : g = gdName 1)
    (htb : tb = (dSeq (dIfS (dOr (dNot (dTest (d1 (isiD "tuple") (dVar 1)))) (dOr (dTest (d2 neD (dCB lenD (nCons (dVar 1) nNil)) (dC (.int 2)))) (dNot (dTest (dCall sp_law_from (aDat (d2 ixD (dVar 1) (dC (.int 0))) (aDat (dC (.int 2)) (aDat (dC (.int 1000)) aNil)))))))) (dRet (dC (.bool false))) dNext)
  (dIfS (dNot (dTest (dCall sp_law_from (aDat (d2 ixD (dVar 1) (dC (.int 1))) (aDat (dC (.int 0)) (aDat (d2 subD (d2 ixD (dVar 1) (dC (.int 0))) (dC (.int 1))) aNil)))))) (dRet (dC (.bool false))) dNext))) :
    ∀ (ds : List PyData) (x1 : Option SV), (if ds.all takerB = true then ∀ x1, D.nx [x0, x1] else D.rt (.dat (.bool false))) → dForL g tb ds D [x0, x1]
  | [], x1, h => h x1
  | d :: ds, x1, h => isrow_item hg htb (by
    by_cases hd : takerB d = true
    · rw [if_pos hd]
      intro x1
      refine isrow_loop hg htb ds x1 ?_
      rw [List.all_cons, hd, Bool.true_and] at h
      exact h
    · rw [if_neg hd]
      have hd' : takerB d = false := by simpa using hd
      rw [List.all_cons, hd', Bool.false_and, if_neg (by decide)] at h
      exact h)
theorem rd_law_is_row (svs : List SV) (R : RVd → Prop) (h : sp_law_is_row svs R) : b_law_is_row { nx := fun _ => R (.dat .none), rt := R } (startd 2 svs) := by
  unfold sp_law_is_row at h
  split at h
  · rename_i d
    simp only [b_law_is_row, isi_tup, dSeq, dAsgG, dAsgN, dRet, dRetN, dRetO, dRet0, dDrop, dIfS, dNext, dApp, dInsert, q_setI, q_setQ, q_take, dFor, dFreeze, dNever, q_par, q_parQ, q_par3, q_parQ3, dParNE, dParDE, gdName, q_gnil, q_gcons, q_gtup, dVar, dOwn, dC, d1, d2, n2, nCons, nNil, nLst, dTup, dFr, dTest, dAnd, dOr, dNot, dAndV, dOrV, dNotV, dIf, dChain, dCB, nCB, dCall, nCall, aDat, aBag, aNil, q_neg, q_add, q_addl, q_addt, q_sub, q_mul, q_mull, q_mult, q_fdiv, q_mod, q_pow, q_lt, q_le, q_gt, q_ge, eqD, neD, isD, isntD, q_isnn, q_isni, q_isnb, q_isnt, q_isnl, q_lenl, q_lent, q_inti, q_intb, q_max2, q_min2, q_listl, q_listt, q_tuplel, q_tuplet, q_sum, q_min, q_max, allD, itSeq, itR1, q_itR2, q_rng2, q_en, q_en1, q_zip, q_zipQ, q_seqr, q_lenr, q_ixr, q_seql, q_seqt, q_rvd, q_rvn, q_catn, q_ixl, q_ixt, q_sl, q_sll, q_slt, q_slr, nSlL, oNone, oSome, nLc, wipeD, q_dropc, q_dropxd, q_dropxb, q_dropxo, q_dropxn, q_drope, dYes, dCnt, q_revl, q_revt, q_revr, nListRg, dTupRg, exInts, exOpt, q_addr1, q_addrr, q_ixk0, q_ixk1, exRow, exTk, cntL, cntQ_some, cntQ_none, List.getElem?_cons_zero, List.getElem?_cons_succ, List.getElem?_nil, Option.some.injEq, SV.dat.injEq, SV.own.injEq, PyData.int.injEq, PyData.bool.injEq, PyData.tuple.injEq, PyData.list.injEq, PyData.str.injEq, RVd.new.injEq, RVd.dat.injEq, exists_eq_left, exists_eq_left', exists_eq_right, List.cons.injEq, List.set_cons_zero, List.set_cons_succ, reduceCtorEq, and_true, true_and, false_and, and_false, not_true_eq_false, not_false_eq_true, if_true, if_false, ite_true, ite_false, decide_eq_true_eq, Bool.not_eq_true', decide_eq_false_iff_not, Bool.and_true, Bool.true_and, Bool.and_false, Bool.false_and, Bool.not_true, Bool.not_false, Bool.false_eq_true, List.map_cons, List.map_nil, List.length_cons, List.length_nil, Nat.zero_add, Nat.reduceAdd, Nat.reduceLeDiff, startd, List.replicate_succ, List.replicate_zero, List.nil_append, List.cons_append, Nat.reduceSub, exists_const, and_self, shp_int, shp_none, shp_bool, eqv_int, dForL_nil, lcL_nil]
    cases d with
    | tuple ds =>
      by_cases h8 : ds.length ≤ 8
      · have h8' : ¬ (8 : Int) < ds.length := by omega
        simp only [isTupB, rowB, h8, h8', decide_true, decide_false, dSeq, dAsgG, dAsgN, dRet, dRetN, dRetO, dRet0, dDrop, dIfS, dNext, dApp, dInsert, q_setI, q_setQ, q_take, dFor, dFreeze, dNever, q_par, q_parQ, q_par3, q_parQ3, dParNE, dParDE, gdName, q_gnil, q_gcons, q_gtup, dVar, dOwn, dC, d1, d2, n2, nCons, nNil, nLst, dTup, dFr, dTest, dAnd, dOr, dNot, dAndV, dOrV, dNotV, dIf, dChain, dCB, nCB, dCall, nCall, aDat, aBag, aNil, q_neg, q_add, q_addl, q_addt, q_sub, q_mul, q_mull, q_mult, q_fdiv, q_mod, q_pow, q_lt, q_le, q_gt, q_ge, eqD, neD, isD, isntD, q_isnn, q_isni, q_isnb, q_isnt, q_isnl, q_lenl, q_lent, q_inti, q_intb, q_max2, q_min2, q_listl, q_listt, q_tuplel, q_tuplet, q_sum, q_min, q_max, allD, itSeq, itR1, q_itR2, q_rng2, q_en, q_en1, q_zip, q_zipQ, q_seqr, q_lenr, q_ixr, q_seql, q_seqt, q_rvd, q_rvn, q_catn, q_ixl, q_ixt, q_sl, q_sll, q_slt, q_slr, nSlL, oNone, oSome, nLc, wipeD, q_dropc, q_dropxd, q_dropxb, q_dropxo, q_dropxn, q_drope, dYes, dCnt, q_revl, q_revt, q_revr, nListRg, dTupRg, exInts, exOpt, q_addr1, q_addrr, q_ixk0, q_ixk1, exRow, exTk, cntL, cntQ_some, cntQ_none, List.getElem?_cons_zero, List.getElem?_cons_succ, List.getElem?_nil, Option.some.injEq, SV.dat.injEq, SV.own.injEq, PyData.int.injEq, PyData.bool.injEq, PyData.tuple.injEq, PyData.list.injEq, PyData.str.injEq, RVd.new.injEq, RVd.dat.injEq, exists_eq_left, exists_eq_left', exists_eq_right, List.cons.injEq, List.set_cons_zero, List.set_cons_succ, reduceCtorEq, and_true, true_and, false_and, and_false, not_true_eq_false, not_false_eq_true, if_true, if_false, ite_true, ite_false, decide_eq_true_eq, Bool.not_eq_true', decide_eq_false_iff_not, Bool.and_true, Bool.true_and, Bool.and_false, Bool.false_and, Bool.not_true, Bool.not_false, Bool.false_eq_true, List.map_cons, List.map_nil, List.length_cons, List.length_nil, Nat.zero_add, Nat.reduceAdd, Nat.reduceLeDiff, startd, List.replicate_succ, List.replicate_zero, List.nil_append, List.cons_append, Nat.reduceSub, exists_const, and_self, shp_int, shp_none, shp_bool, eqv_int, dForL_nil, lcL_nil] at h ⊢
        refine isrow_loop rfl rfl ds none ?_
        by_cases ha : ds.all takerB = true
        · rw [if_pos ha]
          rw [ha] at h
          exact fun _ => h
        · rw [if_neg ha]
          have ha' : ds.all takerB = false := by simpa using ha
          rw [ha'] at h
          exact h
      · have h8' : (8 : Int) < ds.length := by omega
        simp only [isTupB, rowB, h8, h8', decide_true, decide_false, dSeq, dAsgG, dAsgN, dRet, dRetN, dRetO, dRet0, dDrop, dIfS, dNext, dApp, dInsert, q_setI, q_setQ, q_take, dFor, dFreeze, dNever, q_par, q_parQ, q_par3, q_parQ3, dParNE, dParDE, gdName, q_gnil, q_gcons, q_gtup, dVar, dOwn, dC, d1, d2, n2, nCons, nNil, nLst, dTup, dFr, dTest, dAnd, dOr, dNot, dAndV, dOrV, dNotV, dIf, dChain, dCB, nCB, dCall, nCall, aDat, aBag, aNil, q_neg, q_add, q_addl, q_addt, q_sub, q_mul, q_mull, q_mult, q_fdiv, q_mod, q_pow, q_lt, q_le, q_gt, q_ge, eqD, neD, isD, isntD, q_isnn, q_isni, q_isnb, q_isnt, q_isnl, q_lenl, q_lent, q_inti, q_intb, q_max2, q_min2, q_listl, q_listt, q_tuplel, q_tuplet, q_sum, q_min, q_max, allD, itSeq, itR1, q_itR2, q_rng2, q_en, q_en1, q_zip, q_zipQ, q_seqr, q_lenr, q_ixr, q_seql, q_seqt, q_rvd, q_rvn, q_catn, q_ixl, q_ixt, q_sl, q_sll, q_slt, q_slr, nSlL, oNone, oSome, nLc, wipeD, q_dropc, q_dropxd, q_dropxb, q_dropxo, q_dropxn, q_drope, dYes, dCnt, q_revl, q_revt, q_revr, nListRg, dTupRg, exInts, exOpt, q_addr1, q_addrr, q_ixk0, q_ixk1, exRow, exTk, cntL, cntQ_some, cntQ_none, List.getElem?_cons_zero, List.getElem?_cons_succ, List.getElem?_nil, Option.some.injEq, SV.dat.injEq, SV.own.injEq, PyData.int.injEq, PyData.bool.injEq, PyData.tuple.injEq, PyData.list.injEq, PyData.str.injEq, RVd.new.injEq, RVd.dat.injEq, exists_eq_left, exists_eq_left', exists_eq_right, List.cons.injEq, List.set_cons_zero, List.set_cons_succ, reduceCtorEq, and_true, true_and, false_and, and_false, not_true_eq_false, not_false_eq_true, if_true, if_false, ite_true, ite_false, decide_eq_true_eq, Bool.not_eq_true', decide_eq_false_iff_not, Bool.and_true, Bool.true_and, Bool.and_false, Bool.false_and, Bool.not_true, Bool.not_false, Bool.false_eq_true, List.map_cons, List.map_nil, List.length_cons, List.length_nil, Nat.zero_add, Nat.reduceAdd, Nat.reduceLeDiff, startd, List.replicate_succ, List.replicate_zero, List.nil_append, List.cons_append, Nat.reduceSub, exists_const, and_self, shp_int, shp_none, shp_bool, eqv_int, dForL_nil, lcL_nil] at h ⊢
        exact h
    | _ =>
      simp only [isTupB, rowB, dSeq, dAsgG, dAsgN, dRet, dRetN, dRetO, dRet0, dDrop, dIfS, dNext, dApp, dInsert, q_setI, q_setQ, q_take, dFor, dFreeze, dNever, q_par, q_parQ, q_par3, q_parQ3, dParNE, dParDE, gdName, q_gnil, q_gcons, q_gtup, dVar, dOwn, dC, d1, d2, n2, nCons, nNil, nLst, dTup, dFr, dTest, dAnd, dOr, dNot, dAndV, dOrV, dNotV, dIf, dChain, dCB, nCB, dCall, nCall, aDat, aBag, aNil, q_neg, q_add, q_addl, q_addt, q_sub, q_mul, q_mull, q_mult, q_fdiv, q_mod, q_pow, q_lt, q_le, q_gt, q_ge, eqD, neD, isD, isntD, q_isnn, q_isni, q_isnb, q_isnt, q_isnl, q_lenl, q_lent, q_inti, q_intb, q_max2, q_min2, q_listl, q_listt, q_tuplel, q_tuplet, q_sum, q_min, q_max, allD, itSeq, itR1, q_itR2, q_rng2, q_en, q_en1, q_zip, q_zipQ, q_seqr, q_lenr, q_ixr, q_seql, q_seqt, q_rvd, q_rvn, q_catn, q_ixl, q_ixt, q_sl, q_sll, q_slt, q_slr, nSlL, oNone, oSome, nLc, wipeD, q_dropc, q_dropxd, q_dropxb, q_dropxo, q_dropxn, q_drope, dYes, dCnt, q_revl, q_revt, q_revr, nListRg, dTupRg, exInts, exOpt, q_addr1, q_addrr, q_ixk0, q_ixk1, exRow, exTk, cntL, cntQ_some, cntQ_none, List.getElem?_cons_zero, List.getElem?_cons_succ, List.getElem?_nil, Option.some.injEq, SV.dat.injEq, SV.own.injEq, PyData.int.injEq, PyData.bool.injEq, PyData.tuple.injEq, PyData.list.injEq, PyData.str.injEq, RVd.new.injEq, RVd.dat.injEq, exists_eq_left, exists_eq_left', exists_eq_right, List.cons.injEq, List.set_cons_zero, List.set_cons_succ, reduceCtorEq, and_true, true_and, false_and, and_false, not_true_eq_false, not_false_eq_true, if_true, if_false, ite_true, ite_false, decide_eq_true_eq, Bool.not_eq_true', decide_eq_false_iff_not, Bool.and_true, Bool.true_and, Bool.and_false, Bool.false_and, Bool.not_true, Bool.not_false, Bool.false_eq_true, List.map_cons, List.map_nil, List.length_cons, List.length_nil, Nat.zero_add, Nat.reduceAdd, Nat.reduceLeDiff, startd, List.replicate_succ, List.replicate_zero, List.nil_append, List.cons_append, Nat.reduceSub, exists_const, and_self, shp_int, shp_none, shp_bool, eqv_int, dForL_nil, lcL_nil] at h ⊢
      exact h
  · exact h.elim
end Pd

set_option maxRecDepth 100000
set_option maxHeartbeats 4000000
namespace Pd
open PySem L2
/-- law: 0 script, 1 bag, 2 house, 3 once, 4 things, 5 some, 6 one, 7 thing -/
abbrev b_law_loop : DS := (dSeq (dAsgG (dCall sp_law_drawn_row (aBag 1 (aDat (dC (.int 8)) (aDat (dC (.int 1000)) aNil)))) (gdName 2))
  (dSeq (dAsgG (dCall (sp_law_spoilt 6) (aDat (dVar 2) (aDat (dSl (dBag0 1) (oSome (d2 modD (dBag1 1) (dC (.int 200)))) oNone) aNil))) (gdName 3))
  (dSeq (dAsgG (dFr (nLst (nCons (dVar 2) (nCons (dVar 3) (nCons (dCall (sp_law_spoilt 6) (aDat (dVar 3) (aDat (dSl (dBag0 1) (oSome (d2 addD (d2 modD (dBag1 1) (dC (.int 170))) (dC (.int 10)))) oNone) aNil))) nNil))))) (gdName 4))
  (dSeq (dAsgG (d2 addD (dVar 4) (dFr (nLst (nCons (dFr (nCB listN (nCons (dVar 2) nNil))) (nCons (d1 revD (dVar 2)) (nCons (d2 addD (dVar 2) (dVar 2)) nNil)))))) (gdName 4))
  (dSeq (dAsgG (dFr (nLst (nCons (dTup (nCons (dC (.int 2)) (nCons (dC (.int 0)) nNil))) (nCons (dTup (nCons (dC (.int 2)) (nCons (dC (.int 1)) nNil))) (nCons (dTup (nCons (dC (.int 2)) (nCons (dC (.int 2)) nNil))) (nCons (dTup (nCons (dC (.int 1)) (nCons (dC (.int 0)) nNil))) (nCons (dTup (nCons (dC (.int 1000)) (nCons (dC (.int 999)) nNil))) (nCons (dTup (nCons (dC (.int 1001)) (nCons (dC (.int 0)) nNil))) (nCons (dTup (nCons (dC (.int 2)) (nCons (d1 negD (dC (.int 1))) nNil))) (nCons (dTup (nCons (dC (.bool true)) (nCons (dC (.int 0)) nNil))) (nCons (dTup (nCons (dC (.int 2)) (nCons (dC (.bool true)) nNil))) (nCons (dTup (nCons (dC (.int 2)) nNil)) nNil)))))))))))) (gdName 5))
  (dSeq (dFor (itSeq (d2 addD (dVar 5) (dFr (nLst (nCons (dTup (nCons (dC (.int 2)) (nCons (dC (.int 0)) (nCons (dC (.int 0)) nNil)))) nNil))))) (gdName 6)
  (dAsgG (d2 addD (dVar 4) (dFr (nLst (nCons (dTup (nCons (dVar 6) nNil)) (nCons (d2 addD (dSl (dVar 2) oNone (oSome (dC (.int 7)))) (dTup (nCons (dVar 6) nNil))) nNil))))) (gdName 4)))
  (dSeq (dAsgG (d2 addD (dVar 4) (dFr (nLst (nCons (d2 mulD (dTup (nCons (dTup (nCons (dC (.int 2)) (nCons (dC (.int 0)) nNil))) nNil)) (dC (.int 8))) (nCons (d2 mulD (dTup (nCons (dTup (nCons (dC (.int 2)) (nCons (dC (.int 0)) nNil))) nNil)) (dC (.int 9))) (nCons (dTup (nCons (dFr (nLst (nCons (dC (.int 2)) (nCons (dC (.int 0)) nNil)))) nNil)) (nCons (dTup (nCons (dC .none) nNil)) (nCons (dTup (nCons (dC (.str (Str.ofString "20"))) nNil)) (nCons (dTup (nCons (dTup (nCons (dC (.int 2)) (nCons (dC .none) nNil))) nNil)) nNil))))))))) (gdName 4))
  (dFor (itSeq (d2 addD (dVar 4) (dFr (nLst (nCons (dCall sp_law_odd (aDat (dSl (dBag0 1) (oSome (d2 modD (dBag1 1) (dC (.int 300)))) oNone) aNil)) (nCons (dCall sp_law_odd (aDat (dSl (dBag0 1) (oSome (d2 addD (d2 modD (dBag1 1) (dC (.int 250))) (dC (.int 40)))) oNone) aNil)) nNil)))))) (gdName 7)
  (dIfS (dTest (d2 neD (dCB reprD (nCons (dCall sp_is_row (aDat (dVar 7) aNil)) nNil)) (dCB reprD (nCons (dCall sp_law_is_row (aDat (dVar 7) aNil)) nNil)))) (dRet (dC (.bool false))) dNext)))))))))
abbrev b_law_rest : DS := (dRet (d2 isBD (dCall sp_is_row (aDat (dTup nNil) aNil)) (dC (.bool true))))
theorem row_sm {rs : List (Int × Int)} (h : rs.length ≤ 8) : smN 8 2 (rowD rs) := smN_tuple (by rw [List.length_map]; exact h) fun x hx => by
  obtain ⟨t, _, rfl⟩ := List.mem_map.mp hx
  exact smN_tuple (by show 2 ≤ 8; decide) fun y hy => by
    rcases List.mem_cons.mp hy with rfl | hy
    · exact smN_flat rfl 0
    · rw [List.mem_singleton.mp hy]
      exact smN_flat rfl 0
/-- the things so far: a list, not too long -/
def ThL (n : Nat) (d : PyData) : Prop := ∃ ds, d = .list ds ∧ ds.length ≤ n
theorem pick_sl {env : Denv} {Q : PyData → Prop} {lo : DO} (hb : env[1]? = some (some .bag)) (hlo : ∀ Q : Option Int → Prop, (∀ k : Nat, k ≤ 397 → Q (some (k : Int))) → lo env Q)
    (hq : ∀ ns : List Int, 3 ≤ ns.length → (∀ x ∈ ns, 0 ≤ x ∧ x < 1000) → Q (.list (ns.map .int))) : dSl (dBag0 1) lo oNone env Q := by
  refine ⟨hb, fun ns hl hx => hlo _ fun k hk => ?_⟩
  show Q (.list (cutD (ns.map .int) (some (k : Int)) none))
  rw [cut_fromI]
  exact hq _ (by rw [List.length_drop]; omega) (drop_bd hx)
theorem lo1 {env : Denv} {m : Int} (hb : env[1]? = some (some .bag)) (h0 : 0 < m) (hm : m ≤ 397) (Q : Option Int → Prop) (h : ∀ k : Nat, k ≤ 397 → Q (some (k : Int))) : oSome (d2 modD (dBag1 1) (dC (.int m))) env Q := by
  refine ⟨hb, fun n hn => ⟨h0, _, rfl, ?_⟩⟩
  have h1 := Int.emod_nonneg n (show m ≠ 0 by omega)
  have h2 := Int.emod_lt_of_pos n h0
  obtain ⟨k, hk⟩ : ∃ k : Nat, n % m = (k : Int) := ⟨(n % m).toNat, by omega⟩
  rw [hk]
  exact h k (by omega)
theorem lo2 {env : Denv} {m c : Int} (hb : env[1]? = some (some .bag)) (h0 : 0 < m) (hc : 0 ≤ c) (hm : m + c ≤ 397) (Q : Option Int → Prop) (h : ∀ k : Nat, k ≤ 397 → Q (some (k : Int))) : oSome (d2 addD (d2 modD (dBag1 1) (dC (.int m))) (dC (.int c))) env Q := by
  refine ⟨hb, fun n hn => ⟨h0, _, rfl, ?_⟩⟩
  have h1 := Int.emod_nonneg n (show m ≠ 0 by omega)
  have h2 := Int.emod_lt_of_pos n h0
  obtain ⟨k, hk⟩ : ∃ k : Nat, n % m + c = (k : Int) := ⟨(n % m + c).toNat, by omega⟩
  rw [hk]
  exact h k (by omega)
theorem cut_len (ds : List PyData) (lo hi : Option Int) : (cutD ds lo hi).length ≤ ds.length := by
  unfold cutD
  rw [List.length_take, List.length_drop]
  omega
theorem loop_some {D : DEnds} {hs : List PyData} {x0 x1 x3 x5 x7 : Option SV} {g : DG} {tb : DS} (hg : g = gdName 6)
    (htb : tb = (dAsgG (d2 addD (dVar 4) (dFr (nLst (nCons (dTup (nCons (dVar 6) nNil)) (nCons (d2 addD (dSl (dVar 2) oNone (oSome (dC (.int 7)))) (dTup (nCons (dVar 6) nNil))) nNil))))) (gdName 4))) (h8 : hs.length ≤ 8) (h : ∀ (ts' : List PyData) (x6 : Option SV), ts'.length ≤ 1000 → D.nx [x0, x1, some (.dat (.tuple hs)), x3, some (.dat (.list ts')), x5, x6, x7]) :
    ∀ (ds ts : List PyData) (x6 : Option SV), ts.length + 2 * ds.length ≤ 1000 → dForL g tb ds D [x0, x1, some (.dat (.tuple hs)), x3, some (.dat (.list ts)), x5, x6, x7]
  | [], ts, x6, hl => h ts x6 hl
  | d :: ds, ts, x6, hl => by
    have hl' : ts.length + 2 * (ds.length + 1) ≤ 1000 := hl
    have ih := loop_some (D := D) (x0 := x0) (x1 := x1) (x3 := x3) (x5 := x5) (x7 := x7) hg htb h8 h ds
    rw [dForL_cons]
    generalize dForL g tb ds D = rest at *
    rw [hg, htb]
    have hc := cut_len hs none (some 7)
    simp only [dSeq, dAsgG, dAsgN, dRet, dRetN, dRetO, dRet0, dDrop, dIfS, dNext, dApp, dInsert, q_setI, q_setQ, q_take, dFor, dFreeze, dNever, q_par, q_parQ, q_par3, q_parQ3, dParNE, dParDE, gdName, q_gnil, q_gcons, q_gtup, dVar, dOwn, dC, d1, d2, n2, nCons, nNil, nLst, dTup, dFr, dTest, dAnd, dOr, dNot, dAndV, dOrV, dNotV, dIf, dChain, dCB, nCB, dCall, nCall, aDat, aBag, aNil, q_neg, q_add, q_addl, q_addt, q_sub, q_mul, q_mull, q_mult, q_fdiv, q_mod, q_pow, q_lt, q_le, q_gt, q_ge, eqD, neD, isD, isntD, q_isnn, q_isni, q_isnb, q_isnt, q_isnl, q_lenl, q_lent, q_inti, q_intb, q_max2, q_min2, q_listl, q_listt, q_tuplel, q_tuplet, q_sum, q_min, q_max, allD, itSeq, itR1, q_itR2, q_rng2, q_en, q_en1, q_zip, q_zipQ, q_seqr, q_lenr, q_ixr, q_seql, q_seqt, q_rvd, q_rvn, q_catn, q_ixl, q_ixt, q_sl, q_sll, q_slt, q_slr, nSlL, oNone, oSome, nLc, wipeD, q_dropc, q_dropxd, q_dropxb, q_dropxo, q_dropxn, q_drope, dYes, dCnt, q_revl, q_revt, q_revr, nListRg, dTupRg, exInts, exOpt, q_addr1, q_addrr, q_ixk0, q_ixk1, exRow, exTk, cntL, cntQ_some, cntQ_none, List.getElem?_cons_zero, List.getElem?_cons_succ, List.getElem?_nil, Option.some.injEq, SV.dat.injEq, SV.own.injEq, PyData.int.injEq, PyData.bool.injEq, PyData.tuple.injEq, PyData.list.injEq, PyData.str.injEq, RVd.new.injEq, RVd.dat.injEq, exists_eq_left, exists_eq_left', exists_eq_right, List.cons.injEq, List.set_cons_zero, List.set_cons_succ, reduceCtorEq, and_true, true_and, false_and, and_false, not_true_eq_false, not_false_eq_true, if_true, if_false, ite_true, ite_false, decide_eq_true_eq, Bool.not_eq_true', decide_eq_false_iff_not, Bool.and_true, Bool.true_and, Bool.and_false, Bool.false_and, Bool.not_true, Bool.not_false, Bool.false_eq_true, List.map_cons, List.map_nil, List.length_cons, List.length_nil, Nat.zero_add, Nat.reduceAdd, Nat.reduceLeDiff, startd, List.replicate_succ, List.replicate_zero, List.nil_append, List.cons_append, Nat.reduceSub, exists_const, and_self, shp_int, shp_none, shp_bool, eqv_int, dForL_nil, lcL_nil]
    refine ⟨by omega, by omega, ?_⟩
    exact ih _ _ (by rw [List.length_append]; show ts.length + 2 + 2 * ds.length ≤ 1000; omega)
theorem loop_all {D : DEnds} {x0 x1 x2 x3 x4 x5 x6 : Option SV} {g : DG} {tb : DS} (hg : g = gdName 7)
    (htb : tb = (dIfS (dTest (d2 neD (dCB reprD (nCons (dCall sp_is_row (aDat (dVar 7) aNil)) nNil)) (dCB reprD (nCons (dCall sp_law_is_row (aDat (dVar 7) aNil)) nNil)))) (dRet (dC (.bool false))) dNext)) (h : ∀ x7, D.nx [x0, x1, x2, x3, x4, x5, x6, x7]) :
    ∀ (ds : List PyData) (x7 : Option SV), dForL g tb ds D [x0, x1, x2, x3, x4, x5, x6, x7]
  | [], x7 => h x7
  | d :: ds, x7 => by
    have ih := loop_all (D := D) (x0 := x0) (x1 := x1) (x2 := x2) (x3 := x3) (x4 := x4) (x5 := x5) (x6 := x6) hg htb h ds
    rw [dForL_cons]
    generalize dForL g tb ds D = rest at *
    rw [hg, htb]
    have hsh : SeqAt.shaped (.str (if rowB d then "True" else "False")) = true := by
      cases rowB d <;> decide +kernel
    have hev : PyData.eqv (.str (if rowB d then "True" else "False")) (.str (if rowB d then "True" else "False")) = true := SeqAt.eqv_refl _ (SeqAt.canLay_of_shaped hsh)
    simp only [sp_is_row, sp_law_is_row, q_repr, hsh, hev, dSeq, dAsgG, dAsgN, dRet, dRetN, dRetO, dRet0, dDrop, dIfS, dNext, dApp, dInsert, q_setI, q_setQ, q_take, dFor, dFreeze, dNever, q_par, q_parQ, q_par3, q_parQ3, dParNE, dParDE, gdName, q_gnil, q_gcons, q_gtup, dVar, dOwn, dC, d1, d2, n2, nCons, nNil, nLst, dTup, dFr, dTest, dAnd, dOr, dNot, dAndV, dOrV, dNotV, dIf, dChain, dCB, nCB, dCall, nCall, aDat, aBag, aNil, q_neg, q_add, q_addl, q_addt, q_sub, q_mul, q_mull, q_mult, q_fdiv, q_mod, q_pow, q_lt, q_le, q_gt, q_ge, eqD, neD, isD, isntD, q_isnn, q_isni, q_isnb, q_isnt, q_isnl, q_lenl, q_lent, q_inti, q_intb, q_max2, q_min2, q_listl, q_listt, q_tuplel, q_tuplet, q_sum, q_min, q_max, allD, itSeq, itR1, q_itR2, q_rng2, q_en, q_en1, q_zip, q_zipQ, q_seqr, q_lenr, q_ixr, q_seql, q_seqt, q_rvd, q_rvn, q_catn, q_ixl, q_ixt, q_sl, q_sll, q_slt, q_slr, nSlL, oNone, oSome, nLc, wipeD, q_dropc, q_dropxd, q_dropxb, q_dropxo, q_dropxn, q_drope, dYes, dCnt, q_revl, q_revt, q_revr, nListRg, dTupRg, exInts, exOpt, q_addr1, q_addrr, q_ixk0, q_ixk1, exRow, exTk, cntL, cntQ_some, cntQ_none, List.getElem?_cons_zero, List.getElem?_cons_succ, List.getElem?_nil, Option.some.injEq, SV.dat.injEq, SV.own.injEq, PyData.int.injEq, PyData.bool.injEq, PyData.tuple.injEq, PyData.list.injEq, PyData.str.injEq, RVd.new.injEq, RVd.dat.injEq, exists_eq_left, exists_eq_left', exists_eq_right, List.cons.injEq, List.set_cons_zero, List.set_cons_succ, reduceCtorEq, and_true, true_and, false_and, and_false, not_true_eq_false, not_false_eq_true, if_true, if_false, ite_true, ite_false, decide_eq_true_eq, Bool.not_eq_true', decide_eq_false_iff_not, Bool.and_true, Bool.true_and, Bool.and_false, Bool.false_and, Bool.not_true, Bool.not_false, Bool.false_eq_true, List.map_cons, List.map_nil, List.length_cons, List.length_nil, Nat.zero_add, Nat.reduceAdd, Nat.reduceLeDiff, startd, List.replicate_succ, List.replicate_zero, List.nil_append, List.cons_append, Nat.reduceSub, exists_const, and_self, shp_int, shp_none, shp_bool, eqv_int, dForL_nil, lcL_nil]
    exact ih _
theorem rd_law_loop : b_law_loop { nx := fun env' => env'.length = 8, ct := fun env' => env'.length = 8, rt := isTrue' } ((blank 8).set 1 (some .bag)) := by
  refine st_asg (fun d => ∃ rs : List (Int × Int), rs.length ≤ 8 ∧ d = rowD rs) (fun Q hq => ?_) ?_
  · simp only [blank, sp_law_drawn_row, dSeq, dAsgG, dAsgN, dRet, dRetN, dRetO, dRet0, dDrop, dIfS, dNext, dApp, dInsert, q_setI, q_setQ, q_take, dFor, dFreeze, dNever, q_par, q_parQ, q_par3, q_parQ3, dParNE, dParDE, gdName, q_gnil, q_gcons, q_gtup, dVar, dOwn, dC, d1, d2, n2, nCons, nNil, nLst, dTup, dFr, dTest, dAnd, dOr, dNot, dAndV, dOrV, dNotV, dIf, dChain, dCB, nCB, dCall, nCall, aDat, aBag, aNil, q_neg, q_add, q_addl, q_addt, q_sub, q_mul, q_mull, q_mult, q_fdiv, q_mod, q_pow, q_lt, q_le, q_gt, q_ge, eqD, neD, isD, isntD, q_isnn, q_isni, q_isnb, q_isnt, q_isnl, q_lenl, q_lent, q_inti, q_intb, q_max2, q_min2, q_listl, q_listt, q_tuplel, q_tuplet, q_sum, q_min, q_max, allD, itSeq, itR1, q_itR2, q_rng2, q_en, q_en1, q_zip, q_zipQ, q_seqr, q_lenr, q_ixr, q_seql, q_seqt, q_rvd, q_rvn, q_catn, q_ixl, q_ixt, q_sl, q_sll, q_slt, q_slr, nSlL, oNone, oSome, nLc, wipeD, q_dropc, q_dropxd, q_dropxb, q_dropxo, q_dropxn, q_drope, dYes, dCnt, q_revl, q_revt, q_revr, nListRg, dTupRg, exInts, exOpt, q_addr1, q_addrr, q_ixk0, q_ixk1, exRow, exTk, cntL, cntQ_some, cntQ_none, List.getElem?_cons_zero, List.getElem?_cons_succ, List.getElem?_nil, Option.some.injEq, SV.dat.injEq, SV.own.injEq, PyData.int.injEq, PyData.bool.injEq, PyData.tuple.injEq, PyData.list.injEq, PyData.str.injEq, RVd.new.injEq, RVd.dat.injEq, exists_eq_left, exists_eq_left', exists_eq_right, List.cons.injEq, List.set_cons_zero, List.set_cons_succ, reduceCtorEq, and_true, true_and, false_and, and_false, not_true_eq_false, not_false_eq_true, if_true, if_false, ite_true, ite_false, decide_eq_true_eq, Bool.not_eq_true', decide_eq_false_iff_not, Bool.and_true, Bool.true_and, Bool.and_false, Bool.false_and, Bool.not_true, Bool.not_false, Bool.false_eq_true, List.map_cons, List.map_nil, List.length_cons, List.length_nil, Nat.zero_add, Nat.reduceAdd, Nat.reduceLeDiff, startd, List.replicate_succ, List.replicate_zero, List.nil_append, List.cons_append, Nat.reduceSub, exists_const, and_self, shp_int, shp_none, shp_bool, eqv_int, dForL_nil, lcL_nil]
    exact ⟨by decide, by decide, by decide, by decide, fun rs hl _ => hq _ ⟨rs, by omega, rfl⟩⟩
  rintro _ ⟨rs, h8, rfl⟩
  have e0 : ((blank 8).set 1 (some .bag)).set 2 (some (.dat (rowD rs))) = [none, some .bag, some (.dat (rowD rs)), none, none, none, none, none] := rfl
  rw [e0]
  refine st_asg (smN 9 4) (fun Q hq => ?_) ?_
  · refine ⟨_, rfl, pick_sl rfl (lo1 rfl (by decide) (by decide)) fun ns hl hb => ?_⟩
    refine ⟨8, 2, _, ns, rfl, by decide, hl, hb, by decide, by decide, row_sm h8, fun r hr => hq _ hr⟩
  intro once ho
  refine st_asg (ThL 3) (fun Q hq => ?_) ?_
  · refine ⟨_, rfl, _, rfl, _, rfl, pick_sl rfl (lo2 rfl (by decide) (by decide) (by decide)) fun ns hl hb => ?_⟩
    refine ⟨9, 4, _, ns, rfl, by decide, hl, hb, by decide, by decide, ho, fun r hr => ⟨by show 3 ≤ 1000; decide, hq _ ⟨_, rfl, by show 3 ≤ 3; decide⟩⟩⟩
  rintro _ ⟨t1, rfl, l1⟩
  have hrl : (rs.map tkD).length ≤ 8 := by rw [List.length_map]; exact h8
  show dSeq _ _ _ [none, some .bag, some (.dat (.tuple (rs.map tkD))), some (.dat once), some (.dat (.list t1)), none, none, none]
  generalize rs.map tkD = hs at hrl
  refine st_asg (ThL 6) (fun Q hq => ?_) ?_
  · simp only [dSeq, dAsgG, dAsgN, dRet, dRetN, dRetO, dRet0, dDrop, dIfS, dNext, dApp, dInsert, q_setI, q_setQ, q_take, dFor, dFreeze, dNever, q_par, q_parQ, q_par3, q_parQ3, dParNE, dParDE, gdName, q_gnil, q_gcons, q_gtup, dVar, dOwn, dC, d1, d2, n2, nCons, nNil, nLst, dTup, dFr, dTest, dAnd, dOr, dNot, dAndV, dOrV, dNotV, dIf, dChain, dCB, nCB, dCall, nCall, aDat, aBag, aNil, q_neg, q_add, q_addl, q_addt, q_sub, q_mul, q_mull, q_mult, q_fdiv, q_mod, q_pow, q_lt, q_le, q_gt, q_ge, eqD, neD, isD, isntD, q_isnn, q_isni, q_isnb, q_isnt, q_isnl, q_lenl, q_lent, q_inti, q_intb, q_max2, q_min2, q_listl, q_listt, q_tuplel, q_tuplet, q_sum, q_min, q_max, allD, itSeq, itR1, q_itR2, q_rng2, q_en, q_en1, q_zip, q_zipQ, q_seqr, q_lenr, q_ixr, q_seql, q_seqt, q_rvd, q_rvn, q_catn, q_ixl, q_ixt, q_sl, q_sll, q_slt, q_slr, nSlL, oNone, oSome, nLc, wipeD, q_dropc, q_dropxd, q_dropxb, q_dropxo, q_dropxn, q_drope, dYes, dCnt, q_revl, q_revt, q_revr, nListRg, dTupRg, exInts, exOpt, q_addr1, q_addrr, q_ixk0, q_ixk1, exRow, exTk, cntL, cntQ_some, cntQ_none, List.getElem?_cons_zero, List.getElem?_cons_succ, List.getElem?_nil, Option.some.injEq, SV.dat.injEq, SV.own.injEq, PyData.int.injEq, PyData.bool.injEq, PyData.tuple.injEq, PyData.list.injEq, PyData.str.injEq, RVd.new.injEq, RVd.dat.injEq, exists_eq_left, exists_eq_left', exists_eq_right, List.cons.injEq, List.set_cons_zero, List.set_cons_succ, reduceCtorEq, and_true, true_and, false_and, and_false, not_true_eq_false, not_false_eq_true, if_true, if_false, ite_true, ite_false, decide_eq_true_eq, Bool.not_eq_true', decide_eq_false_iff_not, Bool.and_true, Bool.true_and, Bool.and_false, Bool.false_and, Bool.not_true, Bool.not_false, Bool.false_eq_true, List.map_cons, List.map_nil, List.length_cons, List.length_nil, Nat.zero_add, Nat.reduceAdd, Nat.reduceLeDiff, startd, List.replicate_succ, List.replicate_zero, List.nil_append, List.cons_append, Nat.reduceSub, exists_const, and_self, shp_int, shp_none, shp_bool, eqv_int, dForL_nil, lcL_nil]
    refine ⟨by omega, by omega, hq _ ⟨_, rfl, by rw [List.length_append]; show t1.length + 3 ≤ 6; omega⟩⟩
  rintro _ ⟨t2, rfl, l2⟩
  refine st_asg (ThL 10) (fun Q hq => ?_) ?_
  · simp only [dSeq, dAsgG, dAsgN, dRet, dRetN, dRetO, dRet0, dDrop, dIfS, dNext, dApp, dInsert, q_setI, q_setQ, q_take, dFor, dFreeze, dNever, q_par, q_parQ, q_par3, q_parQ3, dParNE, dParDE, gdName, q_gnil, q_gcons, q_gtup, dVar, dOwn, dC, d1, d2, n2, nCons, nNil, nLst, dTup, dFr, dTest, dAnd, dOr, dNot, dAndV, dOrV, dNotV, dIf, dChain, dCB, nCB, dCall, nCall, aDat, aBag, aNil, q_neg, q_add, q_addl, q_addt, q_sub, q_mul, q_mull, q_mult, q_fdiv, q_mod, q_pow, q_lt, q_le, q_gt, q_ge, eqD, neD, isD, isntD, q_isnn, q_isni, q_isnb, q_isnt, q_isnl, q_lenl, q_lent, q_inti, q_intb, q_max2, q_min2, q_listl, q_listt, q_tuplel, q_tuplet, q_sum, q_min, q_max, allD, itSeq, itR1, q_itR2, q_rng2, q_en, q_en1, q_zip, q_zipQ, q_seqr, q_lenr, q_ixr, q_seql, q_seqt, q_rvd, q_rvn, q_catn, q_ixl, q_ixt, q_sl, q_sll, q_slt, q_slr, nSlL, oNone, oSome, nLc, wipeD, q_dropc, q_dropxd, q_dropxb, q_dropxo, q_dropxn, q_drope, dYes, dCnt, q_revl, q_revt, q_revr, nListRg, dTupRg, exInts, exOpt, q_addr1, q_addrr, q_ixk0, q_ixk1, exRow, exTk, cntL, cntQ_some, cntQ_none, List.getElem?_cons_zero, List.getElem?_cons_succ, List.getElem?_nil, Option.some.injEq, SV.dat.injEq, SV.own.injEq, PyData.int.injEq, PyData.bool.injEq, PyData.tuple.injEq, PyData.list.injEq, PyData.str.injEq, RVd.new.injEq, RVd.dat.injEq, exists_eq_left, exists_eq_left', exists_eq_right, List.cons.injEq, List.set_cons_zero, List.set_cons_succ, reduceCtorEq, and_true, true_and, false_and, and_false, not_true_eq_false, not_false_eq_true, if_true, if_false, ite_true, ite_false, decide_eq_true_eq, Bool.not_eq_true', decide_eq_false_iff_not, Bool.and_true, Bool.true_and, Bool.and_false, Bool.false_and, Bool.not_true, Bool.not_false, Bool.false_eq_true, List.map_cons, List.map_nil, List.length_cons, List.length_nil, Nat.zero_add, Nat.reduceAdd, Nat.reduceLeDiff, startd, List.replicate_succ, List.replicate_zero, List.nil_append, List.cons_append, Nat.reduceSub, exists_const, and_self, shp_int, shp_none, shp_bool, eqv_int, dForL_nil, lcL_nil]
    exact hq _ ⟨_, rfl, by decide⟩
  rintro _ ⟨s1, rfl, k1⟩
  show dSeq (dFor _ _ _) _ _ [none, some .bag, some (.dat (.tuple hs)), some (.dat once), some (.dat (.list t2)), some (.dat (.list s1)), none, none]
  have it : ∀ (Q : List PyData → Prop), (∀ ds, ds.length ≤ 11 → Q ds) → itSeq (d2 addD (dVar 5) (dFr (nLst (nCons (dTup (nCons (dC (.int 2)) (nCons (dC (.int 0)) (nCons (dC (.int 0)) nNil)))) nNil)))) [none, some .bag, some (.dat (.tuple hs)), some (.dat once), some (.dat (.list t2)), some (.dat (.list s1)), none, none] Q := fun Q hq => by
    simp only [dSeq, dAsgG, dAsgN, dRet, dRetN, dRetO, dRet0, dDrop, dIfS, dNext, dApp, dInsert, q_setI, q_setQ, q_take, dFor, dFreeze, dNever, q_par, q_parQ, q_par3, q_parQ3, dParNE, dParDE, gdName, q_gnil, q_gcons, q_gtup, dVar, dOwn, dC, d1, d2, n2, nCons, nNil, nLst, dTup, dFr, dTest, dAnd, dOr, dNot, dAndV, dOrV, dNotV, dIf, dChain, dCB, nCB, dCall, nCall, aDat, aBag, aNil, q_neg, q_add, q_addl, q_addt, q_sub, q_mul, q_mull, q_mult, q_fdiv, q_mod, q_pow, q_lt, q_le, q_gt, q_ge, eqD, neD, isD, isntD, q_isnn, q_isni, q_isnb, q_isnt, q_isnl, q_lenl, q_lent, q_inti, q_intb, q_max2, q_min2, q_listl, q_listt, q_tuplel, q_tuplet, q_sum, q_min, q_max, allD, itSeq, itR1, q_itR2, q_rng2, q_en, q_en1, q_zip, q_zipQ, q_seqr, q_lenr, q_ixr, q_seql, q_seqt, q_rvd, q_rvn, q_catn, q_ixl, q_ixt, q_sl, q_sll, q_slt, q_slr, nSlL, oNone, oSome, nLc, wipeD, q_dropc, q_dropxd, q_dropxb, q_dropxo, q_dropxn, q_drope, dYes, dCnt, q_revl, q_revt, q_revr, nListRg, dTupRg, exInts, exOpt, q_addr1, q_addrr, q_ixk0, q_ixk1, exRow, exTk, cntL, cntQ_some, cntQ_none, List.getElem?_cons_zero, List.getElem?_cons_succ, List.getElem?_nil, Option.some.injEq, SV.dat.injEq, SV.own.injEq, PyData.int.injEq, PyData.bool.injEq, PyData.tuple.injEq, PyData.list.injEq, PyData.str.injEq, RVd.new.injEq, RVd.dat.injEq, exists_eq_left, exists_eq_left', exists_eq_right, List.cons.injEq, List.set_cons_zero, List.set_cons_succ, reduceCtorEq, and_true, true_and, false_and, and_false, not_true_eq_false, not_false_eq_true, if_true, if_false, ite_true, ite_false, decide_eq_true_eq, Bool.not_eq_true', decide_eq_false_iff_not, Bool.and_true, Bool.true_and, Bool.and_false, Bool.false_and, Bool.not_true, Bool.not_false, Bool.false_eq_true, List.map_cons, List.map_nil, List.length_cons, List.length_nil, Nat.zero_add, Nat.reduceAdd, Nat.reduceLeDiff, startd, List.replicate_succ, List.replicate_zero, List.nil_append, List.cons_append, Nat.reduceSub, exists_const, and_self, shp_int, shp_none, shp_bool, eqv_int, dForL_nil, lcL_nil]
    exact ⟨by omega, hq _ (by rw [List.length_append]; show s1.length + 1 ≤ 11; omega)⟩
  refine it _ fun ds hds => ?_
  refine loop_some rfl rfl hrl (fun t3 x6 l3 => ?_) ds t2 none (by omega)
  dsimp only
  refine st_asg (ThL 1006) (fun Q hq => ?_) ?_
  · simp only [show (2 : Int) ≤ 8 by decide, show (8 : Int) ≤ 1000 by decide, show (2 : Int) ≤ 9 by decide, show (9 : Int) ≤ 1000 by decide, ne_eq, dSeq, dAsgG, dAsgN, dRet, dRetN, dRetO, dRet0, dDrop, dIfS, dNext, dApp, dInsert, q_setI, q_setQ, q_take, dFor, dFreeze, dNever, q_par, q_parQ, q_par3, q_parQ3, dParNE, dParDE, gdName, q_gnil, q_gcons, q_gtup, dVar, dOwn, dC, d1, d2, n2, nCons, nNil, nLst, dTup, dFr, dTest, dAnd, dOr, dNot, dAndV, dOrV, dNotV, dIf, dChain, dCB, nCB, dCall, nCall, aDat, aBag, aNil, q_neg, q_add, q_addl, q_addt, q_sub, q_mul, q_mull, q_mult, q_fdiv, q_mod, q_pow, q_lt, q_le, q_gt, q_ge, eqD, neD, isD, isntD, q_isnn, q_isni, q_isnb, q_isnt, q_isnl, q_lenl, q_lent, q_inti, q_intb, q_max2, q_min2, q_listl, q_listt, q_tuplel, q_tuplet, q_sum, q_min, q_max, allD, itSeq, itR1, q_itR2, q_rng2, q_en, q_en1, q_zip, q_zipQ, q_seqr, q_lenr, q_ixr, q_seql, q_seqt, q_rvd, q_rvn, q_catn, q_ixl, q_ixt, q_sl, q_sll, q_slt, q_slr, nSlL, oNone, oSome, nLc, wipeD, q_dropc, q_dropxd, q_dropxb, q_dropxo, q_dropxn, q_drope, dYes, dCnt, q_revl, q_revt, q_revr, nListRg, dTupRg, exInts, exOpt, q_addr1, q_addrr, q_ixk0, q_ixk1, exRow, exTk, cntL, cntQ_some, cntQ_none, List.getElem?_cons_zero, List.getElem?_cons_succ, List.getElem?_nil, Option.some.injEq, SV.dat.injEq, SV.own.injEq, PyData.int.injEq, PyData.bool.injEq, PyData.tuple.injEq, PyData.list.injEq, PyData.str.injEq, RVd.new.injEq, RVd.dat.injEq, exists_eq_left, exists_eq_left', exists_eq_right, List.cons.injEq, List.set_cons_zero, List.set_cons_succ, reduceCtorEq, and_true, true_and, false_and, and_false, not_true_eq_false, not_false_eq_true, if_true, if_false, ite_true, ite_false, decide_eq_true_eq, Bool.not_eq_true', decide_eq_false_iff_not, Bool.and_true, Bool.true_and, Bool.and_false, Bool.false_and, Bool.not_true, Bool.not_false, Bool.false_eq_true, List.map_cons, List.map_nil, List.length_cons, List.length_nil, Nat.zero_add, Nat.reduceAdd, Nat.reduceLeDiff, startd, List.replicate_succ, List.replicate_zero, List.nil_append, List.cons_append, Nat.reduceSub, exists_const, and_self, shp_int, shp_none, shp_bool, eqv_int, dForL_nil, lcL_nil]
    refine ⟨by omega, hq _ ⟨_, rfl, by rw [List.length_append]; show t3.length + 6 ≤ 1006; omega⟩⟩
  rintro _ ⟨t4, rfl, l4⟩
  show dFor _ _ _ _ [none, some .bag, some (.dat (.tuple hs)), some (.dat once), some (.dat (.list t4)), some (.dat (.list s1)), x6, none]
  refine ⟨_, rfl, ?_⟩
  dsimp only [dFr, nLst, nCons, dCall, aDat, aNil, nNil]
  refine pick_sl rfl (lo1 rfl (by decide) (by decide)) fun ns hl hb => ?_
  show sp_law_odd _ _
  rw [q_odd]
  refine ⟨by omega, hb, fun o1 _ => ?_⟩
  refine pick_sl rfl (lo2 rfl (by decide) (by decide) (by decide)) fun ns hl hb => ?_
  show sp_law_odd _ _
  rw [q_odd]
  refine ⟨by omega, hb, fun o2 _ => ?_⟩
  refine ⟨by show 2 ≤ 1000; decide, by show t4.length + 2 ≤ 1000000; omega, _, rfl, ?_⟩
  exact loop_all rfl rfl (fun _ => rfl) _ _
theorem rd_law_rest : b_law_rest { nx := fun _ => False, rt := isTrue' } (blank 8) := by
  simp only [b_law_rest, blank, sp_is_row, rowB, q_isB, dSeq, dAsgG, dAsgN, dRet, dRetN, dRetO, dRet0, dDrop, dIfS, dNext, dApp, dInsert, q_setI, q_setQ, q_take, dFor, dFreeze, dNever, q_par, q_parQ, q_par3, q_parQ3, dParNE, dParDE, gdName, q_gnil, q_gcons, q_gtup, dVar, dOwn, dC, d1, d2, n2, nCons, nNil, nLst, dTup, dFr, dTest, dAnd, dOr, dNot, dAndV, dOrV, dNotV, dIf, dChain, dCB, nCB, dCall, nCall, aDat, aBag, aNil, q_neg, q_add, q_addl, q_addt, q_sub, q_mul, q_mull, q_mult, q_fdiv, q_mod, q_pow, q_lt, q_le, q_gt, q_ge, eqD, neD, isD, isntD, q_isnn, q_isni, q_isnb, q_isnt, q_isnl, q_lenl, q_lent, q_inti, q_intb, q_max2, q_min2, q_listl, q_listt, q_tuplel, q_tuplet, q_sum, q_min, q_max, allD, itSeq, itR1, q_itR2, q_rng2, q_en, q_en1, q_zip, q_zipQ, q_seqr, q_lenr, q_ixr, q_seql, q_seqt, q_rvd, q_rvn, q_catn, q_ixl, q_ixt, q_sl, q_sll, q_slt, q_slr, nSlL, oNone, oSome, nLc, wipeD, q_dropc, q_dropxd, q_dropxb, q_dropxo, q_dropxn, q_drope, dYes, dCnt, q_revl, q_revt, q_revr, nListRg, dTupRg, exInts, exOpt, q_addr1, q_addrr, q_ixk0, q_ixk1, exRow, exTk, cntL, cntQ_some, cntQ_none, List.getElem?_cons_zero, List.getElem?_cons_succ, List.getElem?_nil, Option.some.injEq, SV.dat.injEq, SV.own.injEq, PyData.int.injEq, PyData.bool.injEq, PyData.tuple.injEq, PyData.list.injEq, PyData.str.injEq, RVd.new.injEq, RVd.dat.injEq, exists_eq_left, exists_eq_left', exists_eq_right, List.cons.injEq, List.set_cons_zero, List.set_cons_succ, reduceCtorEq, and_true, true_and, false_and, and_false, not_true_eq_false, not_false_eq_true, if_true, if_false, ite_true, ite_false, decide_eq_true_eq, Bool.not_eq_true', decide_eq_false_iff_not, Bool.and_true, Bool.true_and, Bool.and_false, Bool.false_and, Bool.not_true, Bool.not_false, Bool.false_eq_true, List.map_cons, List.map_nil, List.length_cons, List.length_nil, Nat.zero_add, Nat.reduceAdd, Nat.reduceLeDiff, startd, List.replicate_succ, List.replicate_zero, List.nil_append, List.cons_append, Nat.reduceSub, exists_const, and_self, shp_int, shp_none, shp_bool, eqv_int, dForL_nil, lcL_nil]
  rfl
end Pd

namespace Lw
open PySem L2 Pd
open PyProof.Rows (envOfC)
def top (i : Nat) : Stmt := PySem.Challenge.pw_takenth_k01_rows_known.main.body.getD i (.Pass ⟨0, 0, 0, 0⟩)
abbrev s_is_within : Stmt := top 1
abbrev n_is_within : List Str := ["thing", "low", "high"]
theorem sc_is_within : FnScope n_is_within ["thing", "low", "high"] (defScope s_is_within) := ⟨rfl, rfl, rfl, by decide +kernel, rfl, by decide +kernel, by decide +kernel⟩
abbrev s_is_taker : Stmt := top 2
abbrev n_is_taker : List Str := ["thing"]
theorem sc_is_taker : FnScope n_is_taker ["thing"] (defScope s_is_taker) := ⟨rfl, rfl, rfl, by decide +kernel, rfl, by decide +kernel, by decide +kernel⟩
abbrev s_is_row : Stmt := top 3
abbrev n_is_row : List Str := ["thing", "one"]
theorem sc_is_row : FnScope n_is_row ["thing"] (defScope s_is_row) := ⟨rfl, rfl, rfl, by decide +kernel, rfl, by decide +kernel, by decide +kernel⟩
abbrev s_law_odd : Stmt := top 12
abbrev n_law_odd : List Str := ["picks", "odd"]
theorem sc_law_odd : FnScope n_law_odd ["picks"] (defScope s_law_odd) := ⟨rfl, rfl, rfl, by decide +kernel, rfl, by decide +kernel, by decide +kernel⟩
abbrev s_law_spoilt : Stmt := top 7
abbrev n_law_spoilt : List Str := ["thing", "picks", "pieces", "at", "turn_by"]
theorem sc_law_spoilt : FnScope n_law_spoilt ["thing", "picks"] (defScope s_law_spoilt) := ⟨rfl, rfl, rfl, by decide +kernel, rfl, by decide +kernel, by decide +kernel⟩
abbrev s_law_cell_at : Stmt := top 5
abbrev n_law_cell_at : List Str := ["script", "k"]
theorem sc_law_cell_at : FnScope n_law_cell_at ["script", "k"] (defScope s_law_cell_at) := ⟨rfl, rfl, rfl, by decide +kernel, rfl, by decide +kernel, by decide +kernel⟩
abbrev s_law_draws : Stmt := top 6
abbrev n_law_draws : List Str := ["cell", "many", "size", "found", "rest", "stirred", "k"]
theorem sc_law_draws : FnScope n_law_draws ["cell", "many", "size"] (defScope s_law_draws) := ⟨rfl, rfl, rfl, by decide +kernel, rfl, by decide +kernel, by decide +kernel⟩
abbrev s_law_bag : Stmt := top 9
abbrev n_law_bag : List Str := ["script", "k"]
theorem sc_law_bag : FnScope n_law_bag ["script", "k"] (defScope s_law_bag) := ⟨rfl, rfl, rfl, by decide +kernel, rfl, by decide +kernel, by decide +kernel⟩
abbrev s_law_bags : Stmt := top 10
abbrev n_law_bags : List Str := ["script", "limit", "k"]
theorem sc_law_bags : FnScope n_law_bags ["script", "limit"] (defScope s_law_bags) := ⟨rfl, rfl, rfl, by decide +kernel, rfl, by decide +kernel, by decide +kernel⟩
abbrev s_law_take : Stmt := top 11
abbrev n_law_take : List Str := ["bag", "many"]
theorem sc_law_take : FnScope n_law_take ["bag", "many"] (defScope s_law_take) := ⟨rfl, rfl, rfl, by decide +kernel, rfl, by decide +kernel, by decide +kernel⟩
abbrev s_law_taker : Stmt := top 13
abbrev n_law_taker : List Str := ["bag", "far", "every"]
theorem sc_law_taker : FnScope n_law_taker ["bag", "far"] (defScope s_law_taker) := ⟨rfl, rfl, rfl, by decide +kernel, rfl, by decide +kernel, by decide +kernel⟩
abbrev s_law_drawn_row : Stmt := top 14
abbrev n_law_drawn_row : List Str := ["bag", "takers", "far", "turn"]
theorem sc_law_drawn_row : FnScope n_law_drawn_row ["bag", "takers", "far"] (defScope s_law_drawn_row) := ⟨rfl, rfl, rfl, by decide +kernel, rfl, by decide +kernel, by decide +kernel⟩
abbrev s_law_from : Stmt := top 8
abbrev n_law_from : List Str := ["thing", "least", "top"]
theorem sc_law_from : FnScope n_law_from ["thing", "least", "top"] (defScope s_law_from) := ⟨rfl, rfl, rfl, by decide +kernel, rfl, by decide +kernel, by decide +kernel⟩
abbrev s_law_is_row : Stmt := top 15
abbrev n_law_is_row : List Str := ["thing", "one"]
theorem sc_law_is_row : FnScope n_law_is_row ["thing"] (defScope s_law_is_row) := ⟨rfl, rfl, rfl, by decide +kernel, rfl, by decide +kernel, by decide +kernel⟩
abbrev s_law : Stmt := top 16
abbrev n_law : List Str := ["script", "bag", "house", "once", "things", "some", "one", "thing"]
theorem sc_law : FnScope n_law ["script"] (defScope s_law) := ⟨rfl, rfl, rfl, by decide +kernel, rfl, by decide +kernel, by decide +kernel⟩
structure Ad where
  is_within : Addr
  is_taker : Addr
  is_row : Addr
  law_odd : Addr
  law_spoilt : Addr
  law_cell_at : Addr
  law_draws : Addr
  law_bag : Addr
  law_bags : Addr
  law_take : Addr
  law_taker : Addr
  law_drawn_row : Addr
  law_from : Addr
  law_is_row : Addr
  law : Addr
structure Fd where
  is_within : FuncData
  is_taker : FuncData
  is_row : FuncData
  law_odd : FuncData
  law_spoilt : FuncData
  law_cell_at : FuncData
  law_draws : FuncData
  law_bag : FuncData
  law_bags : FuncData
  law_take : FuncData
  law_taker : FuncData
  law_drawn_row : FuncData
  law_from : FuncData
  law_is_row : FuncData
  law : FuncData
structure Txt (K : PySem.W.Frag) (mg : Str → Option Value) (a : Ad) (fd : Fd) : Prop where
  F_is_within : Fun K "is_within" "is_within" s_is_within a.is_within fd.is_within
  g_is_within : mg "is_within" = some (.ref a.is_within)
  b_is_within : Binds K fd.is_within ["thing", "low", "high"] []
  F_is_taker : Fun K "is_taker" "is_taker" s_is_taker a.is_taker fd.is_taker
  g_is_taker : mg "is_taker" = some (.ref a.is_taker)
  b_is_taker : Binds K fd.is_taker ["thing"] []
  F_is_row : Fun K "is_row" "is_row" s_is_row a.is_row fd.is_row
  g_is_row : mg "is_row" = some (.ref a.is_row)
  b_is_row : Binds K fd.is_row ["thing"] []
  F_law_odd : Fun K "_law_odd" "_law_odd" s_law_odd a.law_odd fd.law_odd
  g_law_odd : mg "_law_odd" = some (.ref a.law_odd)
  b_law_odd : Binds K fd.law_odd ["picks"] []
  F_law_spoilt : Fun K "_law_spoilt" "_law_spoilt" s_law_spoilt a.law_spoilt fd.law_spoilt
  g_law_spoilt : mg "_law_spoilt" = some (.ref a.law_spoilt)
  b_law_spoilt : Binds K fd.law_spoilt ["thing", "picks"] []
  F_law_cell_at : Fun K "_law_cell_at" "_law_cell_at" s_law_cell_at a.law_cell_at fd.law_cell_at
  g_law_cell_at : mg "_law_cell_at" = some (.ref a.law_cell_at)
  b_law_cell_at : Binds K fd.law_cell_at ["script", "k"] []
  F_law_draws : Fun K "_law_draws" "_law_draws" s_law_draws a.law_draws fd.law_draws
  g_law_draws : mg "_law_draws" = some (.ref a.law_draws)
  b_law_draws : Binds K fd.law_draws ["cell", "many", "size"] []
  F_law_bag : Fun K "_law_bag" "_law_bag" s_law_bag a.law_bag fd.law_bag
  g_law_bag : mg "_law_bag" = some (.ref a.law_bag)
  b_law_bag : Binds K fd.law_bag ["script", "k"] []
  F_law_bags : Fun K "_law_bags" "_law_bags" s_law_bags a.law_bags fd.law_bags
  g_law_bags : mg "_law_bags" = some (.ref a.law_bags)
  b_law_bags : Binds K fd.law_bags ["script", "limit"] []
  F_law_take : Fun K "_law_take" "_law_take" s_law_take a.law_take fd.law_take
  g_law_take : mg "_law_take" = some (.ref a.law_take)
  b_law_take : Binds K fd.law_take ["bag", "many"] []
  F_law_taker : Fun K "_law_taker" "_law_taker" s_law_taker a.law_taker fd.law_taker
  g_law_taker : mg "_law_taker" = some (.ref a.law_taker)
  b_law_taker : Binds K fd.law_taker ["bag", "far"] []
  F_law_drawn_row : Fun K "_law_drawn_row" "_law_drawn_row" s_law_drawn_row a.law_drawn_row fd.law_drawn_row
  g_law_drawn_row : mg "_law_drawn_row" = some (.ref a.law_drawn_row)
  b_law_drawn_row : Binds K fd.law_drawn_row ["bag", "takers", "far"] []
  F_law_from : Fun K "_law_from" "_law_from" s_law_from a.law_from fd.law_from
  g_law_from : mg "_law_from" = some (.ref a.law_from)
  b_law_from : Binds K fd.law_from ["thing", "least", "top"] []
  F_law_is_row : Fun K "_law_is_row" "_law_is_row" s_law_is_row a.law_is_row fd.law_is_row
  g_law_is_row : mg "_law_is_row" = some (.ref a.law_is_row)
  b_law_is_row : Binds K fd.law_is_row ["thing"] []
  F_law : Fun K "law" "law" s_law a.law fd.law
  g_law : mg "law" = some (.ref a.law)
  b_law : Binds K fd.law ["script"] []
  n_all : mg "all" = none
  n_bool : mg "bool" = none
  n_int : mg "int" = none
  n_isinstance : mg "isinstance" = none
  n_len : mg "len" = none
  n_list : mg "list" = none
  n_max : mg "max" = none
  n_min : mg "min" = none
  n_range : mg "range" = none
  n_repr : mg "repr" = none
  n_tuple : mg "tuple" = none
section
variable {P : Program} {w : World} {K : PySem.W.Frag} {mg : Str → Option Value} {base : Heap} {a : Ad} {fd : Fd}
theorem ok_is_within (T : Txt K mg a fd) : FnOk P w K mg base CX0 1 a.is_within fd.is_within ["thing", "low", "high"] (lift sp_is_within) :=
  fun_d (t := b_is_within) (k := 0) T.F_is_within sc_is_within len_is_within (fun cdv A outer s H E hr => ⟨_, (pssd_one (qs_ret (ped_and (ped_isi (by rfl) T.n_isinstance (by rfl) T.n_int (by decide +kernel) (PEd.r (ped_var 0 (pv 0)))) (ped_and (ped_not (ped_isi (by rfl) T.n_isinstance (by rfl) T.n_bool (by decide +kernel) (PEd.r (ped_var 0 (pv 0))))) (ped_one (ped_chain op_le od_le op_le od_le (PEd.r (ped_var 1 (pv 1))) (PEd.r (ped_var 0 (pv 0))) (PEd.r (ped_var 2 (pv 2)))))))))⟩) rd_is_within
theorem ok_is_taker (T : Txt K mg a fd) : FnOk P w K mg base CX0 2 a.is_taker fd.is_taker ["thing"] (lift sp_is_taker) :=
  fun_d (t := b_is_taker) (k := 1) T.F_is_taker sc_is_taker len_is_taker (fun cdv A outer s H E hr => ⟨_, (pssd_cons (qs_if (ptd_w (pwd_or (ptd_not (ptd_val (ped_isi (by rfl) T.n_isinstance (by rfl) T.n_tuple (by decide +kernel) (PEd.r (ped_var 0 (pv 0)))))) (pwd_or (ptd_cmp (op_neD hr.units) od_ne (PEd.r (ped_callB call_len_seq cd_len (by rfl) T.n_len PySem.boot_len (par_cons (PEd.r (ped_var 0 (pv 0))) par_nil))) (PEd.r ped_int)) (pwd_or1 (ptd_not (ptd_val (ped_call (ok_is_within T) (hr.mono (by decide)) (by rfl) T.g_is_within T.F_is_within.kp T.b_is_within (pac_d (ped_ix ix_seq od_ix (PEd.r (ped_var 0 (pv 0))) (PEd.r ped_int)) (pac_d ped_int (pac_d ped_int pac_nil)))))))))) (pssd_one (qs_ret ped_bool)) pssd_nil)
      (pssd_one (qs_ret (ped_call (ok_is_within T) (hr.mono (by decide)) (by rfl) T.g_is_within T.F_is_within.kp T.b_is_within (pac_d (ped_ix ix_seq od_ix (PEd.r (ped_var 0 (pv 0))) (PEd.r ped_int)) (pac_d ped_int (pac_d (ped_op op_sub od_sub (PEd.r (ped_ix ix_seq od_ix (PEd.r (ped_var 0 (pv 0))) (PEd.r ped_int))) (PEd.r ped_int)) pac_nil)))))))⟩) rd_is_taker
theorem ok_is_row (T : Txt K mg a fd) : FnOk P w K mg base CX0 3 a.is_row fd.is_row ["thing"] (lift sp_is_row) :=
  fun_d (t := b_is_row) (k := 2) T.F_is_row sc_is_row len_is_row (fun cdv A outer s H E hr => ⟨_, (pssd_one (qs_ret (ped_and (ped_isi (by rfl) T.n_isinstance (by rfl) T.n_tuple (by decide +kernel) (PEd.r (ped_var 0 (pv 0)))) (ped_and (ped_cmp op_le od_le (PEd.r (ped_callB call_len_seq cd_len (by rfl) T.n_len PySem.boot_len (par_cons (PEd.r (ped_var 0 (pv 0))) par_nil))) (PEd.r ped_int)) (ped_one (ped_callB (cr_all rfl) cd_all (by rfl) T.n_all (by decide +kernel) (par_cons (PEn.r (ren_lc [("one", 1)] rfl rfl sc_is_row.nd (pid_seq (ped_var 0 (pv 0))) (blkOk_by (own := [("one", 1)]) (N := n_is_row) (sc := defScope s_is_row) (by decide +kernel)) (fun _ _ _ _ _ => (qg_name (i := 1) sc_is_row.nd rfl (Or.inl rfl))) (by decide) (fun _ _ _ _ _ => ptsd_nil) (fun _ _ _ _ _ => (ped_call (ok_is_taker T) (hr.mono (by decide)) (by rfl) T.g_is_taker T.F_is_taker.kp T.b_is_taker (pac_d (ped_var 1 (pv 1)) pac_nil))))) par_nil)))))))⟩) rd_is_row
theorem ok_law_odd (T : Txt K mg a fd) : FnOk P w K mg base CX0 1 a.law_odd fd.law_odd ["picks"] (lift sp_law_odd) :=
  fun_d (t := b_law_odd) (k := 0) T.F_law_odd sc_law_odd len_law_odd (fun cdv A outer s H E hr => ⟨_, (pssd_cons (qs_set (i := 1) sc_law_odd.nd rfl (Or.inl rfl) (PEn.d (pen_lst (paf_cons ped_none (paf_cons ped_bool (paf_cons ped_bool (paf_cons (ped_neg (PEd.r ped_int)) (paf_cons ped_int (paf_cons ped_int (paf_cons ped_int (paf_cons ped_int (paf_cons ped_int (paf_cons ped_int (paf_cons ped_int (paf_cons (ped_op op_pow od_pow (PEd.r ped_int) (PEd.r ped_int)) (paf_cons (ped_op op_addA od_add (PEd.r (ped_op op_pow od_pow (PEd.r ped_int) (PEd.r ped_int))) (PEd.r ped_int)) (paf_cons (ped_op op_pow od_pow (PEd.r ped_int) (PEd.r ped_int)) (paf_cons ped_str (paf_cons ped_str (paf_cons ped_str paf_nil))))))))))))))))))))
      (pssd_cons (qs_set (i := 1) sc_law_odd.nd rfl (Or.inl rfl) (ped_op op_addA od_add (PEd.r (ped_var 1 (pv 1))) (PEn.r (pen_lst (paf_cons (ped_tup paf_nil) (paf_cons (PEn.d (pen_lst paf_nil)) (paf_cons (ped_tup (paf_cons ped_int paf_nil)) (paf_cons (ped_tup (paf_cons ped_int paf_nil)) (paf_cons (ped_tup (paf_cons ped_int (paf_cons ped_int paf_nil))) (paf_cons (ped_tup (paf_cons (ped_tup (paf_cons ped_int (paf_cons ped_int paf_nil))) paf_nil)) paf_nil))))))))))
      (pssd_cons (qs_set (i := 1) sc_law_odd.nd rfl (Or.inl rfl) (ped_op op_addA od_add (PEd.r (ped_var 1 (pv 1))) (PEn.r (pen_lst (paf_cons (PEn.d (pen_lst (paf_cons (ped_tup (paf_cons ped_int (paf_cons ped_int paf_nil))) paf_nil))) (paf_cons (ped_tup (paf_cons (ped_tup (paf_cons ped_int (paf_cons ped_int paf_nil))) paf_nil)) (paf_cons (ped_tup (paf_cons (ped_tup (paf_cons ped_int (paf_cons ped_int paf_nil))) paf_nil)) (paf_cons (ped_tup (paf_cons (ped_tup (paf_cons ped_int (paf_cons ped_int paf_nil))) (paf_cons (ped_tup (paf_cons ped_int (paf_cons ped_int paf_nil))) paf_nil))) (paf_cons (ped_tup (paf_cons ped_none paf_nil)) (paf_cons (ped_tup (paf_cons (ped_tup (paf_cons ped_int paf_nil)) paf_nil)) paf_nil))))))))))
      (pssd_one (qs_ret (ped_ix ix_seq od_ix (PEd.r (ped_var 1 (pv 1))) (PEd.r (ped_op op_mod od_mod (PEd.r (ped_op op_addA od_add (PEd.r (ped_ix ix_seq od_ix (PEd.r (ped_var 0 (pv 0))) (PEd.r ped_int))) (PEd.r (ped_op op_mulB od_mul (PEd.r ped_int) (PEd.r (ped_ix ix_seq od_ix (PEd.r (ped_var 0 (pv 0))) (PEd.r ped_int))))))) (PEd.r (ped_callB call_len_seq cd_len (by rfl) T.n_len PySem.boot_len (par_cons (PEd.r (ped_var 1 (pv 1))) par_nil)))))))))))⟩) rd_law_odd
theorem ok_law_spoilt (T : Txt K mg a fd) : ∀ n : Nat, FnOk P w K mg base CX0 (n + 1) a.law_spoilt fd.law_spoilt ["thing", "picks"] (lift (sp_law_spoilt n))
  | 0 => fn_none
  | n + 1 => by
    have ih := ok_law_spoilt T n
    have h := fun_d (P := P) (w := w) (mg := mg) (base := base) (t := b_law_spoilt n) (k := n + 1) T.F_law_spoilt sc_law_spoilt (len_law_spoilt n) (fun cdv A outer s H E hr => ⟨_, (pssd_cons (qs_if (ptd_w (pwd_or (ptd_not (ptd_val (ped_isi2 (by rfl) T.n_isinstance (by rfl) T.n_tuple (by decide +kernel) (by rfl) T.n_list (by decide +kernel) (PEd.r (ped_var 0 (pv 0)))))) (pwd_or (ptd_cmp (op_eqD hr.units) od_eq (PEd.r (ped_callB call_len_seq cd_len (by rfl) T.n_len PySem.boot_len (par_cons (PEd.r (ped_var 0 (pv 0))) par_nil))) (PEd.r ped_int)) (pwd_or (ptd_cmp op_lt od_lt (PEd.r (ped_callB call_len_seq cd_len (by rfl) T.n_len PySem.boot_len (par_cons (PEd.r (ped_var 1 (pv 1))) par_nil))) (PEd.r ped_int)) (pwd_or1 (ptd_cmp (op_eqD hr.units) od_eq (PEd.r (ped_op op_mod od_mod (PEd.r (ped_ix ix_seq od_ix (PEd.r (ped_var 1 (pv 1))) (PEd.r ped_int))) (PEd.r ped_int))) (PEd.r ped_int))))))) (pssd_one (qs_ret (ped_call (ok_law_odd T) (hr.mono (by omega)) (by rfl) T.g_law_odd T.F_law_odd.kp T.b_law_odd (pac_d (ped_sl (PEd.r (ped_var 1 (pv 1))) (pod_some ped_int) pod_none) pac_nil)))) pssd_nil)
      (pssd_cons (qs_setN (i := 2) sc_law_spoilt.nd rfl (Or.inl rfl) (pen_callTy call_list_of cn_list (by rfl) T.n_list (by decide +kernel) (par_cons (PEd.r (ped_var 0 (pv 0))) par_nil)))
      (pssd_cons (qs_set (i := 3) sc_law_spoilt.nd rfl (Or.inl rfl) (ped_op op_mod od_mod (PEd.r (ped_ix ix_seq od_ix (PEd.r (ped_var 1 (pv 1))) (PEd.r ped_int))) (PEd.r (ped_callB call_len_seq cd_len (by rfl) T.n_len PySem.boot_len (par_cons (per_own 2 (pv 2)) par_nil)))))
      (pssd_cons (qs_set (i := 4) sc_law_spoilt.nd rfl (Or.inl rfl) (ped_op op_mod od_mod (PEd.r (ped_ix ix_seq od_ix (PEd.r (ped_var 1 (pv 1))) (PEd.r ped_int))) (PEd.r ped_int)))
      (pssd_cons (qs_if (ptd_cmp (op_eqD hr.units) od_eq (PEd.r (ped_var 4 (pv 4))) (PEd.r ped_int)) (pssd_one (qs_setN (i := 2) sc_law_spoilt.nd rfl (Or.inl rfl) (pen_op op_cat on_cat (PEd.r (ped_sl (per_own 2 (pv 2)) pod_none (pod_some (ped_var 3 (pv 3))))) (PEd.r (ped_sl (per_own 2 (pv 2)) (pod_some (ped_op op_addA od_add (PEd.r (ped_var 3 (pv 3))) (PEd.r ped_int))) pod_none))))) (pssd_one (qs_if (ptd_cmp (op_eqD hr.units) od_eq (PEd.r (ped_var 4 (pv 4))) (PEd.r ped_int)) (pssd_one (qs_setN (i := 2) sc_law_spoilt.nd rfl (Or.inl rfl) (pen_op op_cat on_cat (PEd.r (ped_sl (per_own 2 (pv 2)) pod_none (pod_some (ped_op op_addA od_add (PEd.r (ped_var 3 (pv 3))) (PEd.r ped_int))))) (PEd.r (ped_sl (per_own 2 (pv 2)) (pod_some (ped_var 3 (pv 3))) pod_none))))) (pssd_one (qs_if (ptd_cmp (op_eqD hr.units) od_eq (PEd.r (ped_var 4 (pv 4))) (PEd.r ped_int)) (pssd_one (qs_setN (i := 2) sc_law_spoilt.nd rfl (Or.inl rfl) (pen_op op_cat on_cat (PEd.r (ped_sl (per_own 2 (pv 2)) (pod_some (ped_var 3 (pv 3))) pod_none)) (PEd.r (ped_sl (per_own 2 (pv 2)) pod_none (pod_some (ped_var 3 (pv 3)))))))) (pssd_one (qs_if (ptd_cmp (op_eqD hr.units) od_eq (PEd.r (ped_var 4 (pv 4))) (PEd.r ped_int)) (pssd_one (qs_setN (i := 2) sc_law_spoilt.nd rfl (Or.inl rfl) (pen_op op_cat on_cat (PEd.r (ped_op op_addA od_add (PEd.r (ped_sl (per_own 2 (pv 2)) pod_none (pod_some (ped_var 3 (pv 3))))) (PEn.r (pen_lst (paf_cons (ped_call (ok_law_odd T) (hr.mono (by omega)) (by rfl) T.g_law_odd T.F_law_odd.kp T.b_law_odd (pac_d (ped_sl (PEd.r (ped_var 1 (pv 1))) (pod_some ped_int) pod_none) pac_nil)) paf_nil))))) (PEd.r (ped_sl (per_own 2 (pv 2)) (pod_some (ped_var 3 (pv 3))) pod_none))))) (pssd_one (qs_if (ptd_cmp op_gt od_gt (PEd.r (ped_var 4 (pv 4))) (PEd.r ped_int)) (pssd_one (rs_setI (pv 2) (ped_var 3 (pv 3)) (ped_call ih (hr.mono (by omega)) (by rfl) T.g_law_spoilt T.F_law_spoilt.kp T.b_law_spoilt (pac_d (ped_ix ix_seq od_ix (per_own 2 (pv 2)) (PEd.r (ped_var 3 (pv 3)))) (pac_d (ped_sl (PEd.r (ped_var 1 (pv 1))) (pod_some ped_int) pod_none) pac_nil))))) pssd_nil)))))))))
      (pssd_cons (qs_if (ptd_cmp (op_eqD hr.units) od_eq (PEd.r (ped_isi (by rfl) T.n_isinstance (by rfl) T.n_tuple (by decide +kernel) (PEd.r (ped_var 0 (pv 0))))) (PEd.r (ped_cmp (op_eqD hr.units) od_eq (PEd.r (ped_var 4 (pv 4))) (PEd.r ped_int)))) (pssd_one (qs_retO 2 (pv 2))) pssd_nil)
      (pssd_one (qs_ret (ped_callTy call_tuple_of cd_tuple (by rfl) T.n_tuple (by decide +kernel) (par_cons (per_own 2 (pv 2)) par_nil))))))))))⟩) (rd_law_spoilt n)
    exact h.mono (by omega)
theorem ok_law_cell_at (T : Txt K mg a fd) : FnOk P w K mg base CX0 1 a.law_cell_at fd.law_cell_at ["script", "k"] (Pd.spCell K) := by
  refine T.F_law_cell_at.ok (k := 0) sc_law_cell_at (fun vs H Q E h => ?_) (fun cdv A outer s H vs Q E hr h => ?_)
  · obtain ⟨_, _, _, rfl, _⟩ := h
    rfl
  · exact ⟨Pd.tCell K, (pss_cons (ps_if (pt_cmpR op_lt (pv 1) (pe_callB call_len_seq (by rfl) T.n_len PySem.boot_len (pa_cons (pv 0) pa_nil)) (nomark _)) (pss_one (ps_ret (pe_ix ix_list (pv 0) (pv 1) (fun _ _ => rfl)))) pss_nil) (pss_one (ps_ret pe_int))), Pd.rd_cell h⟩
theorem ok_law_draws (T : Txt K mg a fd) : FnOk P w K mg base CX0 1 a.law_draws fd.law_draws ["cell", "many", "size"] (lift sp_law_draws) :=
  fun_d (t := b_law_draws) (k := 0) T.F_law_draws sc_law_draws len_law_draws (fun cdv A outer s H E hr => ⟨_, (pssd_cons (qs_setN (i := 3) sc_law_draws.nd rfl (Or.inl rfl) (pen_lst paf_nil))
      (pssd_cons (qs_set (i := 4) sc_law_draws.nd rfl (Or.inl rfl) (ped_op op_mulB od_mul (PEd.r (ped_var 0 (pv 0))) (PEd.r (ped_callTy call_int1 cd_int (by rfl) T.n_int (by decide +kernel) (par_cons (PEd.r (ped_cmp op_ge od_ge (PEd.r (ped_var 0 (pv 0))) (PEd.r (ped_op op_pow od_pow (PEd.r ped_int) (PEd.r ped_int))))) par_nil)))))
      (pssd_cons (qs_set (i := 5) sc_law_draws.nd rfl (Or.inl rfl) (ped_op op_mod od_mod (PEd.r (ped_var 0 (pv 0))) (PEd.r ped_int)))
      (pssd_cons (qs_for PassesOwn.never rfl (pid_r1 (by rfl) T.n_range (par_cons (PEd.r (ped_op op_addA od_add (PEd.r (ped_var 1 (pv 1))) (PEd.r ped_int))) par_nil)) (qg_name (i := 6) sc_law_draws.nd rfl (Or.inl rfl))
      (pssd_cons (qs_set (i := 5) sc_law_draws.nd rfl (Or.inl rfl) (ped_op op_mod od_mod (PEd.r (ped_op op_addA od_add (PEd.r (ped_op op_addA od_add (PEd.r (ped_op op_addA od_add (PEd.r (ped_op op_mulB od_mul (PEd.r (ped_var 5 (pv 5))) (PEd.r (ped_var 5 (pv 5))))) (PEd.r (ped_op op_mulB od_mul (PEd.r ped_int) (PEd.r (ped_var 5 (pv 5))))))) (PEd.r (ped_var 6 (pv 6))))) (PEd.r ped_int))) (PEd.r ped_int)))
      (pssd_one (qs_if (ptd_w (pwd_and (ptd_cmp op_gt od_gt (PEd.r (ped_var 6 (pv 6))) (PEd.r ped_int)) (pwd_and1 (ptd_cmp op_gt od_gt (PEd.r (ped_var 4 (pv 4))) (PEd.r ped_int))))) (pssd_cons (qs_app (pv 3) (ped_op op_mod od_mod (PEd.r (ped_var 4 (pv 4))) (PEd.r (ped_var 2 (pv 2)))))
      (pssd_one (qs_set (i := 4) sc_law_draws.nd rfl (Or.inl rfl) (ped_op op_fdivW od_fdiv (PEd.r (ped_var 4 (pv 4))) (PEd.r (ped_var 2 (pv 2))))))) (pssd_one (qs_if (ptd_cmp op_gt od_gt (PEd.r (ped_var 6 (pv 6))) (PEd.r ped_int)) (pssd_one (qs_app (pv 3) (ped_op op_mod od_mod (PEd.r (ped_op op_fdivW od_fdiv (PEd.r (ped_var 5 (pv 5))) (PEd.r ped_int))) (PEd.r (ped_var 2 (pv 2)))))) pssd_nil))))))
      (pssd_one (qs_retO 3 (pv 3)))))))⟩) rd_law_draws
theorem ok_law_bag (T : Txt K mg a fd) : FnOk P w K mg base CX0 2 a.law_bag fd.law_bag ["script", "k"] (Pd.spBag K) := by
  refine T.F_law_bag.ok (k := 1) sc_law_bag (fun vs H Q E h => ?_) (fun cdv A outer s H vs Q E hr h => ?_)
  · obtain ⟨_, _, _, rfl, _⟩ := h
    rfl
  · exact ⟨Pd.tBag K, (pss_one (ps_ret (pe_lst (pa_cons (pe_call (ok_law_draws T) (hr.mono (by decide)) (by rfl) T.g_law_draws T.F_law_draws.kp T.b_law_draws .nil pass0 (pa_cons (pe_call (ok_law_cell_at T) (hr.mono (by decide)) (by rfl) T.g_law_cell_at T.F_law_cell_at.kp T.b_law_cell_at .nil pass0 (pa_cons (pv 0) (pa_cons (pv 1) pa_nil))) (pa_cons pe_int (pa_cons pe_int pa_nil)))) (pa_cons pe_int pa_nil))))), Pd.rd_bag h⟩
theorem ok_law_bags (T : Txt K mg a fd) : FnOk P w K mg base CX0 3 a.law_bags fd.law_bags ["script", "limit"] (Pd.spBags K) := by
  refine T.F_law_bags.ok (k := 2) sc_law_bags (fun vs H Q E h => ?_) (fun cdv A outer s H vs Q E hr h => ?_)
  · obtain ⟨_, _, _, rfl, _⟩ := h
    rfl
  · exact ⟨Pd.tBags K, (pss_one (ps_ret (pe_lc (own := [("k", 2)]) (g := gName 2) (tt := tYes) rfl sc_law_bags.nd (pi_range1 (by rfl) T.n_range (pa_cons (pe_callB (call_max2 rfl) (by rfl) T.n_max (by decide +kernel) (pa_cons pe_int (pa_cons (pe_callB (call_min2 rfl) (by rfl) T.n_min (by decide +kernel) (pa_cons (pv 1) (pa_cons (pe_callB call_len_seq (by rfl) T.n_len PySem.boot_len (pa_cons (pv 0) pa_nil)) pa_nil))) pa_nil))) pa_nil)) (blkOk_by (own := [("k", 2)]) (N := n_law_bags) (sc := defScope s_law_bags) (by decide +kernel)) (fun _ _ _ _ _ => pg_name (i := 2) sc_law_bags.nd rfl (Or.inl rfl)) (fun _ _ _ _ _ => pts_nil) (fun _ _ _ _ _ => (pe_call (ok_law_bag T) (hr.mono (by decide)) (by rfl) T.g_law_bag T.F_law_bag.kp T.b_law_bag .nil pass0 (pa_cons (pv 0) (pa_cons (pv 2) pa_nil))))))), Pd.rd_bags h⟩
theorem ok_law_take (T : Txt K mg a fd) : FnOk P w K mg base CX0 1 a.law_take fd.law_take ["bag", "many"] (lift Pd.spTake) := by
  refine T.F_law_take.ok (k := 0) sc_law_take (fun vs H Q E h => ?_) (fun cdv A outer s H vs Q E hr h => ?_)
  · obtain ⟨_, _, _, _, _, r, _, ⟨_, rfl, _⟩, _⟩ := h
    exact (pairedLen r).trans rfl
  · exact ⟨Pd.tTake K, (pss_cons (ps_asg (pe_op op_add (pe_ix ix_list (pv 0) pe_int (fun _ _ => rfl)) pe_int) (pg_sub (pv 0) pe_int set_list)) (pss_one (ps_ret (pe_op op_mod (pe_ix ix_list (pe_ix ix_list (pv 0) pe_int (fun _ _ => rfl)) (pe_op op_mod (pe_ix ix_list (pv 0) pe_int (fun _ _ => rfl)) (pe_callB call_len_seq (by rfl) T.n_len PySem.boot_len (pa_cons (pe_ix ix_list (pv 0) pe_int (fun _ _ => rfl)) pa_nil))) (fun _ _ => rfl)) (pv 1))))), Pd.rd_take h⟩
theorem ok_law_taker (T : Txt K mg a fd) : FnOk P w K mg base CX0 2 a.law_taker fd.law_taker ["bag", "far"] (lift sp_law_taker) :=
  fun_d (t := b_law_taker) (k := 1) T.F_law_taker sc_law_taker len_law_taker (fun cdv A outer s H E hr => ⟨_, (pssd_cons (qs_set (i := 2) sc_law_taker.nd rfl (Or.inl rfl) (ped_op op_addA od_add (PEd.r ped_int) (PEd.r (ped_ix ix_seq od_ix (PEn.r (pen_lst (paf_cons (ped_call (ok_law_take T) (hr.mono (by decide)) (by rfl) T.g_law_take T.F_law_take.kp T.b_law_take (pac_bag 0 (pv 0) (pac_d (ped_callB (call_min2 rfl) cd_min2 (by rfl) T.n_min (by decide +kernel) (par_cons (PEd.r ped_int) (par_cons (PEd.r (ped_op op_sub od_sub (PEd.r (ped_var 1 (pv 1))) (PEd.r ped_int))) par_nil))) pac_nil))) (paf_cons (ped_call (ok_law_take T) (hr.mono (by decide)) (by rfl) T.g_law_take T.F_law_take.kp T.b_law_take (pac_bag 0 (pv 0) (pac_d (ped_op op_sub od_sub (PEd.r (ped_var 1 (pv 1))) (PEd.r ped_int)) pac_nil))) paf_nil)))) (PEd.r (ped_call (ok_law_take T) (hr.mono (by decide)) (by rfl) T.g_law_take T.F_law_take.kp T.b_law_take (pac_bag 0 (pv 0) (pac_d ped_int pac_nil))))))))
      (pssd_one (qs_ret (ped_tup (paf_cons (ped_var 2 (pv 2)) (paf_cons (ped_ix ix_seq od_ix (PEn.r (pen_lst (paf_cons ped_int (paf_cons (ped_call (ok_law_take T) (hr.mono (by decide)) (by rfl) T.g_law_take T.F_law_take.kp T.b_law_take (pac_bag 0 (pv 0) (pac_d (ped_var 2 (pv 2)) pac_nil))) (paf_cons (ped_op op_sub od_sub (PEd.r (ped_var 2 (pv 2))) (PEd.r ped_int)) paf_nil))))) (PEd.r (ped_call (ok_law_take T) (hr.mono (by decide)) (by rfl) T.g_law_take T.F_law_take.kp T.b_law_take (pac_bag 0 (pv 0) (pac_d ped_int pac_nil))))) paf_nil))))))⟩) rd_law_taker
theorem ok_law_drawn_row (T : Txt K mg a fd) : FnOk P w K mg base CX0 3 a.law_drawn_row fd.law_drawn_row ["bag", "takers", "far"] (lift sp_law_drawn_row) :=
  fun_d (t := b_law_drawn_row) (k := 2) T.F_law_drawn_row sc_law_drawn_row len_law_drawn_row (fun cdv A outer s H E hr => ⟨_, (pssd_one (qs_ret (ped_callTy call_tuple_of cd_tuple (by rfl) T.n_tuple (by decide +kernel) (par_cons (PEn.r (ren_lc [("turn", 3)] rfl rfl sc_law_drawn_row.nd (pid_r1 (by rfl) T.n_range (par_cons (PEd.r (ped_call (ok_law_take T) (hr.mono (by decide)) (by rfl) T.g_law_take T.F_law_take.kp T.b_law_take (pac_bag 0 (pv 0) (pac_d (ped_op op_addA od_add (PEd.r (ped_var 1 (pv 1))) (PEd.r ped_int)) pac_nil)))) par_nil)) (blkOk_by (own := [("turn", 3)]) (N := n_law_drawn_row) (sc := defScope s_law_drawn_row) (by decide +kernel)) (fun _ _ _ _ _ => (qg_name (i := 3) sc_law_drawn_row.nd rfl (Or.inl rfl))) (by decide) (fun _ _ _ _ _ => ptsd_nil) (fun _ _ _ _ _ => (ped_call (ok_law_taker T) (hr.mono (by decide)) (by rfl) T.g_law_taker T.F_law_taker.kp T.b_law_taker (pac_bag 0 (pv 0) (pac_d (ped_var 2 (pv 2)) pac_nil)))))) par_nil))))⟩) rd_law_drawn_row
theorem ok_law_from (T : Txt K mg a fd) : FnOk P w K mg base CX0 1 a.law_from fd.law_from ["thing", "least", "top"] (lift sp_law_from) :=
  fun_d (t := b_law_from) (k := 0) T.F_law_from sc_law_from len_law_from (fun cdv A outer s H E hr => ⟨_, (pssd_one (qs_ret (ped_and (ped_isi (by rfl) T.n_isinstance (by rfl) T.n_int (by decide +kernel) (PEd.r (ped_var 0 (pv 0)))) (ped_and (ped_not (ped_isi (by rfl) T.n_isinstance (by rfl) T.n_bool (by decide +kernel) (PEd.r (ped_var 0 (pv 0))))) (ped_and (ped_cmp op_le od_le (PEd.r (ped_var 1 (pv 1))) (PEd.r (ped_var 0 (pv 0)))) (ped_one (ped_cmp op_le od_le (PEd.r (ped_var 0 (pv 0))) (PEd.r (ped_var 2 (pv 2))))))))))⟩) rd_law_from
theorem ok_law_is_row (T : Txt K mg a fd) : FnOk P w K mg base CX0 2 a.law_is_row fd.law_is_row ["thing"] (lift sp_law_is_row) :=
  fun_d (t := b_law_is_row) (k := 1) T.F_law_is_row sc_law_is_row len_law_is_row (fun cdv A outer s H E hr => ⟨_, (pssd_cons (qs_if (ptd_w (pwd_or (ptd_not (ptd_val (ped_isi (by rfl) T.n_isinstance (by rfl) T.n_tuple (by decide +kernel) (PEd.r (ped_var 0 (pv 0)))))) (pwd_or1 (ptd_cmp op_gt od_gt (PEd.r (ped_callB call_len_seq cd_len (by rfl) T.n_len PySem.boot_len (par_cons (PEd.r (ped_var 0 (pv 0))) par_nil))) (PEd.r ped_int))))) (pssd_one (qs_ret ped_bool)) pssd_nil)
      (pssd_cons (qs_for PassesOwn.never rfl (pid_seq (ped_var 0 (pv 0))) (qg_name (i := 1) sc_law_is_row.nd rfl (Or.inl rfl))
      (pssd_cons (qs_if (ptd_w (pwd_or (ptd_not (ptd_val (ped_isi (by rfl) T.n_isinstance (by rfl) T.n_tuple (by decide +kernel) (PEd.r (ped_var 1 (pv 1)))))) (pwd_or (ptd_cmp (op_neD hr.units) od_ne (PEd.r (ped_callB call_len_seq cd_len (by rfl) T.n_len PySem.boot_len (par_cons (PEd.r (ped_var 1 (pv 1))) par_nil))) (PEd.r ped_int)) (pwd_or1 (ptd_not (ptd_val (ped_call (ok_law_from T) (hr.mono (by decide)) (by rfl) T.g_law_from T.F_law_from.kp T.b_law_from (pac_d (ped_ix ix_seq od_ix (PEd.r (ped_var 1 (pv 1))) (PEd.r ped_int)) (pac_d ped_int (pac_d ped_int pac_nil)))))))))) (pssd_one (qs_ret ped_bool)) pssd_nil)
      (pssd_one (qs_if (ptd_not (ptd_val (ped_call (ok_law_from T) (hr.mono (by decide)) (by rfl) T.g_law_from T.F_law_from.kp T.b_law_from (pac_d (ped_ix ix_seq od_ix (PEd.r (ped_var 1 (pv 1))) (PEd.r ped_int)) (pac_d ped_int (pac_d (ped_op op_sub od_sub (PEd.r (ped_ix ix_seq od_ix (PEd.r (ped_var 1 (pv 1))) (PEd.r ped_int))) (PEd.r ped_int)) pac_nil)))))) (pssd_one (qs_ret ped_bool)) pssd_nil))))
      (pssd_one (qs_ret ped_bool))))⟩) rd_law_is_row
theorem ok_law (T : Txt K mg a fd) : FnOk P w K mg base CX0 8 a.law fd.law ["script"] (Pd.spLaw K) := by
  refine T.F_law.ok (k := 7) sc_law (fun vs H Q E h => ?_) (fun cdv A outer s H vs Q E hr h => ?_)
  · obtain ⟨_, _, rfl, _⟩ := h
    rfl
  · have hb : PSsd (cxOf CX0 P w K mg base n_law "law" (defScope s_law) a.law cdv A outer s H E).nox (lawLoop s_law) _ b_law_loop := (pssd_cons (qs_set (i := 2) sc_law.nd rfl (Or.inl rfl) (ped_call (ok_law_drawn_row T) (hr.mono (by decide)) (by rfl) T.g_law_drawn_row T.F_law_drawn_row.kp T.b_law_drawn_row (pac_bag 1 (pv 1) (pac_d ped_int (pac_d ped_int pac_nil)))))
      (pssd_cons (qs_set (i := 3) sc_law.nd rfl (Or.inl rfl) (ped_call (ok_law_spoilt T 6) (hr.mono (by decide)) (by rfl) T.g_law_spoilt T.F_law_spoilt.kp T.b_law_spoilt (pac_d (ped_var 2 (pv 2)) (pac_d (ped_sl (PEd.r (ped_bag0 1 (pv 1))) (pod_some (ped_op op_mod od_mod (PEd.r (ped_bag1 1 (pv 1))) (PEd.r ped_int))) pod_none) pac_nil))))
      (pssd_cons (qs_set (i := 4) sc_law.nd rfl (Or.inl rfl) (PEn.d (pen_lst (paf_cons (ped_var 2 (pv 2)) (paf_cons (ped_var 3 (pv 3)) (paf_cons (ped_call (ok_law_spoilt T 6) (hr.mono (by decide)) (by rfl) T.g_law_spoilt T.F_law_spoilt.kp T.b_law_spoilt (pac_d (ped_var 3 (pv 3)) (pac_d (ped_sl (PEd.r (ped_bag0 1 (pv 1))) (pod_some (ped_op op_addA od_add (PEd.r (ped_op op_mod od_mod (PEd.r (ped_bag1 1 (pv 1))) (PEd.r ped_int))) (PEd.r ped_int))) pod_none) pac_nil))) paf_nil))))))
      (pssd_cons (qs_set (i := 4) sc_law.nd rfl (Or.inl rfl) (ped_op op_addA od_add (PEd.r (ped_var 4 (pv 4))) (PEn.r (pen_lst (paf_cons (PEn.d (pen_callTy call_list_of cn_list (by rfl) T.n_list (by decide +kernel) (par_cons (PEd.r (ped_var 2 (pv 2))) par_nil))) (paf_cons (ped_rev (PEd.r (ped_var 2 (pv 2)))) (paf_cons (ped_op op_addA od_add (PEd.r (ped_var 2 (pv 2))) (PEd.r (ped_var 2 (pv 2)))) paf_nil)))))))
      (pssd_cons (qs_set (i := 5) sc_law.nd rfl (Or.inl rfl) (PEn.d (pen_lst (paf_cons (ped_tup (paf_cons ped_int (paf_cons ped_int paf_nil))) (paf_cons (ped_tup (paf_cons ped_int (paf_cons ped_int paf_nil))) (paf_cons (ped_tup (paf_cons ped_int (paf_cons ped_int paf_nil))) (paf_cons (ped_tup (paf_cons ped_int (paf_cons ped_int paf_nil))) (paf_cons (ped_tup (paf_cons ped_int (paf_cons ped_int paf_nil))) (paf_cons (ped_tup (paf_cons ped_int (paf_cons ped_int paf_nil))) (paf_cons (ped_tup (paf_cons ped_int (paf_cons (ped_neg (PEd.r ped_int)) paf_nil))) (paf_cons (ped_tup (paf_cons ped_bool (paf_cons ped_int paf_nil))) (paf_cons (ped_tup (paf_cons ped_int (paf_cons ped_bool paf_nil))) (paf_cons (ped_tup (paf_cons ped_int paf_nil)) paf_nil)))))))))))))
      (pssd_cons (qs_for PassesOwn.never rfl (pid_seq (ped_op op_addA od_add (PEd.r (ped_var 5 (pv 5))) (PEn.r (pen_lst (paf_cons (ped_tup (paf_cons ped_int (paf_cons ped_int (paf_cons ped_int paf_nil)))) paf_nil))))) (qg_name (i := 6) sc_law.nd rfl (Or.inl rfl))
      (pssd_one (qs_set (i := 4) sc_law.nd rfl (Or.inl rfl) (ped_op op_addA od_add (PEd.r (ped_var 4 (pv 4))) (PEn.r (pen_lst (paf_cons (ped_tup (paf_cons (ped_var 6 (pv 6)) paf_nil)) (paf_cons (ped_op op_addA od_add (PEd.r (ped_sl (PEd.r (ped_var 2 (pv 2))) pod_none (pod_some ped_int))) (PEd.r (ped_tup (paf_cons (ped_var 6 (pv 6)) paf_nil)))) paf_nil))))))))
      (pssd_cons (qs_set (i := 4) sc_law.nd rfl (Or.inl rfl) (ped_op op_addA od_add (PEd.r (ped_var 4 (pv 4))) (PEn.r (pen_lst (paf_cons (ped_op op_mulB od_mul (PEd.r (ped_tup (paf_cons (ped_tup (paf_cons ped_int (paf_cons ped_int paf_nil))) paf_nil))) (PEd.r ped_int)) (paf_cons (ped_op op_mulB od_mul (PEd.r (ped_tup (paf_cons (ped_tup (paf_cons ped_int (paf_cons ped_int paf_nil))) paf_nil))) (PEd.r ped_int)) (paf_cons (ped_tup (paf_cons (PEn.d (pen_lst (paf_cons ped_int (paf_cons ped_int paf_nil)))) paf_nil)) (paf_cons (ped_tup (paf_cons ped_none paf_nil)) (paf_cons (ped_tup (paf_cons ped_str paf_nil)) (paf_cons (ped_tup (paf_cons (ped_tup (paf_cons ped_int (paf_cons ped_none paf_nil))) paf_nil)) paf_nil))))))))))
      (pssd_one (qs_for PassesOwn.never rfl (pid_seq (ped_op op_addA od_add (PEd.r (ped_var 4 (pv 4))) (PEn.r (pen_lst (paf_cons (ped_call (ok_law_odd T) (hr.mono (by decide)) (by rfl) T.g_law_odd T.F_law_odd.kp T.b_law_odd (pac_d (ped_sl (PEd.r (ped_bag0 1 (pv 1))) (pod_some (ped_op op_mod od_mod (PEd.r (ped_bag1 1 (pv 1))) (PEd.r ped_int))) pod_none) pac_nil)) (paf_cons (ped_call (ok_law_odd T) (hr.mono (by decide)) (by rfl) T.g_law_odd T.F_law_odd.kp T.b_law_odd (pac_d (ped_sl (PEd.r (ped_bag0 1 (pv 1))) (pod_some (ped_op op_addA od_add (PEd.r (ped_op op_mod od_mod (PEd.r (ped_bag1 1 (pv 1))) (PEd.r ped_int))) (PEd.r ped_int))) pod_none) pac_nil)) paf_nil)))))) (qg_name (i := 7) sc_law.nd rfl (Or.inl rfl))
      (pssd_one (qs_if (ptd_cmp (op_neD hr.units) od_ne (PEd.r (ped_callB call_reprB cd_repr (by rfl) T.n_repr (by decide +kernel) (par_cons (PEd.r (ped_call (ok_is_row T) (hr.mono (by decide)) (by rfl) T.g_is_row T.F_is_row.kp T.b_is_row (pac_d (ped_var 7 (pv 7)) pac_nil))) par_nil))) (PEd.r (ped_callB call_reprB cd_repr (by rfl) T.n_repr (by decide +kernel) (par_cons (PEd.r (ped_call (ok_law_is_row T) (hr.mono (by decide)) (by rfl) T.g_law_is_row T.F_law_is_row.kp T.b_law_is_row (pac_d (ped_var 7 (pv 7)) pac_nil))) par_nil)))) (pssd_one (qs_ret ped_bool)) pssd_nil)))))))))))
    have hr2 : PSsd (cxOf CX0 P w K mg base n_law "law" (defScope s_law) a.law cdv A outer s H E).nox (lawRest s_law) _ b_law_rest := (pssd_one (qs_ret (ped_cmp op_isBl od_isB (PEd.r (ped_call (ok_is_row T) (hr.mono (by decide)) (by rfl) T.g_is_row T.F_is_row.kp T.b_is_row (pac_d (ped_tup paf_nil) pac_nil))) (PEd.r ped_bool))))
    exact ⟨_, pss_cons (ps_for PassesOwn.never rfl (pi_list (pe_call (ok_law_bags T) (hr.mono (by decide)) (by rfl) T.g_law_bags T.F_law_bags.kp T.b_law_bags .nil pass0 (pa_cons (pv 0) (pa_cons pe_int pa_nil)))) (pg_name (i := 1) sc_law.nd rfl (Or.inl rfl)) hb.ps) hr2.ps, Pd.rd_law (K := K) n_law 8 rfl 10 1 hb.s hr2.s (by decide) (by decide) (by decide) (by decide) rd_law_loop rd_law_rest h⟩
end
theorem all_mk {l : PySem.W.OpenLaw} {w : World} {K : PySem.W.Frag} {h : Heap} {mg : Str → Option Value} {fa : Addr} (X : K.In h) (G : h.Ns mainGlobals mg) (hfa : mg "law" = some (.ref fa))
    {f0 : Addr} {od0 an0 : Option Addr} {sl0 : Array (Option Value)} {oc0 kV0 dc0 pm0 cd0 ct0 : Value}
    (a0 : PySem.W.nsIn K mainGlobals "is_within" = some (some (.ref f0))) (l0 : K.lookup f0 = some ⟨oc0, od0, .func (PySem.W.fnOf "is_within" "is_within" (defArgs s_is_within) (defBody s_is_within) (defScope s_is_within) .none kV0 dc0 pm0 an0 cd0 ct0), sl0⟩) (c0 : PySem.W.codeIn K cd0 "is_within" = true) (k0 : PySem.W.keepIn K (.ref f0) = true)
    {f1 : Addr} {od1 an1 : Option Addr} {sl1 : Array (Option Value)} {oc1 kV1 dc1 pm1 cd1 ct1 : Value}
    (a1 : PySem.W.nsIn K mainGlobals "is_taker" = some (some (.ref f1))) (l1 : K.lookup f1 = some ⟨oc1, od1, .func (PySem.W.fnOf "is_taker" "is_taker" (defArgs s_is_taker) (defBody s_is_taker) (defScope s_is_taker) .none kV1 dc1 pm1 an1 cd1 ct1), sl1⟩) (c1 : PySem.W.codeIn K cd1 "is_taker" = true) (k1 : PySem.W.keepIn K (.ref f1) = true)
    {f2 : Addr} {od2 an2 : Option Addr} {sl2 : Array (Option Value)} {oc2 kV2 dc2 pm2 cd2 ct2 : Value}
    (a2 : PySem.W.nsIn K mainGlobals "is_row" = some (some (.ref f2))) (l2 : K.lookup f2 = some ⟨oc2, od2, .func (PySem.W.fnOf "is_row" "is_row" (defArgs s_is_row) (defBody s_is_row) (defScope s_is_row) .none kV2 dc2 pm2 an2 cd2 ct2), sl2⟩) (c2 : PySem.W.codeIn K cd2 "is_row" = true) (k2 : PySem.W.keepIn K (.ref f2) = true)
    {f3 : Addr} {od3 an3 : Option Addr} {sl3 : Array (Option Value)} {oc3 kV3 dc3 pm3 cd3 ct3 : Value}
    (a3 : PySem.W.nsIn K mainGlobals "_law_odd" = some (some (.ref f3))) (l3 : K.lookup f3 = some ⟨oc3, od3, .func (PySem.W.fnOf "_law_odd" "_law_odd" (defArgs s_law_odd) (defBody s_law_odd) (defScope s_law_odd) .none kV3 dc3 pm3 an3 cd3 ct3), sl3⟩) (c3 : PySem.W.codeIn K cd3 "_law_odd" = true) (k3 : PySem.W.keepIn K (.ref f3) = true)
    {f4 : Addr} {od4 an4 : Option Addr} {sl4 : Array (Option Value)} {oc4 kV4 dc4 pm4 cd4 ct4 : Value}
    (a4 : PySem.W.nsIn K mainGlobals "_law_spoilt" = some (some (.ref f4))) (l4 : K.lookup f4 = some ⟨oc4, od4, .func (PySem.W.fnOf "_law_spoilt" "_law_spoilt" (defArgs s_law_spoilt) (defBody s_law_spoilt) (defScope s_law_spoilt) .none kV4 dc4 pm4 an4 cd4 ct4), sl4⟩) (c4 : PySem.W.codeIn K cd4 "_law_spoilt" = true) (k4 : PySem.W.keepIn K (.ref f4) = true)
    {f5 : Addr} {od5 an5 : Option Addr} {sl5 : Array (Option Value)} {oc5 kV5 dc5 pm5 cd5 ct5 : Value}
    (a5 : PySem.W.nsIn K mainGlobals "_law_cell_at" = some (some (.ref f5))) (l5 : K.lookup f5 = some ⟨oc5, od5, .func (PySem.W.fnOf "_law_cell_at" "_law_cell_at" (defArgs s_law_cell_at) (defBody s_law_cell_at) (defScope s_law_cell_at) .none kV5 dc5 pm5 an5 cd5 ct5), sl5⟩) (c5 : PySem.W.codeIn K cd5 "_law_cell_at" = true) (k5 : PySem.W.keepIn K (.ref f5) = true)
    {f6 : Addr} {od6 an6 : Option Addr} {sl6 : Array (Option Value)} {oc6 kV6 dc6 pm6 cd6 ct6 : Value}
    (a6 : PySem.W.nsIn K mainGlobals "_law_draws" = some (some (.ref f6))) (l6 : K.lookup f6 = some ⟨oc6, od6, .func (PySem.W.fnOf "_law_draws" "_law_draws" (defArgs s_law_draws) (defBody s_law_draws) (defScope s_law_draws) .none kV6 dc6 pm6 an6 cd6 ct6), sl6⟩) (c6 : PySem.W.codeIn K cd6 "_law_draws" = true) (k6 : PySem.W.keepIn K (.ref f6) = true)
    {f7 : Addr} {od7 an7 : Option Addr} {sl7 : Array (Option Value)} {oc7 kV7 dc7 pm7 cd7 ct7 : Value}
    (a7 : PySem.W.nsIn K mainGlobals "_law_bag" = some (some (.ref f7))) (l7 : K.lookup f7 = some ⟨oc7, od7, .func (PySem.W.fnOf "_law_bag" "_law_bag" (defArgs s_law_bag) (defBody s_law_bag) (defScope s_law_bag) .none kV7 dc7 pm7 an7 cd7 ct7), sl7⟩) (c7 : PySem.W.codeIn K cd7 "_law_bag" = true) (k7 : PySem.W.keepIn K (.ref f7) = true)
    {f8 : Addr} {od8 an8 : Option Addr} {sl8 : Array (Option Value)} {oc8 kV8 dc8 pm8 cd8 ct8 : Value}
    (a8 : PySem.W.nsIn K mainGlobals "_law_bags" = some (some (.ref f8))) (l8 : K.lookup f8 = some ⟨oc8, od8, .func (PySem.W.fnOf "_law_bags" "_law_bags" (defArgs s_law_bags) (defBody s_law_bags) (defScope s_law_bags) .none kV8 dc8 pm8 an8 cd8 ct8), sl8⟩) (c8 : PySem.W.codeIn K cd8 "_law_bags" = true) (k8 : PySem.W.keepIn K (.ref f8) = true)
    {f9 : Addr} {od9 an9 : Option Addr} {sl9 : Array (Option Value)} {oc9 kV9 dc9 pm9 cd9 ct9 : Value}
    (a9 : PySem.W.nsIn K mainGlobals "_law_take" = some (some (.ref f9))) (l9 : K.lookup f9 = some ⟨oc9, od9, .func (PySem.W.fnOf "_law_take" "_law_take" (defArgs s_law_take) (defBody s_law_take) (defScope s_law_take) .none kV9 dc9 pm9 an9 cd9 ct9), sl9⟩) (c9 : PySem.W.codeIn K cd9 "_law_take" = true) (k9 : PySem.W.keepIn K (.ref f9) = true)
    {f10 : Addr} {od10 an10 : Option Addr} {sl10 : Array (Option Value)} {oc10 kV10 dc10 pm10 cd10 ct10 : Value}
    (a10 : PySem.W.nsIn K mainGlobals "_law_taker" = some (some (.ref f10))) (l10 : K.lookup f10 = some ⟨oc10, od10, .func (PySem.W.fnOf "_law_taker" "_law_taker" (defArgs s_law_taker) (defBody s_law_taker) (defScope s_law_taker) .none kV10 dc10 pm10 an10 cd10 ct10), sl10⟩) (c10 : PySem.W.codeIn K cd10 "_law_taker" = true) (k10 : PySem.W.keepIn K (.ref f10) = true)
    {f11 : Addr} {od11 an11 : Option Addr} {sl11 : Array (Option Value)} {oc11 kV11 dc11 pm11 cd11 ct11 : Value}
    (a11 : PySem.W.nsIn K mainGlobals "_law_drawn_row" = some (some (.ref f11))) (l11 : K.lookup f11 = some ⟨oc11, od11, .func (PySem.W.fnOf "_law_drawn_row" "_law_drawn_row" (defArgs s_law_drawn_row) (defBody s_law_drawn_row) (defScope s_law_drawn_row) .none kV11 dc11 pm11 an11 cd11 ct11), sl11⟩) (c11 : PySem.W.codeIn K cd11 "_law_drawn_row" = true) (k11 : PySem.W.keepIn K (.ref f11) = true)
    {f12 : Addr} {od12 an12 : Option Addr} {sl12 : Array (Option Value)} {oc12 kV12 dc12 pm12 cd12 ct12 : Value}
    (a12 : PySem.W.nsIn K mainGlobals "_law_from" = some (some (.ref f12))) (l12 : K.lookup f12 = some ⟨oc12, od12, .func (PySem.W.fnOf "_law_from" "_law_from" (defArgs s_law_from) (defBody s_law_from) (defScope s_law_from) .none kV12 dc12 pm12 an12 cd12 ct12), sl12⟩) (c12 : PySem.W.codeIn K cd12 "_law_from" = true) (k12 : PySem.W.keepIn K (.ref f12) = true)
    {f13 : Addr} {od13 an13 : Option Addr} {sl13 : Array (Option Value)} {oc13 kV13 dc13 pm13 cd13 ct13 : Value}
    (a13 : PySem.W.nsIn K mainGlobals "_law_is_row" = some (some (.ref f13))) (l13 : K.lookup f13 = some ⟨oc13, od13, .func (PySem.W.fnOf "_law_is_row" "_law_is_row" (defArgs s_law_is_row) (defBody s_law_is_row) (defScope s_law_is_row) .none kV13 dc13 pm13 an13 cd13 ct13), sl13⟩) (c13 : PySem.W.codeIn K cd13 "_law_is_row" = true) (k13 : PySem.W.keepIn K (.ref f13) = true)
    {f14 : Addr} {od14 an14 : Option Addr} {sl14 : Array (Option Value)} {oc14 kV14 dc14 pm14 cd14 ct14 : Value}
    (a14 : PySem.W.nsIn K mainGlobals "law" = some (some (.ref f14))) (l14 : K.lookup f14 = some ⟨oc14, od14, .func (PySem.W.fnOf "law" "law" (defArgs s_law) (defBody s_law) (defScope s_law) .none kV14 dc14 pm14 an14 cd14 ct14), sl14⟩) (c14 : PySem.W.codeIn K cd14 "law" = true) (k14 : PySem.W.keepIn K (.ref f14) = true)
    (z_all : PySem.W.nsIn K mainGlobals "all" = some none)
    (z_bool : PySem.W.nsIn K mainGlobals "bool" = some none)
    (z_int : PySem.W.nsIn K mainGlobals "int" = some none)
    (z_isinstance : PySem.W.nsIn K mainGlobals "isinstance" = some none)
    (z_len : PySem.W.nsIn K mainGlobals "len" = some none)
    (z_list : PySem.W.nsIn K mainGlobals "list" = some none)
    (z_max : PySem.W.nsIn K mainGlobals "max" = some none)
    (z_min : PySem.W.nsIn K mainGlobals "min" = some none)
    (z_range : PySem.W.nsIn K mainGlobals "range" = some none)
    (z_repr : PySem.W.nsIn K mainGlobals "repr" = some none)
    (z_tuple : PySem.W.nsIn K mainGlobals "tuple" = some none)
    : ∃ fd : FuncData, (∀ (s : Shared) (v : Value), BindsTo s fd ⟨[v], []⟩ [("script", v)]) ∧ ∀ base : Heap, K.In base → base.Ns mainGlobals mg → FnOk l.prog w K mg base CX0 8 fa fd ["script"] (Pd.spLaw K) := by
  have e := hfa.symm.trans (PySem.W.mg_of X G a14)
  cases e
  have F0 := fun_mk (st := s_is_within) l0 c0 k0
  have b0 := F0.binds (ps := ["thing", "low", "high"]) fun _ _ _ _ _ _ us hl => match us, hl with | [_, _, _], _ => rfl
  have F1 := fun_mk (st := s_is_taker) l1 c1 k1
  have b1 := F1.binds (ps := ["thing"]) fun _ _ _ _ _ _ us hl => match us, hl with | [_], _ => rfl
  have F2 := fun_mk (st := s_is_row) l2 c2 k2
  have b2 := F2.binds (ps := ["thing"]) fun _ _ _ _ _ _ us hl => match us, hl with | [_], _ => rfl
  have F3 := fun_mk (st := s_law_odd) l3 c3 k3
  have b3 := F3.binds (ps := ["picks"]) fun _ _ _ _ _ _ us hl => match us, hl with | [_], _ => rfl
  have F4 := fun_mk (st := s_law_spoilt) l4 c4 k4
  have b4 := F4.binds (ps := ["thing", "picks"]) fun _ _ _ _ _ _ us hl => match us, hl with | [_, _], _ => rfl
  have F5 := fun_mk (st := s_law_cell_at) l5 c5 k5
  have b5 := F5.binds (ps := ["script", "k"]) fun _ _ _ _ _ _ us hl => match us, hl with | [_, _], _ => rfl
  have F6 := fun_mk (st := s_law_draws) l6 c6 k6
  have b6 := F6.binds (ps := ["cell", "many", "size"]) fun _ _ _ _ _ _ us hl => match us, hl with | [_, _, _], _ => rfl
  have F7 := fun_mk (st := s_law_bag) l7 c7 k7
  have b7 := F7.binds (ps := ["script", "k"]) fun _ _ _ _ _ _ us hl => match us, hl with | [_, _], _ => rfl
  have F8 := fun_mk (st := s_law_bags) l8 c8 k8
  have b8 := F8.binds (ps := ["script", "limit"]) fun _ _ _ _ _ _ us hl => match us, hl with | [_, _], _ => rfl
  have F9 := fun_mk (st := s_law_take) l9 c9 k9
  have b9 := F9.binds (ps := ["bag", "many"]) fun _ _ _ _ _ _ us hl => match us, hl with | [_, _], _ => rfl
  have F10 := fun_mk (st := s_law_taker) l10 c10 k10
  have b10 := F10.binds (ps := ["bag", "far"]) fun _ _ _ _ _ _ us hl => match us, hl with | [_, _], _ => rfl
  have F11 := fun_mk (st := s_law_drawn_row) l11 c11 k11
  have b11 := F11.binds (ps := ["bag", "takers", "far"]) fun _ _ _ _ _ _ us hl => match us, hl with | [_, _, _], _ => rfl
  have F12 := fun_mk (st := s_law_from) l12 c12 k12
  have b12 := F12.binds (ps := ["thing", "least", "top"]) fun _ _ _ _ _ _ us hl => match us, hl with | [_, _, _], _ => rfl
  have F13 := fun_mk (st := s_law_is_row) l13 c13 k13
  have b13 := F13.binds (ps := ["thing"]) fun _ _ _ _ _ _ us hl => match us, hl with | [_], _ => rfl
  have F14 := fun_mk (st := s_law) l14 c14 k14
  have b14 := F14.binds (ps := ["script"]) fun _ _ _ _ _ _ us hl => match us, hl with | [_], _ => rfl
  have T : Txt K mg ⟨f0, f1, f2, f3, f4, f5, f6, f7, f8, f9, f10, f11, f12, f13, _⟩ ⟨_, _, _, _, _, _, _, _, _, _, _, _, _, _, _⟩ := ⟨F0, PySem.W.mg_of X G a0, b0, F1, PySem.W.mg_of X G a1, b1, F2, PySem.W.mg_of X G a2, b2, F3, PySem.W.mg_of X G a3, b3, F4, PySem.W.mg_of X G a4, b4, F5, PySem.W.mg_of X G a5, b5, F6, PySem.W.mg_of X G a6, b6, F7, PySem.W.mg_of X G a7, b7, F8, PySem.W.mg_of X G a8, b8, F9, PySem.W.mg_of X G a9, b9, F10, PySem.W.mg_of X G a10, b10, F11, PySem.W.mg_of X G a11, b11, F12, PySem.W.mg_of X G a12, b12, F13, PySem.W.mg_of X G a13, b13, F14, PySem.W.mg_of X G a14, b14, PySem.W.mg_none_of X G z_all, PySem.W.mg_none_of X G z_bool, PySem.W.mg_none_of X G z_int, PySem.W.mg_none_of X G z_isinstance, PySem.W.mg_none_of X G z_len, PySem.W.mg_none_of X G z_list, PySem.W.mg_none_of X G z_max, PySem.W.mg_none_of X G z_min, PySem.W.mg_none_of X G z_range, PySem.W.mg_none_of X G z_repr, PySem.W.mg_none_of X G z_tuple⟩
  exact ⟨_, fun s v => .of_eq rfl, fun base _ _ => ok_law T⟩
theorem walk {l : PySem.W.OpenLaw} {q : Program} {loose : List Str} {XP : (Str → Option Value) → Heap → Prop} {YP : World → Heap → Prop} {d : DefRec} {K : Params → PySem.W.Frag} (hn : l.most = some 63) (hdf : d.params.defaults = [])
    (hY : ∀ (w : World) (h : Heap), YP w h → (K w.params).In h)
    (F : ∀ (w : World) (mg : Str → Option Value) (fa : Addr) (h : Heap), (K w.params).In h → h.Ns mainGlobals mg → mg d.name = some (.ref fa) →
      ∃ fd : FuncData, (∀ (s : Shared) (u : Value), BindsTo s fd ⟨[u], []⟩ [("script", u)]) ∧ ∀ base : Heap, (K w.params).In base → base.Ns mainGlobals mg → FnOk l.prog w (K w.params) mg base CX0 8 fa fd ["script"] (Pd.spLaw (K w.params))) :
    PySem.W.WalkO q loose XP YP l.row.toRowW d [] (fun f vs => PySem.call f vs) :=
  L2.walk_of (n := 63) (k := 8) (x := "script") (CX := fun _ => CX0) (sp := fun w => Pd.spLaw (K w.params)) hn (by decide) hdf ⟨rfl, by decide, by decide⟩ hY F (fun _ _ a ns hl _ hS => ⟨a, ns, rfl, hS, hl, fun _ => rfl⟩) fun _ _ _ _ _ z => z
end Lw

open PySem PySem.W PyProof.Rows in
set_option maxRecDepth 100000 in
set_option maxHeartbeats 0 in
theorem PySem.Challenge.cw_takenth_k01_rows_known_holds : PySem.Challenge.rw_takenth_k01_rows_known.Holds := by
  w_on; o_law; k_head; (case hw => w_witness2)
  k_fill
  refine Lw.walk (l := PySem.Challenge.rw_takenth_k01_rows_known) rfl rfl (fun w h Y => PySem.W.kIn_of Y) ?F
  case F =>
    intro w mg fa h KX G hmg
    refine' Lw.all_mk KX G hmg ?a0 ?l0 ?c0 ?k0 ?a1 ?l1 ?c1 ?k1 ?a2 ?l2 ?c2 ?k2 ?a3 ?l3 ?c3 ?k3 ?a4 ?l4 ?c4 ?k4 ?a5 ?l5 ?c5 ?k5 ?a6 ?l6 ?c6 ?k6 ?a7 ?l7 ?c7 ?k7 ?a8 ?l8 ?c8 ?k8 ?a9 ?l9 ?c9 ?k9 ?a10 ?l10 ?c10 ?k10 ?a11 ?l11 ?c11 ?k11 ?a12 ?l12 ?c12 ?k12 ?a13 ?l13 ?c13 ?k13 ?a14 ?l14 ?c14 ?k14 ?z_all ?z_bool ?z_int ?z_isinstance ?z_len ?z_list ?z_max ?z_min ?z_range ?z_repr ?z_tuple
    (case a0 => k_is)
    (case l0 => k_is)
    (case c0 => k_is)
    (case k0 => k_is)
    (case a1 => k_is)
    (case l1 => k_is)
    (case c1 => k_is)
    (case k1 => k_is)
    (case a2 => k_is)
    (case l2 => k_is)
    (case c2 => k_is)
    (case k2 => k_is)
    (case a3 => k_is)
    (case l3 => k_is)
    (case c3 => k_is)
    (case k3 => k_is)
    (case a4 => k_is)
    (case l4 => k_is)
    (case c4 => k_is)
    (case k4 => k_is)
    (case a5 => k_is)
    (case l5 => k_is)
    (case c5 => k_is)
    (case k5 => k_is)
    (case a6 => k_is)
    (case l6 => k_is)
    (case c6 => k_is)
    (case k6 => k_is)
    (case a7 => k_is)
    (case l7 => k_is)
    (case c7 => k_is)
    (case k7 => k_is)
    (case a8 => k_is)
    (case l8 => k_is)
    (case c8 => k_is)
    (case k8 => k_is)
    (case a9 => k_is)
    (case l9 => k_is)
    (case c9 => k_is)
    (case k9 => k_is)
    (case a10 => k_is)
    (case l10 => k_is)
    (case c10 => k_is)
    (case k10 => k_is)
    (case a11 => k_is)
    (case l11 => k_is)
    (case c11 => k_is)
    (case k11 => k_is)
    (case a12 => k_is)
    (case l12 => k_is)
    (case c12 => k_is)
    (case k12 => k_is)
    (case a13 => k_is)
    (case l13 => k_is)
    (case c13 => k_is)
    (case k13 => k_is)
    (case a14 => k_is)
    (case l14 => k_is)
    (case c14 => k_is)
    (case k14 => k_is)
    (case z_all => k_is)
    (case z_bool => k_is)
    (case z_int => k_is)
    (case z_isinstance => k_is)
    (case z_len => k_is)
    (case z_list => k_is)
    (case z_max => k_is)
    (case z_min => k_is)
    (case z_range => k_is)
    (case z_repr => k_is)
    (case z_tuple => k_is)
