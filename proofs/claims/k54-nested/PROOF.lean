import PyProof.Rows.All
import Wide.All
import OpenK.AllK
import Wide.FinOn
import HandS.ForMost
import HandS.Defaults
import HandS.Conv
import HandS.Zip
import HandS.Walk
import HandS.IsInst
import HandS.Star
import HandS.Style
import HandS.Wide
import HandS.TupSets
import HandS.TupAny
import KE.GoesEnum
import KE.GoesZip
import HandS.Small
import HandS.Ends
import PySem.Challenge.RW_mendfew_k54_whole_nested
set_option Elab.async false
set_option linter.all false
set_option maxRecDepth 100000
set_option maxHeartbeats 4000000
/-! DL1: data states. A frozen part S of the heap, data in slots, owned lists and dicts. -/
namespace DL
open PySem PySem.Spec PyProof.Rows L2

/-! ### growth: S the frozen part, H the whole -/
structure Gr (S H S' H' : Hp) : Prop where
  ss : Same S S'
  sh : Same S' H'
  hh : Same H H'
  nw : ∀ b, S b = none → H b ≠ none → S' b = none
section
variable {S0 H0 S H S1 H1 S2 H2 : Hp} {p : Addr} {o : HO}
theorem Gr.refl (h : Same S H) : Gr S H S H := ⟨Same.refl _, h, Same.refl _, fun _ e _ => e⟩
theorem Gr.trans (a : Gr S H S1 H1) (b : Gr S1 H1 S2 H2) : Gr S H S2 H2 :=
  ⟨a.ss.trans b.ss, b.sh, a.hh.trans b.hh, fun c e n => b.nw c (a.nw c e n) fun z => n (a.hh.free z)⟩
theorem Gr.base (a : Gr S0 H0 S H) : Same S0 H0 → Gr S0 H0 S0 H0 := fun h => Gr.refl h
theorem Gr.new (g : Gr S0 H0 S H) (hp : H p = none) : Gr S0 H0 (upd S p o) (upd H p o) := by
  refine ⟨fun b x e => ?_, fun b x e => ?_, fun b x e => ?_, fun b e n => ?_⟩
  · have h : b ≠ p := ne_of_none (g.sh b x (g.ss b x e)) hp
    rw [upd_ne h]
    exact g.ss b x e
  · by_cases h : b = p
    · rw [h, upd_same] at e
      rw [h, upd_same]
      exact e
    · rw [upd_ne h] at e
      rw [upd_ne h]
      exact g.sh b x e
  · have h : b ≠ p := ne_of_none (g.hh b x e) hp
    rw [upd_ne h]
    exact g.hh b x e
  · have h : b ≠ p := by
      intro z
      rw [z] at n
      exact n (g.hh.free hp)
    rw [upd_ne h]
    exact g.nw b e n
theorem Gr.mut (g : Gr S0 H0 S H) (h0 : H0 p = none) (hs : S p = none) : Gr S0 H0 S (upd H p o) := by
  refine ⟨g.ss, fun b x e => ?_, fun b x e => ?_, g.nw⟩
  · rw [upd_ne (ne_of_none e hs)]
    exact g.sh b x e
  · rw [upd_ne (ne_of_none e h0)]
    exact g.hh b x e
theorem Gr.sfree (g : Gr S0 H0 S H) (hp : H p = none) : S p = none := g.sh.free hp
theorem Gr.hfree (g : Gr S0 H0 S H) (hp : H p = none) : H0 p = none := g.hh.free hp
theorem Gr.owned (g : Gr S0 H0 S H) (hp : H p = none) : Gr S0 H0 S (upd H p o) := g.mut (g.hfree hp) (g.sfree hp)
theorem Gr.frz (g : Gr S0 H0 S H) (h : H p = some o) (hs : S p = none) (h0 : H0 p = none) : Gr S0 H0 (upd S p o) H := by
  refine ⟨fun b x e => ?_, fun b x e => ?_, g.hh, fun b e n => ?_⟩
  · rw [upd_ne (ne_of_none (g.ss b x e) hs)]
    exact g.ss b x e
  · by_cases hb : b = p
    · rw [hb, upd_same] at e
      rw [hb, h]
      exact e
    · rw [upd_ne hb] at e
      exact g.sh b x e
  · have hb : b ≠ p := by
      intro z
      rw [z] at n
      exact n h0
    rw [upd_ne hb]
    exact g.nw b e n
end

/-! ### data in the frozen part -/
section
variable {K : PySem.W.Frag} {S S' H : Hp}
theorem Same.rd {a : Addr} {u : HO} (e : Same S S') (h : Rd S a u) : Rd S' a u := by
  rcases h with h | ⟨o, h⟩
  · exact Or.inl (e a _ h)
  · exact Or.inr ⟨o, e a _ h⟩
theorem Same.sql {a : Addr} {xs : List V} (e : Same S S') (h : SqL K S a xs) : SqL K S' a xs := by
  rcases h with h | h
  · exact Or.inl (Same.rd e h)
  · exact Or.inr h
theorem Same.sqt {a : Addr} {xs : List V} (e : Same S S') (h : SqT K S a xs) : SqT K S' a xs := by
  rcases h with h | h
  · exact Or.inl (Same.rd e h)
  · exact Or.inr h
mutual
theorem dp_mono (e : Same S S') : ∀ (d : PyData) (v : V), Dp K S v d → Dp K S' v d
  | .none, _, h => by cases h; exact .non
  | .bool b, _, h => by cases h; exact .bl b
  | .int i, _, h => by cases h; exact .int i
  | .str x, _, h => by cases h; exact .str x
  | .list ds, _, h => by
    cases h with
    | lst hs ha => exact .lst (Same.sql e hs) (dps_mono e ds _ ha)
  | .tuple ds, _, h => by
    cases h with
    | tup hs ha => exact .tup (Same.sqt e hs) (dps_mono e ds _ ha)
  | .dict _, _, h => by cases h
theorem dps_mono (e : Same S S') : ∀ (ds : List PyData) (vs : List V), DpAll K S vs ds → DpAll K S' vs ds
  | [], _, h => by cases h; exact .nil
  | d :: ds, _, h => by
    cases h with
    | cons h1 h2 => exact .cons (dp_mono e d _ h1) (dps_mono e ds _ h2)
end
theorem _root_.L2.Dp.mono {v : V} {d : PyData} (h : Dp K S v d) (e : Same S S') : Dp K S' v d := dp_mono e d v h
theorem _root_.L2.DpAll.mono {vs : List V} {ds : List PyData} (h : DpAll K S vs ds) (e : Same S S') : DpAll K S' vs ds := dps_mono e ds vs h
theorem dps_len : ∀ {vs : List V} {ds : List PyData}, DpAll K S vs ds → vs.length = ds.length
  | _, _, .nil => rfl
  | _, _, .cons _ t => by rw [List.length_cons, List.length_cons, dps_len t]
theorem dps_get : ∀ {vs : List V} {ds : List PyData} {i : Nat} {v : V}, DpAll K S vs ds → vs[i]? = some v → ∃ d, ds[i]? = some d ∧ Dp K S v d
  | _, _, _, _, .nil, e => by simp at e
  | _, _, 0, _, .cons h _, e => by
    simp at e
    subst e
    exact ⟨_, rfl, h⟩
  | _, _, i + 1, _, .cons _ t, e => by
    obtain ⟨d, h1, h2⟩ := dps_get (i := i) t (by simpa using e)
    exact ⟨d, by simpa using h1, h2⟩
theorem dps_getD : ∀ {vs : List V} {ds : List PyData} {i : Nat} {d : PyData}, DpAll K S vs ds → ds[i]? = some d → ∃ v, vs[i]? = some v ∧ Dp K S v d
  | _, _, _, _, .nil, e => by simp at e
  | _, _, 0, _, .cons h _, e => by
    simp at e
    subst e
    exact ⟨_, rfl, h⟩
  | _, _, i + 1, _, .cons _ t, e => by
    obtain ⟨d, h1, h2⟩ := dps_getD (i := i) t (by simpa using e)
    exact ⟨d, by simpa using h1, h2⟩
theorem dps_app : ∀ {vs us : List V} {ds es : List PyData}, DpAll K S vs ds → DpAll K S us es → DpAll K S (vs ++ us) (ds ++ es)
  | _, _, _, _, .nil, h => h
  | _, _, _, _, .cons h t, h2 => .cons h (dps_app t h2)
theorem dps_one {v : V} {d : PyData} (h : Dp K S v d) : DpAll K S [v] [d] := .cons h .nil
theorem dps_set : ∀ {vs : List V} {ds : List PyData} {v : V} {d : PyData} (i : Nat), DpAll K S vs ds → Dp K S v d → DpAll K S (vs.set i v) (ds.set i d)
  | _, _, _, _, _, .nil, _ => .nil
  | _, _, _, _, 0, .cons _ t, h => .cons h t
  | _, _, _, _, i + 1, .cons g t, h => .cons g (dps_set i t h)
theorem dps_take : ∀ {vs : List V} {ds : List PyData} (n : Nat), DpAll K S vs ds → DpAll K S (vs.take n) (ds.take n)
  | _, _, 0, _ => .nil
  | _, _, _ + 1, .nil => .nil
  | _, _, n + 1, .cons h t => .cons h (dps_take n t)
theorem dps_drop : ∀ {vs : List V} {ds : List PyData} (n : Nat), DpAll K S vs ds → DpAll K S (vs.drop n) (ds.drop n)
  | _, _, 0, h => h
  | _, _, _ + 1, .nil => .nil
  | _, _, n + 1, .cons _ t => dps_drop n t
theorem dps_erase : ∀ {vs : List V} {ds : List PyData} (n : Nat), DpAll K S vs ds → DpAll K S (vs.eraseIdx n) (ds.eraseIdx n)
  | _, _, _, .nil => .nil
  | _, _, 0, .cons _ t => t
  | _, _, n + 1, .cons h t => .cons h (dps_erase n t)
theorem dps_ints (ns : List Int) : DpAll K S (ns.map V.int) (ns.map PyData.int) := by
  induction ns with
  | nil => exact .nil
  | cons n r ih => exact .cons (.int n) ih
theorem dps_ints_inv : ∀ {ns : List Int} {vs : List V}, DpAll K S vs (ns.map PyData.int) → vs = ns.map V.int
  | [], _, h => by cases h; rfl
  | n :: r, _, h => by
    cases h with
    | cons h t =>
      cases h
      rw [dps_ints_inv t]
      rfl
theorem dp_int {v : V} {i : Int} (h : Dp K S v (.int i)) : v = .int i := by cases h; rfl
theorem dp_bool {v : V} {b : Bool} (h : Dp K S v (.bool b)) : v = .bl b := by cases h; rfl
theorem dp_none {v : V} (h : Dp K S v .none) : v = .non := by cases h; rfl
theorem dp_str {v : V} {x : Str} (h : Dp K S v (.str x)) : v = .str x := by cases h; rfl
theorem dp_tup {v : V} {ds : List PyData} (h : Dp K S v (.tuple ds)) : ∃ a xs, v = .ref a ∧ SqT K S a xs ∧ DpAll K S xs ds := by
  cases h with
  | tup hs ha => exact ⟨_, _, rfl, hs, ha⟩
theorem dp_lst {v : V} {ds : List PyData} (h : Dp K S v (.list ds)) : ∃ a xs, v = .ref a ∧ SqL K S a xs ∧ DpAll K S xs ds := by
  cases h with
  | lst hs ha => exact ⟨_, _, rfl, hs, ha⟩
theorem dps1 {vs : List V} {d : PyData} (h : DpAll K S vs [d]) : ∃ v, vs = [v] ∧ Dp K S v d := by
  cases h with
  | cons h t => cases t; exact ⟨_, rfl, h⟩
theorem dps2 {vs : List V} {d e : PyData} (h : DpAll K S vs [d, e]) : ∃ v u, vs = [v, u] ∧ Dp K S v d ∧ Dp K S u e := by
  cases h with
  | cons h t =>
    cases t with
    | cons h' t => cases t; exact ⟨_, _, rfl, h, h'⟩
end

/-! ### slots -/
inductive Slot where
  | un
  | d (x : PyData)
  | own (xs : List PyData)
  | dct (a : Addr) (kvs : List (Str × PyData))
def KvOk (K : PySem.W.Frag) (S : Hp) : List (Key × V) → List (Str × PyData) → Prop := Paired fun (p : Key × V) (q : Str × PyData) => p.1 = Sum.inr q.1 ∧ Dp K S p.2 q.2
def SlotOk (K : PySem.W.Frag) (H0 S H : Hp) (o : Option V) : Slot → Prop
  | .un => True
  | .d x => ∃ v, o = some v ∧ Dp K S v x
  | .own xs => ∃ a vs, o = some (.ref a) ∧ S a = none ∧ H0 a = none ∧ H a = some (.lst vs) ∧ DpAll K S vs xs
  | .dct a kvs => ∃ vs, o = some (.ref a) ∧ S a = none ∧ H0 a = none ∧ H a = some (.dK vs) ∧ KvOk K S vs kvs
def Owned : Slot → Prop
  | .own _ => True
  | .dct _ _ => True
  | _ => False
structure StOk (K : PySem.W.Frag) (H0 S H : Hp) (σ : L2.St) (δ : List Slot) : Prop where
  sh : Same S H
  len : σ.length = δ.length
  at_ : ∀ (i : Nat) (s : Slot), δ[i]? = some s → ∃ o, σ[i]? = some o ∧ SlotOk K H0 S H o s
  dist : ∀ (i j : Nat) (a : Addr) (s t : Slot), i ≠ j → δ[i]? = some s → δ[j]? = some t → Owned s → Owned t → σ[i]? = some (some (.ref a)) → σ[j]? = some (some (.ref a)) → False
section
variable {K : PySem.W.Frag} {H0 S H S' H' : Hp} {σ : L2.St} {δ : List Slot}
theorem KvOk.mono {vs : List (Key × V)} {kvs : List (Str × PyData)} (h : KvOk K S vs kvs) (e : Same S S') : KvOk K S' vs kvs :=
  Paired.mapP h fun _ _ q => ⟨q.1, q.2.mono e⟩
theorem SlotOk.grow {o : Option V} {s : Slot} (h : SlotOk K H0 S H o s) (g : Gr S H S' H') : SlotOk K H0 S' H' o s := by
  cases s with
  | un => trivial
  | d x =>
    obtain ⟨v, e, h⟩ := h
    exact ⟨v, e, h.mono g.ss⟩
  | own xs =>
    obtain ⟨a, vs, e, h1, h2, h3, h4⟩ := h
    exact ⟨a, vs, e, g.nw a h1 (by rw [h3]; exact fun z => nomatch z), h2, g.hh _ _ h3, h4.mono g.ss⟩
  | dct a kvs =>
    obtain ⟨vs, e, h1, h2, h3, h4⟩ := h
    exact ⟨vs, e, g.nw a h1 (by rw [h3]; exact fun z => nomatch z), h2, g.hh _ _ h3, h4.mono g.ss⟩
theorem StOk.grow (h : StOk K H0 S H σ δ) (g : Gr S H S' H') : StOk K H0 S' H' σ δ :=
  ⟨g.sh, h.len, fun i s e => let ⟨o, e1, h1⟩ := h.at_ i s e; ⟨o, e1, h1.grow g⟩, h.dist⟩
theorem StOk.get {i : Nat} {x : PyData} (h : StOk K H0 S H σ δ) (e : δ[i]? = some (.d x)) : ∃ v, σ[i]? = some (some v) ∧ Dp K S v x := by
  obtain ⟨o, e1, v, e2, h1⟩ := h.at_ i _ e
  subst e2
  exact ⟨v, e1, h1⟩
theorem set_get {α : Type} {l : List α} {i j : Nat} {x y : α} (h : (l.set i x)[j]? = some y) : (i = j ∧ y = x) ∨ (i ≠ j ∧ l[j]? = some y) := by
  by_cases e : i = j
  · subst e
    have hl : i < l.length := by
      have := (List.getElem?_eq_some_iff.mp h).1
      simpa using this
    rw [List.getElem?_set_self hl] at h
    exact Or.inl ⟨rfl, (Option.some.inj h).symm⟩
  · rw [List.getElem?_set_ne e] at h
    exact Or.inr ⟨e, h⟩
/-- a slot set to data, to nothing -/
theorem StOk.setD {v : V} {x : PyData} (h : StOk K H0 S H σ δ) (i : Nat) (hv : Dp K S v x) : StOk K H0 S H (σ.set i (some v)) (δ.set i (.d x)) := by
  refine ⟨h.sh, by simp [h.len], fun j s e => ?_, fun j k a s t hjk e1 e2 o1 o2 g1 g2 => ?_⟩
  · rcases set_get e with ⟨rfl, rfl⟩ | ⟨hn, e⟩
    · have hl : i < σ.length := by
        have := (List.getElem?_eq_some_iff.mp e).1
        rw [h.len]
        simpa using this
      exact ⟨some v, List.getElem?_set_self hl, v, rfl, hv⟩
    · obtain ⟨o, e1, h1⟩ := h.at_ j s e
      exact ⟨o, by rw [List.getElem?_set_ne hn]; exact e1, h1⟩
  · rcases set_get e1 with ⟨rfl, rfl⟩ | ⟨n1, e1⟩
    · exact o1
    · rcases set_get e2 with ⟨rfl, rfl⟩ | ⟨n2, e2⟩
      · exact o2
      · rw [List.getElem?_set_ne n1] at g1
        rw [List.getElem?_set_ne n2] at g2
        exact h.dist j k a s t hjk e1 e2 o1 o2 g1 g2
theorem StOk.setN (h : StOk K H0 S H σ δ) (i : Nat) (o : Option V) : StOk K H0 S H (σ.set i o) (δ.set i .un) := by
  refine ⟨h.sh, by simp [h.len], fun j s e => ?_, fun j k a s t hjk e1 e2 o1 o2 g1 g2 => ?_⟩
  · rcases set_get e with ⟨rfl, rfl⟩ | ⟨hn, e⟩
    · have hl : i < σ.length := by
        have := (List.getElem?_eq_some_iff.mp e).1
        rw [h.len]
        simpa using this
      exact ⟨o, List.getElem?_set_self hl, trivial⟩
    · obtain ⟨o, e1, h1⟩ := h.at_ j s e
      exact ⟨o, by rw [List.getElem?_set_ne hn]; exact e1, h1⟩
  · rcases set_get e1 with ⟨rfl, rfl⟩ | ⟨n1, e1⟩
    · exact o1
    · rcases set_get e2 with ⟨rfl, rfl⟩ | ⟨n2, e2⟩
      · exact o2
      · rw [List.getElem?_set_ne n1] at g1
        rw [List.getElem?_set_ne n2] at g2
        exact h.dist j k a s t hjk e1 e2 o1 o2 g1 g2
/-- a slot set to a new owned object: no other owned one stands at its address -/
theorem StOk.setO {a : Addr} {s0 : Slot} (h : StOk K H0 S H σ δ) (i : Nat) (hs : SlotOk K H0 S H (some (.ref a)) s0) (hn : ∀ (j : Nat) (t : Slot), δ[j]? = some t → Owned t → σ[j]? ≠ some (some (.ref a))) : StOk K H0 S H (σ.set i (some (.ref a))) (δ.set i s0) := by
  refine ⟨h.sh, by simp [h.len], fun j s e => ?_, fun j k b s t hjk e1 e2 o1 o2 g1 g2 => ?_⟩
  · rcases set_get e with ⟨rfl, rfl⟩ | ⟨hne, e⟩
    · have hl : i < σ.length := by
        have := (List.getElem?_eq_some_iff.mp e).1
        rw [h.len]
        simpa using this
      exact ⟨_, List.getElem?_set_self hl, hs⟩
    · obtain ⟨o, e1, h1⟩ := h.at_ j s e
      exact ⟨o, by rw [List.getElem?_set_ne hne]; exact e1, h1⟩
  · rcases set_get e1 with ⟨c1, _⟩ | ⟨n1, f1⟩
    · rcases set_get e2 with ⟨c2, _⟩ | ⟨n2, f2⟩
      · exact hjk (c1.symm.trans c2)
      · rcases set_get g1 with ⟨_, q⟩ | ⟨q, _⟩
        · cases q
          rw [List.getElem?_set_ne n2] at g2
          exact hn k t f2 o2 g2
        · exact q c1
    · rcases set_get e2 with ⟨c2, _⟩ | ⟨n2, f2⟩
      · rcases set_get g2 with ⟨_, q⟩ | ⟨q, _⟩
        · cases q
          rw [List.getElem?_set_ne n1] at g1
          exact hn j s f1 o1 g1
        · exact q c2
      · rw [List.getElem?_set_ne n1] at g1
        rw [List.getElem?_set_ne n2] at g2
        exact h.dist j k b s t hjk f1 f2 o1 o2 g1 g2
/-- an owned slot's address is not free -/
theorem StOk.ownedAt {j : Nat} {t : Slot} {a : Addr} (h : StOk K H0 S H σ δ) (e : δ[j]? = some t) (o : Owned t) (g : σ[j]? = some (some (.ref a))) : H a ≠ none ∧ S a = none ∧ H0 a = none := by
  obtain ⟨o', e1, h1⟩ := h.at_ j t e
  rw [g] at e1
  cases e1
  cases t with
  | un => exact o.elim
  | d x => exact o.elim
  | own xs =>
    obtain ⟨b, vs, e2, h2, h3, h4, _⟩ := h1
    cases e2
    exact ⟨by (rw [h4]; intro z; cases z), h2, h3⟩
  | dct b kvs =>
    obtain ⟨vs, e2, h2, h3, h4, _⟩ := h1
    cases e2
    exact ⟨by (rw [h4]; intro z; cases z), h2, h3⟩
/-- the object of the owned slot i changes -/
theorem StOk.change {i : Nat} {a : Addr} {s0 s1 : Slot} {o : HO} (h : StOk K H0 S H σ δ) (e : δ[i]? = some s0) (hO : Owned s0) (g : σ[i]? = some (some (.ref a))) (h1 : SlotOk K H0 S (upd H a o) (some (.ref a)) s1) : StOk K H0 S (upd H a o) σ (δ.set i s1) := by
  obtain ⟨_, hS, hH0⟩ := h.ownedAt e hO g
  have sh : Same S (upd H a o) := fun b x q => by
    rw [upd_ne (ne_of_none q hS)]
    exact h.sh b x q
  refine ⟨sh, by simp [h.len], fun j s q => ?_, fun j k b s t hjk e1 e2 o1 o2 g1 g2 => ?_⟩
  · rcases set_get q with ⟨rfl, rfl⟩ | ⟨hne, q⟩
    · exact ⟨_, g, h1⟩
    · obtain ⟨o', e1, h2⟩ := h.at_ j s q
      refine ⟨o', e1, ?_⟩
      cases s with
      | un => trivial
      | d x => exact h2
      | own xs =>
        obtain ⟨b, vs, r1, r2, r3, r4, r5⟩ := h2
        have hba : b ≠ a := by
          intro z
          subst z
          subst r1
          exact h.dist i j b s0 _ hne e q hO trivial g e1
        exact ⟨b, vs, r1, r2, r3, by rw [upd_ne hba]; exact r4, r5⟩
      | dct b kvs =>
        obtain ⟨vs, r1, r2, r3, r4, r5⟩ := h2
        have hba : b ≠ a := by
          intro z
          subst z
          subst r1
          exact h.dist i j b s0 _ hne e q hO trivial g e1
        exact ⟨vs, r1, r2, r3, by rw [upd_ne hba]; exact r4, r5⟩
  · have f : ∀ {j : Nat} {s : Slot}, (δ.set i s1)[j]? = some s → Owned s → ∃ s', δ[j]? = some s' ∧ Owned s' := fun {j s} q oq => by
      rcases set_get q with ⟨rfl, rfl⟩ | ⟨_, q⟩
      · exact ⟨s0, e, hO⟩
      · exact ⟨s, q, oq⟩
    obtain ⟨s', e1', o1'⟩ := f e1 o1
    obtain ⟨t', e2', o2'⟩ := f e2 o2
    exact h.dist j k b s' t' hjk e1' e2' o1' o2' g1 g2
/-- an owned list is frozen -/
theorem StOk.freeze {i : Nat} {xs : List PyData} (h : StOk K H0 S H σ δ) (e : δ[i]? = some (.own xs)) :
    ∃ a vs, σ[i]? = some (some (.ref a)) ∧ H a = some (.lst vs) ∧ S a = none ∧ H0 a = none ∧ StOk K H0 (upd S a (.lst vs)) H σ (δ.set i (.d (.list xs))) := by
  obtain ⟨o, e1, a, vs, e2, h1, h2, h3, h4⟩ := h.at_ i _ e
  subst e2
  refine ⟨a, vs, e1, h3, h1, h2, ?_⟩
  have ss : Same S (upd S a (.lst vs)) := fun b x q => by
    rw [upd_ne (ne_of_none q h1)]
    exact q
  have sh : Same (upd S a (.lst vs)) H := fun b x q => by
    by_cases hb : b = a
    · rw [hb, upd_same] at q
      rw [hb, h3]
      exact q
    · rw [upd_ne hb] at q
      exact h.sh b x q
  refine ⟨sh, by simp [h.len], fun j s q => ?_, fun j k b s t hjk e1 e2 o1 o2 g1 g2 => ?_⟩
  · rcases set_get q with ⟨rfl, rfl⟩ | ⟨hne, q⟩
    · exact ⟨_, e1, .ref a, rfl, .lst (SqL.of upd_same) (h4.mono ss)⟩
    · obtain ⟨o', f1, f2⟩ := h.at_ j s q
      refine ⟨o', f1, ?_⟩
      cases s with
      | un => trivial
      | d x =>
        obtain ⟨v, r1, r2⟩ := f2
        exact ⟨v, r1, r2.mono ss⟩
      | own ys =>
        obtain ⟨b, us, r1, r2, r3, r4, r5⟩ := f2
        have hba : b ≠ a := by
          intro z
          subst z
          subst r1
          exact h.dist i j b _ _ hne e q trivial trivial e1 f1
        exact ⟨b, us, r1, by rw [upd_ne hba]; exact r2, r3, r4, r5.mono ss⟩
      | dct b kvs =>
        obtain ⟨us, r1, r2, r3, r4, r5⟩ := f2
        have hba : b ≠ a := by
          intro z
          subst z
          subst r1
          exact h.dist i j b _ _ hne e q trivial trivial e1 f1
        exact ⟨us, r1, by rw [upd_ne hba]; exact r2, r3, r4, r5.mono ss⟩
  · rcases set_get e1 with ⟨rfl, rfl⟩ | ⟨n1, e1⟩
    · exact o1
    · rcases set_get e2 with ⟨rfl, rfl⟩ | ⟨n2, e2⟩
      · exact o2
      · exact h.dist j k b s t hjk e1 e2 o1 o2 g1 g2
end
end DL
set_option Elab.async false
set_option linter.all false
set_option maxRecDepth 100000
set_option maxHeartbeats 4000000
/-! DL2: judgements over data states; expressions. -/
namespace DL
open PySem PySem.Spec PyProof.Rows L2

/-! ### readings over data -/
def RdE (K : PySem.W.Frag) (t : TE) (δ : List Slot) (d : PyData) : Prop :=
  ∀ (σ : L2.St) (H0 S H : Hp) (Q : VK), StOk K H0 S H σ δ → (∀ v S' H', Gr S H S' H' → Dp K S' v d → Q v H') → t σ H Q
/-- a new list, not frozen yet -/
def RdO (K : PySem.W.Frag) (t : TE) (δ : List Slot) (ds : List PyData) : Prop :=
  ∀ (σ : L2.St) (H0 S H : Hp) (Q : VK), StOk K H0 S H σ δ → (∀ a vs S' H', Gr S H S' H' → S' a = none → H a = none → H' a = some (.lst vs) → DpAll K S' vs ds → Q (.ref a) H') → t σ H Q
def RdT (K : PySem.W.Frag) (t : TT) (δ : List Slot) (b : Bool) : Prop :=
  ∀ (σ : L2.St) (H0 S H : Hp) (Q : Bool → Hp → Prop), StOk K H0 S H σ δ → (∀ S' H', Gr S H S' H' → Q b H') → t σ H Q
def RdA (K : PySem.W.Frag) (t : TA) (δ : List Slot) (ds : List PyData) : Prop :=
  ∀ (σ : L2.St) (H0 S H : Hp) (Q : List V → Hp → Prop), StOk K H0 S H σ δ → (∀ vs S' H', Gr S H S' H' → DpAll K S' vs ds → Q vs H') → t σ H Q

/-! ### judgements -/
def EX (X : Cx) (e : Expr) (δ : List Slot) (d : PyData) : Prop :=
  ∀ (pins : List (Addr × Obj)) (s : Shared) (σ : L2.St) (H0 S H : Hp) (Q : VK), Inv X pins σ H s → StOk X.K H0 S H σ δ →
    (∀ v S' H', Gr S H S' H' → Dp X.K S' v d → Q v H') → wpAny (model X.prog X.w) X.A (eval e X.env) (EP X pins σ Q) X.xe s
def EXo (X : Cx) (e : Expr) (δ : List Slot) (ds : List PyData) : Prop :=
  ∀ (pins : List (Addr × Obj)) (s : Shared) (σ : L2.St) (H0 S H : Hp) (Q : VK), Inv X pins σ H s → StOk X.K H0 S H σ δ →
    (∀ a vs S' H', Gr S H S' H' → S' a = none → H a = none → H' a = some (.lst vs) → DpAll X.K S' vs ds → Q (.ref a) H') → wpAny (model X.prog X.w) X.A (eval e X.env) (EP X pins σ Q) X.xe s
def TX (X : Cx) (c : Expr) (δ : List Slot) (b : Bool) : Prop :=
  ∀ (pins : List (Addr × Obj)) (s : Shared) (σ : L2.St) (H0 S H : Hp) (Q : Bool → Hp → Prop), Inv X pins σ H s → StOk X.K H0 S H σ δ →
    (∀ S' H', Gr S H S' H' → Q b H') → wpAny (model X.prog X.w) X.A (isTrue c X.env (eval c X.env)) (TP X pins σ Q) X.xe s
/-- a test whatever its whole is -/
def WX (X : Cx) (c : Expr) (δ : List Slot) (b : Bool) : Prop :=
  ∀ (whole : Sem Value) (pins : List (Addr × Obj)) (s : Shared) (σ : L2.St) (H0 S H : Hp) (Q : Bool → Hp → Prop), Inv X pins σ H s → StOk X.K H0 S H σ δ →
    (∀ S' H', Gr S H S' H' → Q b H') → wpAny (model X.prog X.w) X.A (isTrue c X.env whole) (TP X pins σ Q) X.xe s
def TXs (X : Cx) (ifs : List Expr) (δ : List Slot) (b : Bool) : Prop :=
  ∀ (pins : List (Addr × Obj)) (s : Shared) (σ : L2.St) (H0 S H : Hp) (Q : Bool → Hp → Prop), Inv X pins σ H s → StOk X.K H0 S H σ δ →
    (∀ S' H', Gr S H S' H' → Q b H') →
    wpAny (model X.prog X.w) X.A (forIn ifs true fun c r => if r = true then do let ok ← isTrue c X.env (eval c X.env); pure (ForInStep.yield ok) else pure (ForInStep.yield r)) (TP X pins σ Q) X.xe s
def AX (X : Cx) (es : List Expr) (δ : List Slot) (ds : List PyData) : Prop :=
  ∀ (pos : Pos) (pins : List (Addr × Obj)) (s : Shared) (σ : L2.St) (H0 S H : Hp) (Q : List V → Hp → Prop), Inv X pins σ H s → StOk X.K H0 S H σ δ →
    (∀ vs S' H', Gr S H S' H' → DpAll X.K S' vs ds → Q vs H') → wpAny (model X.prog X.w) X.A (spliced (backTo pos (starEach es X.env))) (AP X pins σ Q) X.xe s

def cE (X : Cx) (e : Expr) : TE := fun σ H Q => ∃ (δ : List Slot) (d : PyData) (H0 S : Hp), EX X e δ d ∧ StOk X.K H0 S H σ δ ∧ ∀ v S' H', Gr S H S' H' → Dp X.K S' v d → Q v H'
def cO (X : Cx) (e : Expr) : TE := fun σ H Q => ∃ (δ : List Slot) (ds : List PyData) (H0 S : Hp), EXo X e δ ds ∧ StOk X.K H0 S H σ δ ∧ ∀ a vs S' H', Gr S H S' H' → S' a = none → H a = none → H' a = some (.lst vs) → DpAll X.K S' vs ds → Q (.ref a) H'
def cT (X : Cx) (c : Expr) : TT := fun σ H Q => ∃ (δ : List Slot) (b : Bool) (H0 S : Hp), TX X c δ b ∧ StOk X.K H0 S H σ δ ∧ ∀ S' H', Gr S H S' H' → Q b H'
def cW (X : Cx) (c : Expr) : TT := fun σ H Q => ∃ (δ : List Slot) (b : Bool) (H0 S : Hp), WX X c δ b ∧ StOk X.K H0 S H σ δ ∧ ∀ S' H', Gr S H S' H' → Q b H'
def cTs (X : Cx) (ifs : List Expr) : TT := fun σ H Q => ∃ (δ : List Slot) (b : Bool) (H0 S : Hp), TXs X ifs δ b ∧ StOk X.K H0 S H σ δ ∧ ∀ S' H', Gr S H S' H' → Q b H'
def cA (X : Cx) (es : List Expr) : TA := fun σ H Q => ∃ (δ : List Slot) (ds : List PyData) (H0 S : Hp), AX X es δ ds ∧ StOk X.K H0 S H σ δ ∧ ∀ vs S' H', Gr S H S' H' → DpAll X.K S' vs ds → Q vs H'

section
variable {X : Cx} {e a b c : Expr} {es : List Expr} {δ : List Slot} {d da db : PyData} {ds : List PyData} {pos p : Pos}
theorem pe_c : PE X e (cE X e) := ⟨fun pins s σ H Q I ⟨_, _, H0, S, h, so, q⟩ => h pins s σ H0 S H Q I so q⟩
theorem pe_o : PE X e (cO X e) := ⟨fun pins s σ H Q I ⟨_, _, H0, S, h, so, q⟩ => h pins s σ H0 S H Q I so q⟩
theorem pt_c : PT X c (cT X c) := ⟨fun pins s σ H Q I ⟨_, _, H0, S, h, so, q⟩ => h pins s σ H0 S H Q I so q⟩
theorem pw_c : PW X c (cW X c) := ⟨fun wh pins s σ H Q I ⟨_, _, H0, S, h, so, q⟩ => h wh pins s σ H0 S H Q I so q⟩
theorem pts_c {ifs : List Expr} : PTs X ifs (cTs X ifs) := ⟨fun pins s σ H Q I ⟨_, _, H0, S, h, so, q⟩ => h pins s σ H0 S H Q I so q⟩
theorem pa_c : PA X es (cA X es) := ⟨fun pos pins s σ H Q I ⟨_, _, H0, S, h, so, q⟩ => h pos pins s σ H0 S H Q I so q⟩
theorem rd_c (h : EX X e δ d) : RdE X.K (cE X e) δ d := fun _ H0 S _ _ so q => ⟨δ, d, H0, S, h, so, q⟩
theorem rd_o (h : EXo X e δ ds) : RdO X.K (cO X e) δ ds := fun _ H0 S _ _ so q => ⟨δ, ds, H0, S, h, so, q⟩
theorem rd_t {k : Bool} (h : TX X c δ k) : RdT X.K (cT X c) δ k := fun _ H0 S _ _ so q => ⟨δ, k, H0, S, h, so, q⟩
theorem rd_w {k : Bool} (h : WX X c δ k) : RdT X.K (cW X c) δ k := fun _ H0 S _ _ so q => ⟨δ, k, H0, S, h, so, q⟩
theorem rd_ts {ifs : List Expr} {k : Bool} (h : TXs X ifs δ k) : RdT X.K (cTs X ifs) δ k := fun _ H0 S _ _ so q => ⟨δ, k, H0, S, h, so, q⟩
theorem rd_a (h : AX X es δ ds) : RdA X.K (cA X es) δ ds := fun _ H0 S _ _ so q => ⟨δ, ds, H0, S, h, so, q⟩
theorem EX.of {t : TE} (h : PE X e t) (k : RdE X.K t δ d) : EX X e δ d := fun pins s σ H0 S H Q I so q => h.run pins s σ H Q I (k σ H0 S H Q so q)
theorem EXo.of {t : TE} (h : PE X e t) (k : RdO X.K t δ ds) : EXo X e δ ds := fun pins s σ H0 S H Q I so q => h.run pins s σ H Q I (k σ H0 S H Q so q)
theorem TX.of {t : TT} {k : Bool} (h : PT X c t) (r : RdT X.K t δ k) : TX X c δ k := fun pins s σ H0 S H Q I so q => h.run pins s σ H Q I (r σ H0 S H Q so q)
theorem WX.of {t : TT} {k : Bool} (h : PW X c t) (r : RdT X.K t δ k) : WX X c δ k := fun wh pins s σ H0 S H Q I so q => h.run wh pins s σ H Q I (r σ H0 S H Q so q)
theorem TXs.of {ifs : List Expr} {t : TT} {k : Bool} (h : PTs X ifs t) (r : RdT X.K t δ k) : TXs X ifs δ k := fun pins s σ H0 S H Q I so q => h.run pins s σ H Q I (r σ H0 S H Q so q)
theorem AX.of {t : TA} (h : PA X es t) (r : RdA X.K t δ ds) : AX X es δ ds := fun pos pins s σ H0 S H Q I so q => h.run pos pins s σ H Q I (r σ H0 S H Q so q)
theorem WX.tx {k : Bool} (h : WX X c δ k) : TX X c δ k := h _
theorem EX.is {d' : PyData} (h : EX X e δ d) (q : d = d') : EX X e δ d' := q ▸ h
theorem TX.is {k k' : Bool} (h : TX X c δ k) (q : k = k') : TX X c δ k' := q ▸ h
theorem EXo.is {ds' : List PyData} (h : EXo X e δ ds) (q : ds = ds') : EXo X e δ ds' := q ▸ h
/-- a new list taken as data -/
theorem RdO.rd {K : PySem.W.Frag} {t : TE} (h : RdO K t δ ds) : RdE K t δ (.list ds) := fun σ H0 S H Q so q => h σ H0 S H Q so fun p vs S' H' g hs hn hh hd => by
  have g2 : Gr S H (upd S' p (.lst vs)) H' := g.frz hh hs hn
  have ss : Same S' (upd S' p (.lst vs)) := fun b x z => by
    rw [upd_ne (ne_of_none z hs)]
    exact z
  exact q _ _ _ g2 (.lst (SqL.of upd_same) (hd.mono ss))
theorem EXo.ex (h : EXo X e δ ds) : EX X e δ (.list ds) := EX.of pe_o (rd_o h).rd

/-! ### names, constants -/
theorem ex_var (i : Nat) {x : Str} (hd : δ[i]? = some (.d d)) (hN : X.N[i]? = some x := by rfl) (hv : Vis X.env.scope x := by first | exact Or.inl rfl | exact Or.inr (Or.inl rfl) | exact Or.inr (Or.inr rfl)) (hb : (x == ("__debug__" : Str)) = false := by decide)
    (hcd : (x == ("__classdict__" : Str)) = false := by decide) : EX X (.Name x pos) δ d := EX.of (pe_var hN hv hb hcd) fun σ H0 S H Q so q => by
  obtain ⟨v, e1, h1⟩ := so.get hd
  exact ⟨v, e1, q v S H (Gr.refl so.sh) h1⟩
theorem rd_const {K : PySem.W.Frag} {v : V} (h : ∀ S, Dp K S v d) : RdE K (tC v) δ d := fun σ H0 S H Q so q => q v S H (Gr.refl so.sh) (h S)
theorem ex_int {i : Int} {j : Nat} : EX X (.Constant (.int i) j pos) δ (.int i) := EX.of pe_int (rd_const fun _ => .int i)
theorem ex_bool {k : Bool} {j : Nat} : EX X (.Constant (.bool k) j pos) δ (.bool k) := EX.of pe_bl (rd_const fun _ => .bl k)
theorem ex_none {j : Nat} : EX X (.Constant .none j pos) δ .none := EX.of pe_non (rd_const fun _ => .non)
theorem ex_str {x : Str} {j : Nat} : EX X (.Constant (.str x) j pos) δ (.str x) := EX.of pe_str (rd_const fun _ => .str x)
theorem ex_globI {x : Str} {i : Int} {t : Tok} (hg : Gl X x) (hm : X.mg x = some (.int i t)) (hd : (x == ("__debug__" : Str)) = false := by decide) : EX X (.Name x pos) δ (.int i) := EX.of (pe_glob (v := .int i) hg hm ⟨t, rfl⟩ hd) (rd_const fun _ => .int i)

/-! ### operators -/
theorem rd_op {K : PySem.W.Frag} {r : R2} {ta tb : TE} (ha : RdE K ta δ da) (hb : RdE K tb δ db)
    (hr : ∀ (S H : Hp) (x y : V) (Q : VK), Same S H → Dp K S x da → Dp K S y db → (∀ v S' H', Gr S H S' H' → Dp K S' v d → Q v H') → r x y H Q) : RdE K (tOp r ta tb) δ d := fun σ H0 S H Q so q =>
  ha σ H0 S H _ so fun x S1 H1 g1 d1 => hb σ H0 S1 H1 _ (so.grow g1) fun y S2 H2 g2 d2 =>
    hr S2 H2 x y Q g2.sh (d1.mono g2.ss) d2 fun v S' H' g3 d3 => q v S' H' (g1.trans (g2.trans g3)) d3
theorem rd_iop {K : PySem.W.Frag} {C : Int → Int → Prop} {g : Int → Int → Int} {ta tb : TE} {i j : Int} (ha : RdE K ta δ (.int i)) (hb : RdE K tb δ (.int j)) (hc : C i j) : RdE K (tOp (rI C fun i j => .int (g i j)) ta tb) δ (.int (g i j)) :=
  rd_op ha hb fun S H x y Q sh dx dy q => ⟨i, j, dp_int dx, dp_int dy, hc, q _ S H (Gr.refl sh) (.int _)⟩
theorem rd_iop0 {K : PySem.W.Frag} {g : Int → Int → Int} {ta tb : TE} {i j : Int} (ha : RdE K ta δ (.int i)) (hb : RdE K tb δ (.int j)) : RdE K (tOp (rI0 fun i j => .int (g i j)) ta tb) δ (.int (g i j)) :=
  rd_op ha hb fun S H x y Q sh dx dy q => ⟨i, j, dp_int dx, dp_int dy, q _ S H (Gr.refl sh) (.int _)⟩
theorem rd_bop0 {K : PySem.W.Frag} {g : Int → Int → Bool} {ta tb : TE} {i j : Int} (ha : RdE K ta δ (.int i)) (hb : RdE K tb δ (.int j)) : RdE K (tOp (rI0 fun i j => .bl (g i j)) ta tb) δ (.bool (g i j)) :=
  rd_op ha hb fun S H x y Q sh dx dy q => ⟨i, j, dp_int dx, dp_int dy, q _ S H (Gr.refl sh) (.bl _)⟩
variable {i j : Int}
theorem ex_add (ha : EX X a δ (.int i)) (hb : EX X b δ (.int j)) : EX X (.BinOp a .Add b pos) δ (.int (i + j)) := EX.of (pe_op op_add pe_c pe_c) (rd_iop0 (g := fun i j => i + j) (rd_c ha) (rd_c hb))
theorem ex_sub (ha : EX X a δ (.int i)) (hb : EX X b δ (.int j)) : EX X (.BinOp a .Sub b pos) δ (.int (i - j)) := EX.of (pe_op op_sub pe_c pe_c) (rd_iop0 (g := fun i j => i - j) (rd_c ha) (rd_c hb))
theorem ex_mul (ha : EX X a δ (.int i)) (hb : EX X b δ (.int j)) (hc : CMul i j) : EX X (.BinOp a .Mult b pos) δ (.int (i * j)) := EX.of (pe_op op_mul pe_c pe_c) (rd_iop (C := CMul) (g := fun i j => i * j) (rd_c ha) (rd_c hb) hc)
theorem ex_fdiv (ha : EX X a δ (.int i)) (hb : EX X b δ (.int j)) (hc : 0 < j ∧ j < 1073741824) : EX X (.BinOp a .FloorDiv b pos) δ (.int (i / j)) := EX.of (pe_op op_fdiv pe_c pe_c) (rd_iop (C := CDiv) (g := fun i j => i / j) (rd_c ha) (rd_c hb) hc)
theorem ex_mod (ha : EX X a δ (.int i)) (hb : EX X b δ (.int j)) (hc : 0 < j) : EX X (.BinOp a .Mod b pos) δ (.int (i % j)) := EX.of (pe_op op_mod pe_c pe_c) (rd_iop (C := fun _ j => 0 < j) (g := fun i j => i % j) (rd_c ha) (rd_c hb) hc)
theorem ex_pow (ha : EX X a δ (.int i)) (hb : EX X b δ (.int j)) (hc : 0 ≤ j ∧ j ≤ 1000000 ∧ i.natAbs < 2 ^ 64) : EX X (.BinOp a .Pow b pos) δ (.int (i ^ j.toNat)) := EX.of (pe_op op_pow pe_c pe_c) (rd_iop (C := CPow) (g := fun i j => i ^ j.toNat) (rd_c ha) (rd_c hb) hc)
theorem ex_neg (ha : EX X a δ (.int i)) : EX X (.UnaryOp .USub a pos) δ (.int (-i)) := EX.of (pe_un un_neg pe_c) fun σ H0 S H Q so q =>
  rd_c ha σ H0 S H _ so fun x S1 H1 g1 d1 => ⟨i, dp_int d1, q _ S1 H1 g1 (.int _)⟩

/-! ### comparisons -/
theorem scal_int : scal (.int i) (.int j) = true := rfl
theorem ex_lt (ha : EX X a δ (.int i)) (hb : EX X b δ (.int j)) : EX X (.Compare a [.Lt] [b] pos) δ (.bool (decide (i < j))) := EX.of (pe_cmpR op_lt pe_c pe_c (nomark _)) (rd_bop0 (rd_c ha) (rd_c hb))
theorem ex_le (ha : EX X a δ (.int i)) (hb : EX X b δ (.int j)) : EX X (.Compare a [.LtE] [b] pos) δ (.bool (decide (i ≤ j))) := EX.of (pe_cmpR op_le pe_c pe_c (nomark _)) (rd_bop0 (rd_c ha) (rd_c hb))
theorem ex_gt (ha : EX X a δ (.int i)) (hb : EX X b δ (.int j)) : EX X (.Compare a [.Gt] [b] pos) δ (.bool (decide (j < i))) := EX.of (pe_cmpR op_gt pe_c pe_c (nomark _)) (rd_bop0 (g := fun i j => decide (j < i)) (rd_c ha) (rd_c hb))
theorem ex_ge (ha : EX X a δ (.int i)) (hb : EX X b δ (.int j)) : EX X (.Compare a [.GtE] [b] pos) δ (.bool (decide (j ≤ i))) := EX.of (pe_cmpR op_ge pe_c pe_c (nomark _)) (rd_bop0 (g := fun i j => decide (j ≤ i)) (rd_c ha) (rd_c hb))
theorem dec_vint : decide (V.int i = V.int j) = decide (i = j) := by
  by_cases h : i = j
  · subst h
    rw [decide_eq_true rfl, decide_eq_true rfl]
  · rw [decide_eq_false h, decide_eq_false fun z => h (V.int.inj z)]
theorem rd_eqI {K : PySem.W.Frag} {ta tb : TE} (ha : RdE K ta δ (.int i)) (hb : RdE K tb δ (.int j)) : RdE K (tOp rEq ta tb) δ (.bool (decide (i = j))) :=
  rd_op ha hb fun S H x y Q sh dx dy q => by
    rw [dp_int dx, dp_int dy]
    refine ⟨rfl, ?_⟩
    rw [dec_vint]
    exact q _ S H (Gr.refl sh) (.bl _)
theorem rd_neI {K : PySem.W.Frag} {ta tb : TE} (ha : RdE K ta δ (.int i)) (hb : RdE K tb δ (.int j)) : RdE K (tOp rNe ta tb) δ (.bool (!decide (i = j))) :=
  rd_op ha hb fun S H x y Q sh dx dy q => by
    rw [dp_int dx, dp_int dy]
    refine ⟨rfl, ?_⟩
    rw [dec_vint]
    exact q _ S H (Gr.refl sh) (.bl _)
theorem ex_eq (ha : EX X a δ (.int i)) (hb : EX X b δ (.int j)) : EX X (.Compare a [.Eq] [b] pos) δ (.bool (decide (i = j))) := EX.of (pe_cmpR op_eq pe_c pe_c (nomark _)) (rd_eqI (rd_c ha) (rd_c hb))
theorem ex_ne (ha : EX X a δ (.int i)) (hb : EX X b δ (.int j)) : EX X (.Compare a [.NotEq] [b] pos) δ (.bool (!decide (i = j))) := EX.of (pe_cmpR op_ne pe_c pe_c (nomark _)) (rd_neI (rd_c ha) (rd_c hb))
theorem ex_eqS {x y : Str} (ha : EX X a δ (.str x)) (hb : EX X b δ (.str y)) : EX X (.Compare a [.Eq] [b] pos) δ (.bool (decide (x = y))) := EX.of (pe_cmpR op_eq pe_c pe_c (nomark _)) (rd_op (rd_c ha) (rd_c hb) fun S H u v Q sh dx dy q => by
    rw [dp_str dx, dp_str dy]
    refine ⟨rfl, ?_⟩
    have e : decide (V.str x = V.str y) = decide (x = y) := by
      by_cases h : x = y
      · subst h
        rw [decide_eq_true rfl, decide_eq_true rfl]
      · rw [decide_eq_false h, decide_eq_false fun z => h (V.str.inj z)]
    rw [e]
    exact q _ S H (Gr.refl sh) (.bl _))
/-- data against data -/
theorem ex_neD (hu : X.A.units + 64 < cLine) (ha : EX X a δ da) (hb : EX X b δ db) (h1 : SeqAt.shaped da = true) (h2 : SeqAt.shaped db = true) : EX X (.Compare a [.NotEq] [b] pos) δ (.bool (!PyData.eqv da db)) := EX.of (pe_cmpR (op_neD hu) pe_c pe_c (nomark _))
  (rd_op (rd_c ha) (rd_c hb) fun S H x y Q sh dx dy q => ⟨da, db, dx.mono sh, dy.mono sh, h1, h2, q _ S H (Gr.refl sh) (.bl _)⟩)
theorem ex_isN (ha : EX X a δ d) : EX X (.Compare a [.Is] [.Constant .none j.toNat p] pos) δ (.bool (match d with | .none => true | _ => false)) := EX.of (pe_cmp (pc_isN pe_c)) fun σ H0 S H Q so q =>
  rd_c ha σ H0 S H _ so fun x S1 H1 g1 d1 => by
    refine q _ S1 H1 g1 ?_
    cases d1 with
    | non => exact .bl true
    | bl k => exact .bl false
    | int k => exact .bl false
    | str k => exact .bl false
    | lst h1 h2 => exact .bl false
    | tup h1 h2 => exact .bl false
theorem ex_isNn {j : Nat} (ha : EX X a δ .none) : EX X (.Compare a [.Is] [.Constant .none j p] pos) δ (.bool true) := EX.of (pe_cmp (pc_isN pe_c)) fun σ H0 S H Q so q =>
  rd_c ha σ H0 S H _ so fun x S1 H1 g1 d1 => by
    rw [dp_none d1]
    exact q _ S1 H1 g1 (.bl true)
theorem ex_isNot {k l : Bool} (ha : EX X a δ (.bool k)) (hb : EX X b δ (.bool l)) : EX X (.Compare a [.IsNot] [b] pos) δ (.bool (!decide (k = l))) := EX.of (pe_cmpR op_notBl pe_c pe_c (nomark _))
  (rd_op (rd_c ha) (rd_c hb) fun S H x y Q sh dx dy q => ⟨k, l, dp_bool dx, dp_bool dy, q _ S H (Gr.refl sh) (.bl _)⟩)
/-- not in a list of ints -/
theorem inV_ints (i : Int) (ns : List Int) : inV (.int i) (ns.map V.int) = decide (i ∈ ns) := by
  induction ns with
  | nil => rfl
  | cons n r ih =>
    show (eqV (.int n) (.int i) || inV (.int i) (r.map V.int)) = _
    rw [ih]
    by_cases h : i = n
    · subst h
      rw [decide_eq_true (List.mem_cons_self ..)]
      have : eqV (.int i) (.int i) = true := by simp [eqV]
      rw [this]
      rfl
    · have e : eqV (.int n) (.int i) = false := by
        simp [eqV]
        exact fun z => h z.symm
      rw [e, Bool.false_or]
      by_cases g : i ∈ r
      · rw [decide_eq_true g, decide_eq_true (List.mem_cons_of_mem _ g)]
      · rw [decide_eq_false g, decide_eq_false]
        intro z
        rcases List.mem_cons.mp z with z | z
        · exact h z
        · exact g z
theorem flat_ints (ns : List Int) : (ns.map V.int).all flatV = true := by
  induction ns with
  | nil => rfl
  | cons n r ih =>
    rw [List.map_cons, List.all_cons, ih]
    rfl
theorem ex_notInL {ns : List Int} (ha : EX X a δ (.int i)) (hb : EX X b δ (.list (ns.map .int))) (hm : behindInMarks .NotIn b = false := by rfl) : EX X (.Compare a [.NotIn] [b] pos) δ (.bool (!decide (i ∈ ns))) := EX.of (pe_cmpR op_notIn_seq pe_c pe_c hm)
  (rd_op (rd_c ha) (rd_c hb) fun S H x y Q sh dx dy q => by
    obtain ⟨l, xs, rfl, h1, h2⟩ := dp_lst dy
    have e := dps_ints_inv h2
    subst e
    rw [dp_int dx]
    refine ⟨l, _, rfl, Or.inl (Same.sql sh h1), rfl, flat_ints ns, ?_⟩
    show Q (.bl (!inV (.int i) (ns.map V.int))) H
    rw [inV_ints]
    exact q _ S H (Gr.refl sh) (.bl _))
/-- i op j op' k -/
theorem ex_chain {op op' : CmpOp} {g g' : Int → Int → Bool} {k : Int} (ho : OpR X (compareOp op) (rI0 fun i j => .bl (g i j))) (ho' : OpR X (compareOp op') (rI0 fun i j => .bl (g' i j))) (ha : EX X a δ (.int i)) (hb : EX X b δ (.int j)) (hc : EX X c δ (.int k))
    (hm : lastMarks [op, op'] [b, c] = false := by rfl) : EX X (.Compare a [op, op'] [b, c] pos) δ (.bool (g i j && g' j k)) := by
  refine EX.of (pe_chain ho ho' pe_c pe_c pe_c hm) fun σ H0 S H Q so q => ?_
  refine rd_c ha σ H0 S H _ so fun x S1 H1 g1 d1 => rd_c hb σ H0 S1 H1 _ (so.grow g1) fun y S2 H2 g2 d2 => ?_
  refine ⟨i, j, dp_int d1, dp_int d2, _, rfl, ?_⟩
  cases hg : g i j with
  | true =>
    rw [if_pos rfl]
    rw [hg, Bool.true_and] at q
    refine rd_c hc σ H0 S2 H2 _ ((so.grow g1).grow g2) fun z S3 H3 g3 d3 => ⟨j, k, dp_int d2, dp_int d3, ?_⟩
    exact q _ S3 H3 (g1.trans (g2.trans g3)) (.bl _)
  | false =>
    rw [if_neg Bool.false_ne_true]
    rw [hg, Bool.false_and] at q
    exact q _ S2 H2 (g1.trans g2) (.bl _)

/-! ### truth -/
theorem ex_not {k : Bool} (ha : EX X a δ (.bool k)) : EX X (.UnaryOp .Not a pos) δ (.bool (!k)) := EX.of (pe_not pe_c) fun σ H0 S H Q so q =>
  rd_c ha σ H0 S H _ so fun x S1 H1 g1 d1 => ⟨k, dp_bool d1, q _ S1 H1 g1 (.bl _)⟩
theorem ex_one {op : BoolOp} (ha : EX X a δ d) : EX X (.BoolOp op [a] pos) δ d := EX.of (pe_one pe_c) (rd_c ha)
theorem ex_and {k l : Bool} {rest : List Expr} (ha : EX X a δ (.bool k)) (hb : k = true → EX X (.BoolOp .And (b :: rest) pos) δ (.bool l)) : EX X (.BoolOp .And (a :: b :: rest) pos) δ (.bool (k && l)) := EX.of (pe_and pe_c pe_c) fun σ H0 S H Q so q =>
  rd_c ha σ H0 S H _ so fun x S1 H1 g1 d1 => by
    refine ⟨k, dp_bool d1, ?_⟩
    cases k with
    | true =>
      rw [if_pos rfl]
      exact rd_c (hb rfl) σ H0 S1 H1 _ (so.grow g1) fun y S2 H2 g2 d2 => q _ S2 H2 (g1.trans g2) d2
    | false =>
      rw [if_neg Bool.false_ne_true]
      exact q _ S1 H1 g1 (.bl false)
theorem tx_val {k : Bool} (h : EX X a δ (.bool k)) (he : ∀ whole, isTrue a X.env whole = (do let v ← whole; standAt a.pos; holding [v] (truthy v)) := by intro _; rfl) : TX X a δ k := TX.of (pt_val pe_c he) fun σ H0 S H Q so q =>
  rd_c h σ H0 S H _ so fun x S1 H1 g1 d1 => ⟨k, dp_bool d1, q S1 H1 g1⟩
theorem tx_not {k : Bool} (h : TX X a δ k) : TX X (.UnaryOp .Not a pos) δ (!k) := TX.of (pt_not pt_c) fun σ H0 S H Q so q => rd_t h σ H0 S H _ so fun S1 H1 g1 => q S1 H1 g1
theorem wx_and1 {k : Bool} (h : TX X a δ k) : WX X (.BoolOp .And [a] pos) δ k := WX.of (pw_and1 pt_c) (rd_t h)
theorem wx_or1 {k : Bool} (h : TX X a δ k) : WX X (.BoolOp .Or [a] pos) δ k := WX.of (pw_or1 pt_c) (rd_t h)
theorem wx_and {k l : Bool} {rest : List Expr} (ha : TX X a δ k) (hb : k = true → WX X (.BoolOp .And (b :: rest) pos) δ l) : WX X (.BoolOp .And (a :: b :: rest) pos) δ (k && l) := WX.of (pw_and pt_c pw_c) fun σ H0 S H Q so q =>
  rd_t ha σ H0 S H _ so fun S1 H1 g1 => by
    cases k with
    | true =>
      rw [if_pos rfl]
      exact rd_w (hb rfl) σ H0 S1 H1 _ (so.grow g1) fun S2 H2 g2 => q S2 H2 (g1.trans g2)
    | false =>
      rw [if_neg Bool.false_ne_true]
      exact q S1 H1 g1
theorem wx_or {k l : Bool} {rest : List Expr} (ha : TX X a δ k) (hb : k = false → WX X (.BoolOp .Or (b :: rest) pos) δ l) : WX X (.BoolOp .Or (a :: b :: rest) pos) δ (k || l) := WX.of (pw_or pt_c pw_c) fun σ H0 S H Q so q =>
  rd_t ha σ H0 S H _ so fun S1 H1 g1 => by
    cases k with
    | true =>
      rw [if_pos rfl]
      exact q S1 H1 g1
    | false =>
      rw [if_neg Bool.false_ne_true]
      exact rd_w (hb rfl) σ H0 S1 H1 _ (so.grow g1) fun S2 H2 g2 => q S2 H2 (g1.trans g2)
theorem rd_test {K : PySem.W.Frag} {t : TE} {k : Bool} (h : RdE K t δ (.bool k)) : RdT K (tTest t) δ k := fun σ H0 S H Q so q =>
  h σ H0 S H _ so fun x S1 H1 g1 d1 => ⟨k, dp_bool d1, q S1 H1 g1⟩
theorem rd_testB {K : PySem.W.Frag} {t : TE} {k : Bool} (h : RdE K t δ (.bool k)) : RdT K (tB t) δ k := fun σ H0 S H Q so q =>
  h σ H0 S H _ so fun x S1 H1 g1 d1 => ⟨k, dp_bool d1, q S1 H1 g1⟩
/-- a comparison of two as a test -/
theorem tx_lt (ha : EX X a δ (.int i)) (hb : EX X b δ (.int j)) : TX X (.Compare a [.Lt] [b] pos) δ (decide (i < j)) := TX.of (pt_cmpR op_lt pe_c pe_c (nomark _)) (rd_test (rd_bop0 (rd_c ha) (rd_c hb)))
theorem tx_le (ha : EX X a δ (.int i)) (hb : EX X b δ (.int j)) : TX X (.Compare a [.LtE] [b] pos) δ (decide (i ≤ j)) := TX.of (pt_cmpR op_le pe_c pe_c (nomark _)) (rd_test (rd_bop0 (rd_c ha) (rd_c hb)))
theorem tx_gt (ha : EX X a δ (.int i)) (hb : EX X b δ (.int j)) : TX X (.Compare a [.Gt] [b] pos) δ (decide (j < i)) := TX.of (pt_cmpR op_gt pe_c pe_c (nomark _)) (rd_test (rd_bop0 (g := fun i j => decide (j < i)) (rd_c ha) (rd_c hb)))
theorem tx_ge (ha : EX X a δ (.int i)) (hb : EX X b δ (.int j)) : TX X (.Compare a [.GtE] [b] pos) δ (decide (j ≤ i)) := TX.of (pt_cmpR op_ge pe_c pe_c (nomark _)) (rd_test (rd_bop0 (g := fun i j => decide (j ≤ i)) (rd_c ha) (rd_c hb)))
theorem tx_eq (ha : EX X a δ (.int i)) (hb : EX X b δ (.int j)) : TX X (.Compare a [.Eq] [b] pos) δ (decide (i = j)) := TX.of (pt_cmpR op_eq pe_c pe_c (nomark _)) (rd_test (rd_eqI (rd_c ha) (rd_c hb)))
theorem tx_ne (ha : EX X a δ (.int i)) (hb : EX X b δ (.int j)) : TX X (.Compare a [.NotEq] [b] pos) δ (!decide (i = j)) := TX.of (pt_cmpR op_ne pe_c pe_c (nomark _)) (rd_test (rd_neI (rd_c ha) (rd_c hb)))
theorem tx_neD (hu : X.A.units + 64 < cLine) (ha : EX X a δ da) (hb : EX X b δ db) (h1 : SeqAt.shaped da = true) (h2 : SeqAt.shaped db = true) : TX X (.Compare a [.NotEq] [b] pos) δ (!PyData.eqv da db) := TX.of (pt_cmpR (op_neD hu) pe_c pe_c (nomark _))
  (rd_test (rd_op (rd_c ha) (rd_c hb) fun S H x y Q sh dx dy q => ⟨da, db, dx.mono sh, dy.mono sh, h1, h2, q _ S H (Gr.refl sh) (.bl _)⟩))
theorem tx_isNot {k l : Bool} (ha : EX X a δ (.bool k)) (hb : EX X b δ (.bool l)) : TX X (.Compare a [.IsNot] [b] pos) δ (!decide (k = l)) := TX.of (pt_cmpR op_notBl pe_c pe_c (nomark _))
  (rd_test (rd_op (rd_c ha) (rd_c hb) fun S H x y Q sh dx dy q => ⟨k, l, dp_bool dx, dp_bool dy, q _ S H (Gr.refl sh) (.bl _)⟩))
theorem tx_notInL {ns : List Int} (ha : EX X a δ (.int i)) (hb : EX X b δ (.list (ns.map .int))) (hm : behindInMarks .NotIn b = false := by rfl) : TX X (.Compare a [.NotIn] [b] pos) δ (!decide (i ∈ ns)) := TX.of (pt_cmpR op_notIn_seq pe_c pe_c hm)
  (rd_test (rd_op (rd_c ha) (rd_c hb) fun S H x y Q sh dx dy q => by
    obtain ⟨l, xs, rfl, h1, h2⟩ := dp_lst dy
    have e := dps_ints_inv h2
    subst e
    rw [dp_int dx]
    refine ⟨l, _, rfl, Or.inl (Same.sql sh h1), rfl, flat_ints ns, ?_⟩
    show Q (.bl (!inV (.int i) (ns.map V.int))) H
    rw [inV_ints]
    exact q _ S H (Gr.refl sh) (.bl _)))
theorem tx_chain {op op' : CmpOp} {g g' : Int → Int → Bool} {k : Int} (ho : OpR X (compareOp op) (rI0 fun i j => .bl (g i j))) (ho' : OpR X (compareOp op') (rI0 fun i j => .bl (g' i j))) (ha : EX X a δ (.int i)) (hb : EX X b δ (.int j)) (hc : EX X c δ (.int k))
    (hm : lastMarks [op, op'] [b, c] = false := by rfl) : TX X (.Compare a [op, op'] [b, c] pos) δ (g i j && g' j k) := by
  refine TX.of (pt_chain ho ho' pe_c pe_c pe_c hm) (rd_test fun σ H0 S H Q so q => ?_)
  refine rd_c ha σ H0 S H _ so fun x S1 H1 g1 d1 => rd_c hb σ H0 S1 H1 _ (so.grow g1) fun y S2 H2 g2 d2 => ?_
  refine ⟨i, j, dp_int d1, dp_int d2, _, rfl, ?_⟩
  cases hg : g i j with
  | true =>
    rw [if_pos rfl]
    rw [hg, Bool.true_and] at q
    refine rd_c hc σ H0 S2 H2 _ ((so.grow g1).grow g2) fun z S3 H3 g3 d3 => ⟨j, k, dp_int d2, dp_int d3, ?_⟩
    exact q _ S3 H3 (g1.trans (g2.trans g3)) (.bl _)
  | false =>
    rw [if_neg Bool.false_ne_true]
    rw [hg, Bool.false_and] at q
    exact q _ S2 H2 (g1.trans g2) (.bl _)
theorem ex_if {k : Bool} (hc : TX X c δ k) (ha : k = true → EX X a δ d) (hb : k = false → EX X b δ d) : EX X (.IfExp c a b pos) δ d := EX.of (pe_ifExp pt_c pe_c pe_c) fun σ H0 S H Q so q =>
  rd_t hc σ H0 S H _ so fun S1 H1 g1 => by
    cases k with
    | true =>
      rw [if_pos rfl]
      exact rd_c (ha rfl) σ H0 S1 H1 _ (so.grow g1) fun y S2 H2 g2 d2 => q _ S2 H2 (g1.trans g2) d2
    | false =>
      rw [if_neg Bool.false_ne_true]
      exact rd_c (hb rfl) σ H0 S1 H1 _ (so.grow g1) fun y S2 H2 g2 d2 => q _ S2 H2 (g1.trans g2) d2
theorem txs_nil : TXs X [] δ true := TXs.of pts_nil fun σ H0 S H Q so q => q S H (Gr.refl so.sh)
theorem txs_one {k : Bool} (h : TX X c δ k) : TXs X [c] δ k := TXs.of (pts_one pt_c) (rd_t h)

/-! ### argument lists, displays -/
theorem rd_nil {K : PySem.W.Frag} : RdA K tNil δ [] := fun σ H0 S H Q so q => q [] S H (Gr.refl so.sh) .nil
theorem rd_cons {K : PySem.W.Frag} {te : TE} {ta : TA} (h : RdE K te δ d) (hr : RdA K ta δ ds) : RdA K (tCons te ta) δ (d :: ds) := fun σ H0 S H Q so q =>
  h σ H0 S H _ so fun x S1 H1 g1 d1 => hr σ H0 S1 H1 _ (so.grow g1) fun xs S2 H2 g2 d2 => q _ S2 H2 (g1.trans g2) (.cons (d1.mono g2.ss) d2)
theorem ax_nil : AX X [] δ [] := AX.of pa_nil rd_nil
theorem ax_cons (h : EX X e δ d) (hr : AX X es δ ds) (hs : starEach (e :: es) X.env = (false, eval e X.env) :: starEach es X.env := by rfl) : AX X (e :: es) δ (d :: ds) := AX.of (pa_cons pe_c pa_c hs) (rd_cons (rd_c h) (rd_a hr))
theorem ax_starL {xs : List PyData} (h : EX X e δ (.list xs)) (hr : AX X es δ ds) (hs : starEach (.Starred e p :: es) X.env = (true, eval e X.env) :: starEach es X.env := by rfl) : AX X (.Starred e p :: es) δ (xs ++ ds) := AX.of (StX.pa_star pe_c pa_c hs) fun σ H0 S H Q so q =>
  rd_c h σ H0 S H _ so fun x S1 H1 g1 d1 => by
    obtain ⟨l, vs, rfl, h1, h2⟩ := dp_lst d1
    refine ⟨l, vs, rfl, Or.inr (Same.sql g1.sh h1), ?_⟩
    exact rd_a hr σ H0 S1 H1 _ (so.grow g1) fun us S2 H2 g2 d2 => q _ S2 H2 (g1.trans g2) (dps_app (h2.mono g2.ss) d2)
theorem ex_tup {j : Nat} (h : AX X es δ ds) (hz : ds.length ≤ sizeLine) : EX X (.Tuple es j pos) δ (.tuple ds) := EX.of (pe_tup pa_c) fun σ H0 S H Q so q =>
  rd_a h σ H0 S H _ so fun xs S1 H1 g1 d1 => ⟨by rw [dps_len d1]; exact hz, fun p hp => by
    have ss : Same S1 (upd S1 p (.tup xs)) := fun b x z => by
      rw [upd_ne (ne_of_none z (g1.sfree hp))]
      exact z
    exact q _ _ _ (g1.new hp) (.tup (SqT.of upd_same) (d1.mono ss))⟩
theorem exo_lst (h : AX X es δ ds) (hz : ds.length ≤ sizeLine) : EXo X (.List es pos) δ ds := EXo.of (pe_lst pa_c) fun σ H0 S H Q so q =>
  rd_a h σ H0 S H _ so fun xs S1 H1 g1 d1 => ⟨by rw [dps_len d1]; exact hz, fun p hp => q p xs S1 _ (g1.owned hp) (g1.sfree hp) (g1.hfree hp) upd_same d1⟩
/-- two new lists, one behind the other -/
theorem exo_cat {es1 es2 : List PyData} (ha : EXo X a δ es1) (hb : EXo X b δ es2) (hz : es1.length + es2.length ≤ sizeLine) : EXo X (.BinOp a .Add b pos) δ (es1 ++ es2) := EXo.of (pe_op op_cat pe_o pe_o) fun σ H0 S H Q so q =>
  rd_o ha σ H0 S H _ so fun x xs S1 H1 g1 hs1 hn1 hh1 d1 => rd_o hb σ H0 S1 H1 _ (so.grow g1) fun y ys S2 H2 g2 hs2 hn2 hh2 d2 =>
    ⟨x, y, xs, ys, rfl, rfl, g2.hh _ _ hh1, hh2, by rw [dps_len d1, dps_len d2]; exact hz, fun p hp => q p _ S2 _ ((g1.trans g2).owned hp) (g2.sfree hp) ((g1.trans g2).hfree hp) upd_same (dps_app (d1.mono g2.ss) d2)⟩
theorem exo_catOwn {x : Str} {es1 es2 : List PyData} (k : Nat) (hd : δ[k]? = some (.own es1)) (hb : EXo X b δ es2) (hz : es1.length + es2.length ≤ sizeLine) (hN : X.N[k]? = some x := by rfl) (hv : Vis X.env.scope x := by first | exact Or.inl rfl | exact Or.inr (Or.inl rfl) | exact Or.inr (Or.inr rfl)) (hdb : (x == ("__debug__" : Str)) = false := by decide)
    (hcd : (x == ("__classdict__" : Str)) = false := by decide) : EXo X (.BinOp (.Name x p) .Add b pos) δ (es1 ++ es2) := EXo.of (pe_op op_cat (pe_var hN hv hdb hcd) pe_o) fun σ H0 S H Q so q => by
  obtain ⟨o, e1, l, vs, e2, hs, h0, hh, hd⟩ := so.at_ k _ hd
  subst e2
  refine ⟨_, e1, ?_⟩
  exact rd_o hb σ H0 S H _ so fun y ys S2 H2 g2 hs2 hn2 hh2 d2 =>
    ⟨l, y, vs, ys, rfl, rfl, g2.hh _ _ hh, hh2, by rw [dps_len hd, dps_len d2]; exact hz, fun p hp => q p _ S2 _ (g2.owned hp) (g2.sfree hp) (g2.hfree hp) upd_same (dps_app (hd.mono g2.ss) d2)⟩
theorem exo_rep {es1 : List PyData} (ha : EXo X a δ es1) (hb : EX X b δ (.int j)) (hj : 0 ≤ j ∧ j ≤ 1000) (hz : es1.length ≤ 1000) : EXo X (.BinOp a .Mult b pos) δ (List.replicate j.toNat es1).flatten := EXo.of (pe_op op_rep pe_o pe_c) fun σ H0 S H Q so q =>
  rd_o ha σ H0 S H _ so fun x xs S1 H1 g1 hs1 hn1 hh1 d1 => rd_c hb σ H0 S1 H1 _ (so.grow g1) fun y S2 H2 g2 d2 => by
    have hl := dps_len d1
    refine ⟨x, j, xs, rfl, dp_int d2, g2.hh _ _ hh1, by omega, by omega, ?_, fun p hp => ?_⟩
    · have h1 : j.toNat ≤ 1000 := by omega
      have h2 : xs.length ≤ 1000 := by omega
      exact Nat.le_trans (Nat.mul_le_mul h2 h1) (by decide)
    · refine q p _ S2 _ ((g1.trans g2).owned hp) (g2.sfree hp) ((g1.trans g2).hfree hp) upd_same ?_
      have hr : ∀ n, DpAll X.K S2 (List.replicate n xs).flatten (List.replicate n es1).flatten := fun n => by
        induction n with
        | zero => exact .nil
        | succ n ih =>
          rw [List.replicate_succ, List.replicate_succ, List.flatten_cons, List.flatten_cons]
          exact dps_app (d1.mono g2.ss) ih
      exact hr _
end
end DL
set_option Elab.async false
set_option linter.all false
set_option maxRecDepth 100000
set_option maxHeartbeats 4000000
/-! DL3: calls, subscripts, walked things, comprehensions. -/
namespace DL
open PySem PySem.Spec PyProof.Rows L2

section
variable {X : Cx} {e a b c : Expr} {es : List Expr} {δ : List Slot} {d da db : PyData} {ds : List PyData} {pos p : Pos} {i j : Int}
theorem rd_cb {K : PySem.W.Frag} {r : List V → Hp → VK → Prop} {ta : TA} (h : RdA K ta δ ds)
    (hr : ∀ (S H : Hp) (vs : List V) (Q : VK), Same S H → DpAll K S vs ds → (∀ v S' H', Gr S H S' H' → Dp K S' v d → Q v H') → r vs H Q) : RdE K (tCB r ta) δ d := fun σ H0 S H Q so q =>
  h σ H0 S H _ so fun vs S1 H1 g1 d1 => hr S1 H1 vs Q g1.sh d1 fun v S' H' g2 d2 => q v S' H' (g1.trans g2) d2
theorem rd_cbO {K : PySem.W.Frag} {r : List V → Hp → VK → Prop} {ta : TA} {es : List PyData} (h : RdA K ta δ ds)
    (hr : ∀ (S H : Hp) (vs : List V) (Q : VK), Same S H → DpAll K S vs ds → (∀ a vs S' H', Gr S H S' H' → S' a = none → H a = none → H' a = some (.lst vs) → DpAll K S' vs es → Q (.ref a) H') → r vs H Q) : RdO K (tCB r ta) δ es := fun σ H0 S H Q so q =>
  h σ H0 S H _ so fun vs S1 H1 g1 d1 => hr S1 H1 vs Q g1.sh d1 fun v us S' H' g2 hs hn hh d2 => q v us S' H' (g1.trans g2) hs (g1.hfree hn) hh d2
/-- list or tuple data -/
def isSeq (d : PyData) (ds : List PyData) : Prop := d = .list ds ∨ d = .tuple ds
theorem dp_seq {K : PySem.W.Frag} {S : Hp} {v : V} (hs : isSeq d ds) (h : Dp K S v d) : ∃ a xs, v = .ref a ∧ (SqL K S a xs ∨ SqT K S a xs) ∧ DpAll K S xs ds := by
  rcases hs with rfl | rfl
  · obtain ⟨a, xs, e, h1, h2⟩ := dp_lst h
    exact ⟨a, xs, e, Or.inl h1, h2⟩
  · obtain ⟨a, xs, e, h1, h2⟩ := dp_tup h
    exact ⟨a, xs, e, Or.inr h1, h2⟩
theorem Same.sq {K : PySem.W.Frag} {S H : Hp} {l : Addr} {xs : List V} (sh : Same S H) (h : SqL K S l xs ∨ SqT K S l xs) : SqL K H l xs ∨ SqT K H l xs := by
  rcases h with h | h
  · exact Or.inl (Same.sql sh h)
  · exact Or.inr (Same.sqt sh h)

/-! ### built-in functions -/
theorem ex_len (ha : EX X a δ d) (hs : isSeq d ds) (hm : X.mg "len" = none) (hg : Gl X "len" := by rfl) (h1 : starEach [a] X.env = (false, eval a X.env) :: starEach [] X.env := by rfl) (hpl : (backTo pos (starEach [] X.env)).any (·.1) = false := by rfl) :
    EX X (.Call (.Name "len" p) [a] [] pos) δ (.int (ds.length : Int)) := EX.of (pe_callB call_len_seq hg hm PySem.boot_len (pa_cons pe_c pa_nil h1) (by decide) (by decide) h1 hpl)
  (rd_cb (rd_cons (rd_c ha) rd_nil) fun S H vs Q sh dv q => by
    obtain ⟨v, rfl, dw⟩ := dps1 dv
    obtain ⟨l, xs, rfl, h2, h3⟩ := dp_seq hs dw
    refine ⟨l, xs, rfl, Same.sq sh h2, ?_⟩
    rw [dps_len h3]
    exact q _ S H (Gr.refl sh) (.int _))
theorem ex_lenOwn {x : Str} (k : Nat) (hd : δ[k]? = some (.own ds)) (hm : X.mg "len" = none) (hN : X.N[k]? = some x := by rfl) (hv : Vis X.env.scope x := by first | exact Or.inl rfl | exact Or.inr (Or.inl rfl) | exact Or.inr (Or.inr rfl)) (hdb : (x == ("__debug__" : Str)) = false := by decide)
    (hcd : (x == ("__classdict__" : Str)) = false := by decide) (hg : Gl X "len" := by rfl) : EX X (.Call (.Name "len" p) [.Name x pos] [] pos) δ (.int (ds.length : Int)) :=
  EX.of (pe_callB call_len_seq hg hm PySem.boot_len (pa_cons (pe_var hN hv hdb hcd) pa_nil)) fun σ H0 S H Q so q => by
    obtain ⟨o, e1, l, vs, e2, hs, h0, hh, hd⟩ := so.at_ k _ hd
    subst e2
    refine ⟨_, e1, l, vs, rfl, Or.inl (SqL.of hh), ?_⟩
    rw [dps_len hd]
    exact q _ S H (Gr.refl so.sh) (.int _)
theorem ex_intOf (ha : EX X a δ (.int i)) (hm : X.mg "int" = none) (hg : Gl X "int" := by rfl) (h1 : starEach [a] X.env = (false, eval a X.env) :: starEach [] X.env := by rfl) (hpl : (backTo pos (starEach [] X.env)).any (·.1) = false := by rfl) :
    EX X (.Call (.Name "int" p) [a] [] pos) δ (.int i) := EX.of (pe_callTy call_int1 hg hm PyProof.Rows.boot_int (pa_cons pe_c pa_nil h1) (by decide) (by decide) h1 hpl)
  (rd_cb (rd_cons (rd_c ha) rd_nil) fun S H vs Q sh dv q => by
    obtain ⟨v, rfl, dw⟩ := dps1 dv
    rw [dp_int dw]
    exact Or.inl ⟨i, rfl, q _ S H (Gr.refl sh) (.int _)⟩)
theorem ex_tupleOf (ha : EX X a δ d) (hs : isSeq d ds) (hm : X.mg "tuple" = none) (hg : Gl X "tuple" := by rfl) (h1 : starEach [a] X.env = (false, eval a X.env) :: starEach [] X.env := by rfl) (hpl : (backTo pos (starEach [] X.env)).any (·.1) = false := by rfl) :
    EX X (.Call (.Name "tuple" p) [a] [] pos) δ (.tuple ds) := EX.of (pe_callTy call_tuple_of hg hm PyProof.Rows.boot_tuple (pa_cons pe_c pa_nil h1) (by decide) (by decide) h1 hpl)
  (rd_cb (rd_cons (rd_c ha) rd_nil) fun S H vs Q sh dv q => by
    obtain ⟨v, rfl, dw⟩ := dps1 dv
    rcases hs with rfl | rfl
    · obtain ⟨l, xs, rfl, h2, h3⟩ := dp_lst dw
      refine ⟨l, xs, rfl, Or.inl ⟨Same.sql sh h2, fun t ht => ?_⟩⟩
      have ss : Same S (upd S t (.tup xs)) := fun b x z => by
        rw [upd_ne (ne_of_none z (sh.free ht))]
        exact z
      exact q _ _ _ ((Gr.refl sh).new ht) (.tup (SqT.of upd_same) (h3.mono ss))
    · obtain ⟨l, xs, rfl, h2, h3⟩ := dp_tup dw
      exact ⟨l, xs, rfl, Or.inr ⟨Same.sqt sh h2, q _ S H (Gr.refl sh) dw⟩⟩)
theorem exo_listOf (ha : EX X a δ d) (hs : isSeq d ds) (hm : X.mg "list" = none) (hg : Gl X "list" := by rfl) (h1 : starEach [a] X.env = (false, eval a X.env) :: starEach [] X.env := by rfl) (hpl : (backTo pos (starEach [] X.env)).any (·.1) = false := by rfl) :
    EXo X (.Call (.Name "list" p) [a] [] pos) δ ds := EXo.of (pe_callTy call_list_of hg hm PyProof.Rows.boot_list (pa_cons pe_c pa_nil h1) (by decide) (by decide) h1 hpl)
  (rd_cbO (rd_cons (rd_c ha) rd_nil) fun S H vs Q sh dv q => by
    obtain ⟨v, rfl, dw⟩ := dps1 dv
    obtain ⟨l, xs, rfl, h2, h3⟩ := dp_seq hs dw
    exact ⟨l, xs, rfl, Same.sq sh h2, fun t ht => q t xs S _ ((Gr.refl sh).owned ht) (sh.free ht) ht upd_same h3⟩)
theorem dps_bools_inv {K : PySem.W.Frag} {S : Hp} : ∀ {bs : List Bool} {vs : List V}, DpAll K S vs (bs.map PyData.bool) → vs = bs.map V.bl
  | [], _, h => by cases h; rfl
  | n :: r, _, h => by
    cases h with
    | cons h t =>
      cases h
      rw [dps_bools_inv t]
      rfl
theorem ex_all {bs : List Bool} (hc : X.calm = true) (ha : EX X a δ (.list (bs.map .bool))) (hm : X.mg "all" = none) (hg : Gl X "all" := by rfl) (h1 : starEach [a] X.env = (false, eval a X.env) :: starEach [] X.env := by rfl) (hpl : (backTo pos (starEach [] X.env)).any (·.1) = false := by rfl) :
    EX X (.Call (.Name "all" p) [a] [] pos) δ (.bool (bs.all id)) := EX.of (pe_callB (cr_all hc) hg hm (by decide +kernel) (pa_cons pe_c pa_nil h1) (by decide) (by decide) h1 hpl)
  (rd_cb (rd_cons (rd_c ha) rd_nil) fun S H vs Q sh dv q => by
    obtain ⟨v, rfl, dw⟩ := dps1 dv
    obtain ⟨l, xs, rfl, h2, h3⟩ := dp_lst dw
    have e := dps_bools_inv h3
    subst e
    exact ⟨l, bs, rfl, Same.sql sh h2, q _ S H (Gr.refl sh) (.bl _)⟩)
theorem ex_any {bs : List Bool} (hc : X.calm = true) (ha : EX X a δ (.list (bs.map .bool))) (hm : X.mg "any" = none) (hg : Gl X "any" := by rfl) (h1 : starEach [a] X.env = (false, eval a X.env) :: starEach [] X.env := by rfl) (hpl : (backTo pos (starEach [] X.env)).any (·.1) = false := by rfl) :
    EX X (.Call (.Name "any" p) [a] [] pos) δ (.bool (bs.any id)) := EX.of (pe_callB (cr_any hc) hg hm (by decide +kernel) (pa_cons pe_c pa_nil h1) (by decide) (by decide) h1 hpl)
  (rd_cb (rd_cons (rd_c ha) rd_nil) fun S H vs Q sh dv q => by
    obtain ⟨v, rfl, dw⟩ := dps1 dv
    obtain ⟨l, xs, rfl, h2, h3⟩ := dp_lst dw
    have e := dps_bools_inv h3
    subst e
    exact ⟨l, bs, rfl, Same.sql sh h2, q _ S H (Gr.refl sh) (.bl _)⟩)
theorem ex_sum {ns : List Int} (hc : X.calm = true) (ha : EX X a δ (.list (ns.map .int))) (hm : X.mg "sum" = none) (hg : Gl X "sum" := by rfl) (h1 : starEach [a] X.env = (false, eval a X.env) :: starEach [] X.env := by rfl) (hpl : (backTo pos (starEach [] X.env)).any (·.1) = false := by rfl) :
    EX X (.Call (.Name "sum" p) [a] [] pos) δ (.int ns.sum) := EX.of (pe_callB (cr_sum hc) hg hm (by decide +kernel) (pa_cons pe_c pa_nil h1) (by decide) (by decide) h1 hpl)
  (rd_cb (rd_cons (rd_c ha) rd_nil) fun S H vs Q sh dv q => by
    obtain ⟨v, rfl, dw⟩ := dps1 dv
    obtain ⟨l, xs, rfl, h2, h3⟩ := dp_lst dw
    have e := dps_ints_inv h3
    subst e
    exact ⟨l, ns, rfl, Same.sql sh h2, q _ S H (Gr.refl sh) (.int _)⟩)
/-- the built-in type of data -/
def tyN : PyData → String
  | .none => "NoneType"
  | .bool _ => "bool"
  | .int _ => "int"
  | .str _ => "str"
  | .list _ => "list"
  | .tuple _ => "tuple"
  | .dict _ => "dict"
theorem tyx_of {K : PySem.W.Frag} {S H : Hp} {v : V} (sh : Same S H) (h : Dp K S v d) : TyX K H v (.type (tyN d)) := by
  cases h with
  | non => exact .base .non
  | bl k => exact .base (.bl k)
  | int k => exact .base (.int k)
  | str k => exact .base (.str k)
  | lst h1 h2 =>
    rcases Same.sql sh h1 with (h | ⟨o, h⟩) | ⟨o, its, n, hk, hc, _⟩
    · exact .base (.lst h)
    · exact .base (.frz h)
    · exact .kList hk hc
  | tup h1 h2 =>
    rcases Same.sqt sh h1 with (h | ⟨o, h⟩) | ⟨o, its, n, hk, hc, _⟩
    · exact .base (.tup h)
    · exact .fTuple h
    · exact .kTuple hk hc
theorem ex_isi {T : Str} {tn : String} {k : Bool} (ha : EX X a δ d) (hk : kitB (tyN d) tn = some k) (hm : X.mg "isinstance" = none) (hmT : X.mg T = none) (hT : bootBuiltins T = some (.type tn)) (hg : Gl X "isinstance" := by rfl) (hgT : Gl X T := by rfl)
    (hnT : T ≠ "__name__" := by decide) (hdT : (T == ("__debug__" : Str)) = false := by decide)
    (h1 : starEach [a, .Name T pos] X.env = (false, eval a X.env) :: starEach [.Name T pos] X.env := by rfl) {q2 : Pos} (hpl : (backTo q2 (starEach [.Name T pos] X.env)).any (·.1) = false := by rfl) :
    EX X (.Call (.Name "isinstance" p) [a, .Name T pos] [] q2) δ (.bool k) :=
  EX.of (pe_callB call_isi hg hm (by decide +kernel) (pa_cons pe_c (pa_cons (pe_bltn (v := .ty tn) hgT hmT hT rfl hnT hdT) pa_nil) h1) (by decide) (by decide) h1 hpl) fun σ H0 S H Q so q =>
    rd_c ha σ H0 S H _ so fun x S1 H1 g1 d1 => ⟨x, .ty tn, .type (tyN d), .type tn, k, rfl, .ty tn, tyx_of g1.sh d1, kit_ty hk, q _ S1 H1 g1 (.bl _)⟩
/-- repr of data, where no repr is running -/
def rRepr (K : PySem.W.Frag) : List V → Hp → VK → Prop := fun xs H Q => ∃ x d, xs = [x] ∧ Dp K H x d ∧ (∃ ds, isSeq d ds) ∧ d.showable = true ∧ d.hasDict = false ∧ d.shown.length ≤ sizeLine ∧ d.depth ≤ 16 ∧ Q (.str d.shown) H
theorem call_reprD (hg : X.A.guards = some []) (hu : X.A.units + 64 < cLine) : CallR X (.builtin "repr") (rRepr X.K) := by
  intro pins s σ H xs us Q I r h
  obtain ⟨x, d, rfl, hd, hs, h1, h2, h3, h4, q⟩ := h
  obtain ⟨u, rfl, r1⟩ := vals1 r
  obtain ⟨as, rr⟩ := Dp.reads I d x u hd r1
  have key : ∀ {ad : Addr}, u = .ref ad → wpAny (model X.prog X.w) X.A (call (.builtin "repr") [u]) (EP X pins σ Q) X.xe s := fun {ad} e => by
    subst e
    exact repr_of_reads' rr h1 (PyData.noDict_hsm h2) hg (by omega) (fun _ _ z => z) (fun h' k tk hk => ⟨.str _, H, I.kept hk, ⟨_, rfl⟩, q⟩) h3
  obtain ⟨ds, hs⟩ := hs
  obtain ⟨l, zs, e, _⟩ := dp_seq hs hd
  subst e
  exact key (show u = Value.ref l from r1)
theorem ex_repr (hgd : X.A.guards = some []) (hu : X.A.units + 64 < cLine) (ha : EX X a δ d) (hs : isSeq d ds) (h2 : d.showable = true) (h3 : d.hasDict = false) (h4 : d.shown.length ≤ sizeLine) (h5 : d.depth ≤ 16) (hm : X.mg "repr" = none) (hg : Gl X "repr" := by rfl)
    (h1 : starEach [a] X.env = (false, eval a X.env) :: starEach [] X.env := by rfl) (hpl : (backTo pos (starEach [] X.env)).any (·.1) = false := by rfl) : EX X (.Call (.Name "repr" p) [a] [] pos) δ (.str d.shown) :=
  EX.of (pe_callB (call_reprD hgd hu) hg hm (by decide +kernel) (pa_cons pe_c pa_nil h1) (by decide) (by decide) h1 hpl)
  (rd_cb (rd_cons (rd_c ha) rd_nil) fun S H vs Q sh dv q => by
    obtain ⟨v, rfl, dw⟩ := dps1 dv
    exact ⟨v, d, rfl, dw.mono sh, ⟨ds, hs⟩, h2, h3, h4, h5, q _ S H (Gr.refl sh) (.str _)⟩)

/-! ### subscripts -/
theorem ex_ix {k : Nat} (ha : EX X a δ d) (hs : isSeq d ds) (hb : EX X b δ (.int (k : Int))) (hk : ds[k]? = some da) (hp : PlainIx b) : EX X (.Subscript a b pos) δ da := by
  rcases hs with rfl | rfl
  · refine EX.of (pe_ix ix_list pe_c pe_c hp) (rd_op (rd_c ha) (rd_c hb) fun S H x y Q sh dx dy q => ?_)
    obtain ⟨l, xs, rfl, h2, h3⟩ := dp_lst dx
    obtain ⟨v, hv, dv⟩ := dps_getD h3 hk
    exact ⟨l, xs, k, v, rfl, dp_int dy, Same.sql sh h2, atI_nat hv, q _ S H (Gr.refl sh) dv⟩
  · refine EX.of (pe_ix ix_tup pe_c pe_c hp) (rd_op (rd_c ha) (rd_c hb) fun S H x y Q sh dx dy q => ?_)
    obtain ⟨l, xs, rfl, h2, h3⟩ := dp_tup dx
    obtain ⟨v, hv, dv⟩ := dps_getD h3 hk
    exact ⟨l, xs, k, v, rfl, dp_int dy, Same.sqt sh h2, atI_nat hv, q _ S H (Gr.refl sh) dv⟩
/-- a[:k], a[k:] -/
theorem cutV_hi (xs : List V) (k : Nat) : cutV xs none (some (k : Int)) = xs.take k := by
  unfold cutV
  rw [HT.sIx_nat, HT.sIx_none, List.drop_zero, Nat.sub_zero]
  by_cases h : k ≤ xs.length
  · rw [Nat.min_eq_left h]
  · rw [Nat.min_eq_right (by omega), List.take_length, List.take_of_length_le (by omega)]
theorem cutV_lo (xs : List V) (k : Nat) : cutV xs (some (k : Int)) none = xs.drop k := by
  unfold cutV
  rw [HT.sIx_nat, HT.sIx_none]
  by_cases h : k ≤ xs.length
  · rw [Nat.min_eq_left h, List.take_of_length_le (by rw [List.length_drop]; exact Nat.le_refl _)]
  · rw [Nat.min_eq_right (by omega), Nat.sub_self, List.take_zero, List.drop_eq_nil_of_le (by omega)]
theorem exo_sliceHi {k : Nat} {p2 : Pos} (ha : EX X a δ (.list ds)) (hb : EX X b δ (.int (k : Int))) : EXo X (.Subscript a (.Slice none (some b) none p2) pos) δ (ds.take k) :=
  EXo.of (pe_slice sl_list pe_c po_none (po_some pe_c)) fun σ H0 S H Q so q =>
    rd_c ha σ H0 S H _ so fun x S1 H1 g1 d1 => rd_c hb σ H0 S1 H1 _ (so.grow g1) fun y S2 H2 g2 d2 => by
      obtain ⟨l, xs, rfl, h2, h3⟩ := dp_lst d1
      refine ⟨k, dp_int d2, l, xs, rfl, Same.sql g2.sh (Same.sql g2.ss h2), fun t ht => ?_⟩
      refine q t _ S2 _ ((g1.trans g2).owned ht) (g2.sfree ht) ((g1.trans g2).hfree ht) upd_same ?_
      rw [cutV_hi]
      exact dps_take k (h3.mono g2.ss)
theorem ex_sliceHiT {k : Nat} {p2 : Pos} (ha : EX X a δ (.tuple ds)) (hb : EX X b δ (.int (k : Int))) : EX X (.Subscript a (.Slice none (some b) none p2) pos) δ (.tuple (ds.take k)) :=
  EX.of (pe_slice sl_tupA pe_c po_none (po_some pe_c)) fun σ H0 S H Q so q =>
    rd_c ha σ H0 S H _ so fun x S1 H1 g1 d1 => rd_c hb σ H0 S1 H1 _ (so.grow g1) fun y S2 H2 g2 d2 => by
      obtain ⟨l, xs, rfl, h2, h3⟩ := dp_tup d1
      have hl := dps_len h3
      refine ⟨k, dp_int d2, l, xs, rfl, Same.sqt g2.sh (Same.sqt g2.ss h2), fun hw => ?_, fun _ t ht => ?_⟩
      · have e2 := hw.2
        rw [HT.sIx_nat] at e2
        refine q _ S2 H2 (g1.trans g2) ?_
        rw [List.take_of_length_le (by omega)]
        exact d1.mono g2.ss
      · have ss : Same S2 (upd S2 t (.tup (xs.take k))) := fun b x z => by
          rw [upd_ne (ne_of_none z (g2.sfree ht))]
          exact z
        rw [cutV_hi]
        exact q _ _ _ ((g1.trans g2).new ht) (.tup (SqT.of upd_same) ((dps_take k (h3.mono g2.ss)).mono ss))
theorem ex_sliceLoT {k : Nat} {p2 : Pos} (ha : EX X a δ (.tuple ds)) (hb : EX X b δ (.int (k : Int))) : EX X (.Subscript a (.Slice (some b) none none p2) pos) δ (.tuple (ds.drop k)) :=
  EX.of (pe_slice sl_tupA pe_c (po_some pe_c) po_none) fun σ H0 S H Q so q =>
    rd_c ha σ H0 S H _ so fun x S1 H1 g1 d1 => rd_c hb σ H0 S1 H1 _ (so.grow g1) fun y S2 H2 g2 d2 => by
      obtain ⟨l, xs, rfl, h2, h3⟩ := dp_tup d1
      have hl := dps_len h3
      refine ⟨k, dp_int d2, l, xs, rfl, Same.sqt g2.sh (Same.sqt g2.ss h2), fun hw => ?_, fun _ t ht => ?_⟩
      · have e1 := hw.1
        rw [HT.sIx_nat] at e1
        refine q _ S2 H2 (g1.trans g2) ?_
        have : ds.drop k = ds := by
          by_cases hk : k = 0
          · rw [hk, List.drop_zero]
          · have : ds = [] := List.eq_nil_of_length_eq_zero (by omega)
            rw [this, List.drop_nil]
        rw [this]
        exact d1.mono g2.ss
      · have ss : Same S2 (upd S2 t (.tup (xs.drop k))) := fun b x z => by
          rw [upd_ne (ne_of_none z (g2.sfree ht))]
          exact z
        rw [cutV_lo]
        exact q _ _ _ ((g1.trans g2).new ht) (.tup (SqT.of upd_same) ((dps_drop k (h3.mono g2.ss)).mono ss))
end
end DL
set_option Elab.async false
set_option linter.all false
set_option maxRecDepth 100000
set_option maxHeartbeats 4000000
/-! DL4: walked things, targets, comprehensions, statements, calls of the text's defs. -/
namespace DL
open PySem PySem.Spec PyProof.Rows L2

/-! ### walked things -/
structure WalkD (K : PySem.W.Frag) (J : It) (S1 : Hp) (items : List PyData) : Prop where
  go : ∀ (i : Nat) (S' H' : Hp), Same S1 S' → Same S' H' → i < items.length → J.go i H'
  stop : ∀ (S' H' : Hp), Same S1 S' → Same S' H' → J.stop items.length H'
  yld : ∀ (i : Nat) (S' H' : Hp) (x : V) (H'' : Hp), Same S1 S' → Same S' H' → i < items.length → J.yld i H' x H'' → ∃ S'' d, Gr S' H' S'' H'' ∧ items[i]? = some d ∧ Dp K S'' x d
def IX (X : Cx) (tg iter : Expr) (δ : List Slot) (items : List PyData) : Prop :=
  ∀ (pins : List (Addr × Obj)) (s : Shared) (σ : L2.St) (H0 S H : Hp) (R : It → Hp → Prop), Inv X pins σ H s → StOk X.K H0 S H σ δ →
    (∀ J S1 H1, Gr S H S1 H1 → WalkD X.K J S1 items → R J H1) →
    wpAny (model X.prog X.w) X.A (eval iter X.env) (fun v s1 => wpAny (model X.prog X.w) X.A (pyIter v) (PIE X pins σ tg R) X.xe s1) X.xe s
def RdI (K : PySem.W.Frag) (wi : TI) (δ : List Slot) (items : List PyData) : Prop :=
  ∀ (σ : L2.St) (H0 S H : Hp) (R : It → Hp → Prop), StOk K H0 S H σ δ → (∀ J S1 H1, Gr S H S1 H1 → WalkD K J S1 items → R J H1) → wi σ H R
def cI (X : Cx) (tg iter : Expr) : TI := fun σ H R => ∃ (δ : List Slot) (items : List PyData) (H0 S : Hp), IX X tg iter δ items ∧ StOk X.K H0 S H σ δ ∧ ∀ J S1 H1, Gr S H S1 H1 → WalkD X.K J S1 items → R J H1
section
variable {X : Cx} {tg iter a b : Expr} {δ : List Slot} {items ds : List PyData} {pos p : Pos} {i j : Int}
theorem pi_c : PI X tg iter (cI X tg iter) := ⟨fun pins s σ H R I ⟨_, _, H0, S, h, so, q⟩ => h pins s σ H0 S H R I so q⟩
theorem IX.of {wi : TI} (h : PI X tg iter wi) (r : RdI X.K wi δ items) : IX X tg iter δ items := fun pins s σ H0 S H R I so q => h.run pins s σ H R I (r σ H0 S H R so q)
theorem rd_ci (h : IX X tg iter δ items) : RdI X.K (cI X tg iter) δ items := fun _ H0 S _ _ so q => ⟨δ, items, H0, S, h, so, q⟩
theorem walkd_list {K : PySem.W.Frag} {l : Addr} {xs : List V} {S1 : Hp} (h : SqL K S1 l xs) (hd : DpAll K S1 xs ds) : WalkD K (Itl K l) S1 ds where
  go := fun i S' H' s1 s2 hi => by
    have hl := dps_len hd
    exact ⟨xs, xs[i]'(by omega), Same.sql s2 (Same.sql s1 h), by simp⟩
  stop := fun S' H' s1 s2 => ⟨xs, Same.sql s2 (Same.sql s1 h), by rw [dps_len hd]; exact Nat.le_refl _⟩
  yld := fun i S' H' x H'' s1 s2 hi y => by
    obtain ⟨e, y⟩ := y
    subst e
    obtain ⟨d, h1, h2⟩ := dps_get hd (y xs (Same.sql s2 (Same.sql s1 h)))
    exact ⟨S', d, Gr.refl s2, h1, h2.mono s1⟩
theorem walkd_tup {K : PySem.W.Frag} {l : Addr} {xs : List V} {S1 : Hp} (h : SqT K S1 l xs) (hd : DpAll K S1 xs ds) : WalkD K (Itt K l) S1 ds where
  go := fun i S' H' s1 s2 hi => by
    have hl := dps_len hd
    exact ⟨xs, xs[i]'(by omega), Same.sqt s2 (Same.sqt s1 h), by simp⟩
  stop := fun S' H' s1 s2 => ⟨xs, Same.sqt s2 (Same.sqt s1 h), by rw [dps_len hd]; exact Nat.le_refl _⟩
  yld := fun i S' H' x H'' s1 s2 hi y => by
    obtain ⟨e, y⟩ := y
    subst e
    obtain ⟨d, h1, h2⟩ := dps_get hd (y xs (Same.sqt s2 (Same.sqt s1 h)))
    exact ⟨S', d, Gr.refl s2, h1, h2.mono s1⟩
theorem ix_seq {d : PyData} (ha : EX X a δ d) (hs : isSeq d ds) : IX X tg a δ ds := by
  rcases hs with rfl | rfl
  · exact IX.of (pi_list pe_c) fun σ H0 S H R so q => rd_c ha σ H0 S H _ so fun x S1 H1 g1 d1 => by
      obtain ⟨l, xs, rfl, h2, h3⟩ := dp_lst d1
      exact ⟨l, rfl, ⟨xs, Same.sql g1.sh h2⟩, q _ S1 H1 g1 (walkd_list h2 h3)⟩
  · exact IX.of (pi_tup pe_c) fun σ H0 S H R so q => rd_c ha σ H0 S H _ so fun x S1 H1 g1 d1 => by
      obtain ⟨l, xs, rfl, h2, h3⟩ := dp_tup d1
      exact ⟨l, rfl, ⟨xs, Same.sqt g1.sh h2⟩, q _ S1 H1 g1 (walkd_tup h2 h3)⟩
/-- lo, lo + 1, .. -/
def rangeD (lo : Int) (n : Nat) : List PyData := (List.range n).map fun (k : Nat) => PyData.int (lo + (k : Int))
theorem rangeD_len (lo : Int) (n : Nat) : (rangeD lo n).length = n := by simp [rangeD]
theorem walkd_range {K : PySem.W.Frag} {lo : Int} {n : Nat} {S1 : Hp} : WalkD K (Itr lo n) S1 (rangeD lo n) where
  go := fun i S' H' _ _ hi => by
    rw [rangeD_len] at hi
    exact hi
  stop := fun S' H' _ _ => by
    rw [rangeD_len]
    exact Nat.le_refl _
  yld := fun i S' H' x H'' s1 s2 hi y => by
    obtain ⟨e, y⟩ := y
    subst e y
    rw [rangeD_len] at hi
    exact ⟨S', _, Gr.refl s2, by simp [rangeD, hi], .int _⟩
theorem ix_range1 {n : Nat} (ha : EX X a δ (.int (n : Int))) (hn : n < 2 ^ 30) (hm : X.mg "range" = none) (hg : Gl X "range" := by rfl) (hs : starEach [a] X.env = [(false, eval a X.env)] := by rfl) : IX X tg (.Call (.Name "range" p) [a] [] pos) δ (rangeD 0 n) :=
  IX.of (pi_range1 hg hm (pa_cons pe_c pa_nil hs) hs) fun σ H0 S H R so q => rd_cons (rd_c ha) rd_nil σ H0 S H _ so fun vs S1 H1 g1 d1 => by
    obtain ⟨v, rfl, dw⟩ := dps1 d1
    refine ⟨n, by rw [dp_int dw], by omega, by omega, ?_⟩
    rw [Int.toNat_natCast]
    exact q _ S1 H1 g1 walkd_range
theorem ix_range1I {n : Int} (ha : EX X a δ (.int n)) (h0 : 0 ≤ n) (hn : n < 2 ^ 30) (hm : X.mg "range" = none) (hg : Gl X "range" := by rfl) (hs : starEach [a] X.env = [(false, eval a X.env)] := by rfl) : IX X tg (.Call (.Name "range" p) [a] [] pos) δ (rangeD 0 n.toNat) :=
  ix_range1 (n := n.toNat) (ha.is (by rw [Int.toNat_of_nonneg h0])) (by omega) hm hg hs
theorem ix_range2 {m : Int} {n : Nat} (ha : EX X a δ (.int m)) (hb : EX X b δ (.int (m + (n : Int)))) (hn : 0 ≤ m ∧ m < 2 ^ 30 ∧ n < 2 ^ 30) (hm : X.mg "range" = none) (hg : Gl X "range" := by rfl) (hs : starEach [a, b] X.env = [(false, eval a X.env), (false, eval b X.env)] := by rfl)
    (hs2 : starEach [b] X.env = [(false, eval b X.env)] := by rfl) : IX X tg (.Call (.Name "range" p) [a, b] [] pos) δ (rangeD m n) :=
  IX.of (pi_range2 hg hm (pa_cons pe_c (pa_cons pe_c pa_nil hs2) (by rw [hs, hs2])) hs hs2) fun σ H0 S H R so q => rd_cons (rd_c ha) (rd_cons (rd_c hb) rd_nil) σ H0 S H _ so fun vs S1 H1 g1 d1 => by
    obtain ⟨v, u, rfl, dv, du⟩ := dps2 d1
    refine ⟨m, m + (n : Int), by rw [dp_int dv, dp_int du], ⟨by omega, by omega, by omega, by omega⟩, ?_⟩
    have e : (m + (n : Int) - m).toNat = n := by omega
    rw [e]
    exact q _ S1 H1 g1 walkd_range
end

/-! ### targets -/
inductive Tg where
  | nm (j : Nat)
  | tp (i j : Nat)
def Tg.g (K : PySem.W.Frag) : Tg → TG
  | .nm j => gName j
  | .tp i j => gTup K 2 (gCons (gName i) (gCons (gName j) gNil))
def Tg.ok : Tg → PyData → List Slot → List Slot → Prop
  | .nm j, x, δ, δ' => δ' = δ.set j (.d x)
  | .tp i j, x, δ, δ' => ∃ a b, x = .tuple [a, b] ∧ δ' = (δ.set i (.d a)).set j (.d b)
def Tg.js : Tg → List Nat
  | .nm j => [j]
  | .tp i j => [i, j]
section
variable {K : PySem.W.Frag} {H0 S H : Hp} {σ : L2.St} {δ δ' : List Slot} {x : PyData} {v : V}
/-- what a target's store does: the slots, which of them -/
theorem Tg.run {t : Tg} (hk : t.ok x δ δ') (so : StOk K H0 S H σ δ) (dv : Dp K S v x) (Q : L2.St → Hp → Prop)
    (q : ∀ σ' : L2.St, (∀ S' H', Same S S' → StOk K H0 S' H' σ δ → StOk K H0 S' H' σ' δ') → σ'.length = σ.length → (∀ k : Nat, k ∉ t.js → σ'[k]? = σ[k]?) → Q σ' H) : t.g K v σ H Q := by
  cases t with
  | nm j =>
    have e : δ' = δ.set j (.d x) := hk
    subst e
    refine q _ (fun S' H' ss so' => so'.setD j (dv.mono ss)) (by simp) fun k hk => ?_
    rw [List.getElem?_set_ne]
    intro z
    exact hk (by rw [← z]; exact List.mem_cons_self ..)
  | tp i j =>
    obtain ⟨a, b, rfl, rfl⟩ := hk
    obtain ⟨l, xs, rfl, h1, h2⟩ := dp_tup dv
    obtain ⟨u, w, rfl, du, dw⟩ := dps2 h2
    refine ⟨l, [u, w], rfl, Same.sqt so.sh h1, rfl, u, [w], rfl, w, [], rfl, rfl, ?_⟩
    refine q _ (fun S' H' ss so' => (so'.setD i (du.mono ss)).setD j (dw.mono ss)) (by simp) fun k hk => ?_
    rw [List.getElem?_set_ne, List.getElem?_set_ne]
    · intro z
      exact hk (by rw [← z]; exact List.mem_cons_self ..)
    · intro z
      exact hk (by rw [← z]; exact List.mem_cons_of_mem _ (List.mem_cons_self ..))
/-- slots forgotten -/
def wipeD (δ : List Slot) : List Nat → List Slot
  | [] => δ
  | v :: vs => (wipeD δ vs).set v .un
theorem StOk.wipe (so : StOk K H0 S H σ δ) : ∀ vs : List Nat, StOk K H0 S H (L2.wipe σ vs) (wipeD δ vs)
  | [] => so
  | v :: vs => (StOk.wipe so vs).setN v none
theorem wipe_in {σ : L2.St} : ∀ {vs : List Nat} {k : Nat}, k ∈ vs → k < σ.length → (L2.wipe σ vs)[k]? = some none
  | v :: vs, k, hk, hl => by
    show ((L2.wipe σ vs).set v none)[k]? = some none
    by_cases e : v = k
    · subst e
      exact List.getElem?_set_self (by rw [wipe_length]; exact hl)
    · rw [List.getElem?_set_ne e]
      rcases List.mem_cons.mp hk with h | h
      · exact absurd h.symm e
      · exact wipe_in h hl
theorem wipe_eq {σ τ : L2.St} {vs : List Nat} (hl : σ.length = τ.length) (h : ∀ k, k ∉ vs → σ[k]? = τ[k]?) : L2.wipe σ vs = L2.wipe τ vs := by
  refine List.ext_getElem? fun k => ?_
  by_cases hk : k ∈ vs
  · by_cases hlt : k < σ.length
    · rw [wipe_in hk hlt, wipe_in hk (by omega)]
    · rw [List.getElem?_eq_none (by rw [wipe_length]; omega), List.getElem?_eq_none (by rw [wipe_length]; omega)]
  · rw [wipe_out hk, wipe_out hk]
    exact h k hk
theorem wipe_wipe {σ : L2.St} {vs : List Nat} : L2.wipe (L2.wipe σ vs) vs = L2.wipe σ vs :=
  wipe_eq (wipe_length σ vs) fun k hk => wipe_out hk
end

/-! ### comprehensions -/
section
variable {X : Cx} {tg iter elt : Expr} {ifs : List Expr} {δ : List Slot} {items : List PyData} {scope : Scope} {own : List (Str × Nat)} {pos : Pos} {t : Tg}
/-- what holds of the block in every context of it -/
abbrev Blk (X : Cx) (scope : Scope) (P : Cx → Prop) : Prop := ∀ (s : Shared) (H : Hp) (C : Addr) (cl : List (Str × Addr)) (fp : List Addr), P (X.blk s H scope (compEnvC scope cl C X.env) fp)
def bE (X : Cx) (scope : Scope) (e : Expr) : TE := fun σ H Q => ∀ (s : Shared) (H' : Hp) (C : Addr) (cl : List (Str × Addr)) (fp : List Addr), cE (X.blk s H' scope (compEnvC scope cl C X.env) fp) e σ H Q
def bTs (X : Cx) (scope : Scope) (ifs : List Expr) : TT := fun σ H Q => ∀ (s : Shared) (H' : Hp) (C : Addr) (cl : List (Str × Addr)) (fp : List Addr), cTs (X.blk s H' scope (compEnvC scope cl C X.env) fp) ifs σ H Q
def bI (X : Cx) (scope : Scope) (tg iter : Expr) : TI := fun σ H Q => ∀ (s : Shared) (H' : Hp) (C : Addr) (cl : List (Str × Addr)) (fp : List Addr), cI (X.blk s H' scope (compEnvC scope cl C X.env) fp) tg iter σ H Q
theorem pe_b {e : Expr} : Blk X scope fun Y => PE Y e (bE X scope e) := fun s H C cl fp => ⟨fun pins s1 σ H1 Q I h => pe_c.run pins s1 σ H1 Q I (h s H C cl fp)⟩
theorem pts_b {ifs : List Expr} : Blk X scope fun Y => PTs Y ifs (bTs X scope ifs) := fun s H C cl fp => ⟨fun pins s1 σ H1 Q I h => pts_c.run pins s1 σ H1 Q I (h s H C cl fp)⟩
theorem pi_b {tg iter : Expr} : Blk X scope fun Y => PI Y tg iter (bI X scope tg iter) := fun s H C cl fp => ⟨fun pins s1 σ H1 Q I h => pi_c.run pins s1 σ H1 Q I (h s H C cl fp)⟩
theorem rd_b {e : Expr} {d : PyData} {δ : List Slot} (h : Blk X scope fun Y => EX Y e δ d) : RdE X.K (bE X scope e) δ d := fun _ H0 S _ _ so q s H' C cl fp => ⟨δ, d, H0, S, h s H' C cl fp, so, q⟩
theorem rd_bts {k : Bool} {δ : List Slot} (h : Blk X scope fun Y => TXs Y ifs δ k) : RdT X.K (bTs X scope ifs) δ k := fun _ H0 S _ _ so q s H' C cl fp => ⟨δ, k, H0, S, h s H' C cl fp, so, q⟩
theorem rd_bi {tg iter : Expr} {δ : List Slot} (h : Blk X scope fun Y => IX Y tg iter δ items) : RdI X.K (bI X scope tg iter) δ items := fun _ H0 S _ _ so q s H' C cl fp => ⟨δ, items, H0, S, h s H' C cl fp, so, q⟩

/-- the reading of a comprehension of one clause -/
theorem rd_lc {vs : List Nat} {f : PyData → Bool} {g : PyData → PyData} {wi : TI} (hi : RdI X.K wi δ items) (hin : ∀ k ∈ t.js, k ∈ vs) (hz : items.length ≤ sizeLine)
    (hel : ∀ x ∈ items, ∃ δ', t.ok x (wipeD δ vs) δ' ∧ (Blk X scope fun Y => TXs Y ifs δ' (f x)) ∧ (f x = true → Blk X scope fun Y => EX Y elt δ' (g x))) :
    RdO X.K (tLc wi (t.g X.K) (bTs X scope ifs) (bE X scope elt) vs) δ ((items.filter f).map g) := fun σ H0 S H Q so q =>
  hi σ H0 S H _ so fun J S1 H1 g1 wk D hD => by
    have hHD : H D = none := g1.hfree hD
    refine ⟨fun i m H' => m = items.length - i ∧ i ≤ items.length ∧ ∃ S' acc, Gr S H S' H' ∧ Same S1 S' ∧ S' D = none ∧ H' D = some (.lst acc) ∧ DpAll X.K S' acc (((items.take i).filter f).map g),
      ⟨items.length, by simp, Nat.zero_le _, S1, [], g1.owned hD, Same.refl _, g1.sfree hD, upd_same, .nil⟩, ?_⟩
    rintro i m H' ⟨rfl, hi2, S', acc, g2, s12, hSD, hHD', dacc⟩
    by_cases hlt : i < items.length
    · refine Or.inr ⟨wk.go i S' H' s12 g2.sh hlt, fun H3 => ∃ S3 acc, Gr S H S3 H3 ∧ Same S1 S3 ∧ S3 D = none ∧ H3 D = some (.lst acc) ∧ DpAll X.K S3 acc (((items.take (i + 1)).filter f).map g), fun H3 p => ⟨items.length - (i + 1), by omega, rfl, hlt, p⟩, fun x H'' y => ?_⟩
      obtain ⟨S'', d, g3, hd, dx⟩ := wk.yld i S' H' x H'' s12 g2.sh hlt y
      have hmem : d ∈ items := List.mem_of_getElem? hd
      have e1 : items.take (i + 1) = items.take i ++ [d] := by rw [List.take_add_one, hd]; rfl
      obtain ⟨δ', hok, htx, hex⟩ := hel d hmem
      have so1 : StOk X.K H0 S'' H'' (L2.wipe σ vs) (wipeD δ vs) := (so.wipe vs).grow (g2.trans g3)
      have hSD'' : S'' D = none := g3.nw D hSD (by rw [hHD']; exact fun z => nomatch z)
      refine Tg.run hok so1 dx _ fun σ2 hso2 hl2 hk2 => ?_
      have so2 := hso2 S'' H'' (Same.refl _) so1
      refine ⟨?_, ?_⟩
      · rw [wipe_eq (by rw [hl2]) fun k hk => hk2 k fun z => hk (hin k z)]
        exact wipe_wipe
      · refine rd_bts htx σ2 H0 S'' H'' _ so2 fun S3 H3 g4 => ?_
        have hSD3 : S3 D = none := g4.nw D hSD'' (by rw [g3.hh D _ hHD']; exact fun z => nomatch z)
        have hHD3 : H3 D = some (.lst acc) := g4.hh D _ (g3.hh D _ hHD')
        have d3 : DpAll X.K S3 acc (((items.take i).filter f).map g) := dacc.mono (g3.ss.trans g4.ss)
        cases hf : f d with
        | true =>
          rw [if_pos rfl]
          refine rd_b (hex hf) σ2 H0 S3 H3 _ (so2.grow g4) fun v S4 H4 g5 dv => ?_
          have hSD4 : S4 D = none := g5.nw D hSD3 (by rw [hHD3]; exact fun z => nomatch z)
          have hHD4 : H4 D = some (.lst acc) := g5.hh D _ hHD3
          have hl := dps_len dacc
          refine ⟨acc, hHD4, ?_, S4, acc ++ [v], ((g2.trans g3).trans (g4.trans g5)).mut hHD hSD4, s12.trans (g3.ss.trans (g4.ss.trans g5.ss)), hSD4, upd_same, ?_⟩
          · rw [List.length_map] at hl
            have h1 := List.length_filter_le f (items.take i)
            have h2 : (items.take i).length ≤ i := by rw [List.length_take]; exact Nat.min_le_left _ _
            omega
          · rw [e1, List.filter_append, List.map_append]
            have e2 : List.map g (List.filter f [d]) = [g d] := by simp [hf]
            rw [e2]
            exact dps_app (d3.mono g5.ss) (dps_one dv)
        | false =>
          rw [if_neg Bool.false_ne_true]
          refine ⟨S3, acc, (g2.trans g3).trans g4, s12.trans (g3.ss.trans g4.ss), hSD3, hHD3, ?_⟩
          rw [e1, List.filter_append, List.map_append]
          have e2 : List.map g (List.filter f [d]) = [] := by simp [hf]
          rw [e2, List.append_nil]
          exact d3
    · have e : i = items.length := by omega
      subst e
      rw [List.take_length] at dacc
      exact Or.inl ⟨wk.stop S' H' s12 g2.sh, q D acc S' H' g2 hSD hHD hHD' dacc⟩
theorem exo_lc {f : PyData → Bool} {g : PyData → PyData} (hc : X.calm = true) (hN : X.N.Nodup) (ok : BlkOk X.N X.env.scope scope own) (hg : Blk X scope fun Y => PG Y tg (t.g Y.K)) (hi : IX X tg iter δ items) (hin : ∀ k ∈ t.js, k ∈ own.map (·.2)) (hz : items.length ≤ sizeLine)
    (hel : ∀ x ∈ items, ∃ δ', t.ok x (wipeD δ (own.map (·.2))) δ' ∧ (Blk X scope fun Y => TXs Y ifs δ' (f x)) ∧ (f x = true → Blk X scope fun Y => EX Y elt δ' (g x)))
    (hs : ∀ x, foldedSetIterable iter X.env x = pure x := by intro _; rfl) : EXo X (.ListComp elt [⟨tg, iter, ifs, 0⟩] scope pos) δ ((items.filter f).map g) :=
  EXo.of (pe_lc hc hN pi_c ok hg pts_b pe_b hs) (rd_lc (rd_ci hi) hin hz hel)

/-- two clauses without tests; the second walks the same items at each turn of the first -/
theorem rd_lc2 {tg1 iter1 : Expr} {t1 : Tg} {items1 : List PyData} {vs vs1 : List Nat} {g : PyData → PyData → PyData} {wi : TI} (hi : RdI X.K wi δ items) (hin : ∀ k ∈ t.js, k ∈ vs) (hin1 : ∀ k ∈ t1.js, k ∈ vs1) (hz : items.length * items1.length ≤ sizeLine)
    (hel : ∀ x ∈ items, ∃ δ', t.ok x (wipeD δ vs) δ' ∧ (Blk X scope fun Y => IX Y tg1 iter1 δ' items1) ∧ ∀ y ∈ items1, ∃ δ'', t1.ok y (wipeD δ' vs1) δ'' ∧ (Blk X scope fun Y => EX Y elt δ'' (g x y))) :
    RdO X.K (tLc2 wi (t.g X.K) tYes (bI X scope tg1 iter1) (t1.g X.K) tYes (bE X scope elt) vs vs1) δ (items.flatMap fun x => items1.map (g x)) := fun σ H0 S H Q so q =>
  hi σ H0 S H _ so fun J S1 H1 g1 wk D hD => by
    have hHD : H D = none := g1.hfree hD
    refine ⟨fun i m H' => m = items.length - i ∧ i ≤ items.length ∧ ∃ S' acc, Gr S H S' H' ∧ Same S1 S' ∧ S' D = none ∧ H' D = some (.lst acc) ∧ DpAll X.K S' acc ((items.take i).flatMap fun x => items1.map (g x)),
      ⟨items.length, by simp, Nat.zero_le _, S1, [], g1.owned hD, Same.refl _, g1.sfree hD, upd_same, .nil⟩, ?_⟩
    rintro i m H' ⟨rfl, hi2, S', acc, g2, s12, hSD, hHD', dacc⟩
    by_cases hlt : i < items.length
    · refine Or.inr ⟨wk.go i S' H' s12 g2.sh hlt, fun H3 => ∃ S3 acc, Gr S H S3 H3 ∧ Same S1 S3 ∧ S3 D = none ∧ H3 D = some (.lst acc) ∧ DpAll X.K S3 acc ((items.take (i + 1)).flatMap fun x => items1.map (g x)), fun H3 p => ⟨items.length - (i + 1), by omega, rfl, hlt, p⟩, fun x H'' y => ?_⟩
      obtain ⟨S'', d, g3, hd, dx⟩ := wk.yld i S' H' x H'' s12 g2.sh hlt y
      have hmem : d ∈ items := List.mem_of_getElem? hd
      have e1 : items.take (i + 1) = items.take i ++ [d] := by rw [List.take_add_one, hd]; rfl
      obtain ⟨δ', hok, hix, hex⟩ := hel d hmem
      have so1 : StOk X.K H0 S'' H'' (L2.wipe σ vs) (wipeD δ vs) := (so.wipe vs).grow (g2.trans g3)
      have hSD'' : S'' D = none := g3.nw D hSD (by rw [hHD']; exact fun z => nomatch z)
      refine Tg.run hok so1 dx _ fun σ2 hso2 hl2 hk2 => ?_
      have so2 := hso2 S'' H'' (Same.refl _) so1
      refine ⟨?_, ?_⟩
      · rw [wipe_eq (by rw [hl2]) fun k hk => hk2 k fun z => hk (hin k z)]
        exact wipe_wipe
      · show bI X scope tg1 iter1 σ2 H'' _
        refine rd_bi hix σ2 H0 S'' H'' _ so2 fun J1 S3 H3 g4 wk1 => ?_
        have hSD3 : S3 D = none := g4.nw D hSD'' (by rw [g3.hh D _ hHD']; exact fun z => nomatch z)
        have hHD3 : H3 D = some (.lst acc) := g4.hh D _ (g3.hh D _ hHD')
        have d3 : DpAll X.K S3 acc ((items.take i).flatMap fun x => items1.map (g x)) := dacc.mono (g3.ss.trans g4.ss)
        have hlacc : acc.length = i * items1.length := by
          have hl := dps_len dacc
          rw [hl]
          have : ∀ l : List PyData, (l.flatMap fun x => items1.map (g x)).length = l.length * items1.length := fun l => by
            induction l with
            | nil => simp
            | cons z r ih =>
              rw [List.flatMap_cons, List.length_append, ih, List.length_map, List.length_cons, Nat.succ_mul, Nat.add_comm]
          rw [this, List.length_take, Nat.min_eq_left (by omega)]
        refine ⟨fun k n H4 => n = items1.length - k ∧ k ≤ items1.length ∧ ∃ S4 acc4, Gr S H S4 H4 ∧ Same S3 S4 ∧ S4 D = none ∧ H4 D = some (.lst acc4) ∧ DpAll X.K S4 acc4 (((items.take i).flatMap fun x => items1.map (g x)) ++ (items1.take k).map (g d)),
          ⟨items1.length, by simp, Nat.zero_le _, S3, acc, (g2.trans g3).trans g4, Same.refl _, hSD3, hHD3, by simpa using d3⟩, ?_⟩
        rintro k n H4 ⟨rfl, hk3, S4, acc4, g5, s34, hSD4, hHD4, dacc4⟩
        have so4 : StOk X.K H0 S4 H4 σ2 δ' := hso2 S4 H4 (g4.ss.trans s34) ((so.wipe vs).grow g5)
        have hl4 := dps_len dacc4
        by_cases hlt1 : k < items1.length
        · refine Or.inr ⟨wk1.go k S4 H4 s34 g5.sh hlt1, fun H5 => ∃ S5 acc5, Gr S H S5 H5 ∧ Same S3 S5 ∧ S5 D = none ∧ H5 D = some (.lst acc5) ∧ DpAll X.K S5 acc5 (((items.take i).flatMap fun x => items1.map (g x)) ++ (items1.take (k + 1)).map (g d)),
            fun H5 p => ⟨items1.length - (k + 1), by omega, rfl, hlt1, p⟩, fun x1 H5 y1 => ?_⟩
          obtain ⟨S5, d1, g6, hd1, dx1⟩ := wk1.yld k S4 H4 x1 H5 s34 g5.sh hlt1 y1
          have hmem1 : d1 ∈ items1 := List.mem_of_getElem? hd1
          have e3 : items1.take (k + 1) = items1.take k ++ [d1] := by rw [List.take_add_one, hd1]; rfl
          obtain ⟨δ'', hok1, hex1⟩ := hex d1 hmem1
          have so5 : StOk X.K H0 S5 H5 (L2.wipe σ2 vs1) (wipeD δ' vs1) := (so4.wipe vs1).grow g6
          have hSD5 : S5 D = none := g6.nw D hSD4 (by rw [hHD4]; exact fun z => nomatch z)
          refine Tg.run hok1 so5 dx1 _ fun σ3 hso6 hl6 hk6 => ?_
          have so6 := hso6 S5 H5 (Same.refl _) so5
          refine ⟨?_, ?_⟩
          · rw [wipe_eq (by rw [hl6]) fun k hk => hk6 k fun z => hk (hin1 k z)]
            exact wipe_wipe
          · show bE X scope elt σ3 H5 _
            refine rd_b hex1 σ3 H0 S5 H5 _ so6 fun v S6 H6 g7 dv => ?_
            have hHD5 : H5 D = some (.lst acc4) := g6.hh D _ hHD4
            have hSD6 : S6 D = none := g7.nw D hSD5 (by rw [hHD5]; exact fun z => nomatch z)
            have hHD6 : H6 D = some (.lst acc4) := g7.hh D _ hHD5
            have gg : Gr S H S6 (upd H6 D (.lst (acc4 ++ [v]))) := (g5.trans (g6.trans g7)).mut hHD hSD6
            refine ⟨acc4, hHD6, ?_, S6, acc4 ++ [v], gg, s34.trans (g6.ss.trans g7.ss), hSD6, upd_same, ?_⟩
            · rw [List.length_append, List.length_map, List.length_take, Nat.min_eq_left hk3] at hl4
              rw [← dps_len d3] at hl4
              have h5 : i * items1.length + items1.length ≤ items.length * items1.length := by
                have := Nat.mul_le_mul_right items1.length (show i + 1 ≤ items.length from hlt)
                rw [Nat.succ_mul] at this
                exact this
              omega
            · rw [e3, List.map_append, ← List.append_assoc]
              exact dps_app (dacc4.mono (g6.ss.trans g7.ss)) (dps_one dv)
        · have e : k = items1.length := by omega
          subst e
          rw [List.take_length] at dacc4
          refine Or.inl ⟨wk1.stop S4 H4 s34 g5.sh, S4, acc4, g5, s12.trans (g3.ss.trans (g4.ss.trans s34)), hSD4, hHD4, ?_⟩
          rw [e1, List.flatMap_append]
          simpa using dacc4
    · have e : i = items.length := by omega
      subst e
      rw [List.take_length] at dacc
      exact Or.inl ⟨wk.stop S' H' s12 g2.sh, q D acc S' H' g2 hSD hHD hHD' dacc⟩
end
end DL
set_option Elab.async false
set_option linter.all false
set_option maxRecDepth 100000
set_option maxHeartbeats 4000000
/-! DL5: statements, loops, the text's own defs. -/
namespace DL
open PySem PySem.Spec PyProof.Rows L2

structure DE where
  nx : List Slot → Prop
  rt : PyData → List Slot → Prop
  bk : List Slot → Prop := fun _ => False
  ct : List Slot → Prop := fun _ => False
structure Kt (K : PySem.W.Frag) (H0 S0 : Hp) (E : DE) (D : Ends) : Prop where
  nx : ∀ (σ' : L2.St) (δ' : List Slot) (S' H' : Hp), E.nx δ' → Gr S0 H0 S' H' → StOk K H0 S' H' σ' δ' → D.nx σ' H'
  rt : ∀ (v : V) (d : PyData) (σ' : L2.St) (δ' : List Slot) (S' H' : Hp), E.rt d δ' → Gr S0 H0 S' H' → StOk K H0 S' H' σ' δ' → Dp K S' v d → D.rt v H'
  bk : ∀ (σ' : L2.St) (δ' : List Slot) (S' H' : Hp), E.bk δ' → Gr S0 H0 S' H' → StOk K H0 S' H' σ' δ' → D.bk σ' H'
  ct : ∀ (σ' : L2.St) (δ' : List Slot) (S' H' : Hp), E.ct δ' → Gr S0 H0 S' H' → StOk K H0 S' H' σ' δ' → D.ct σ' H'
def SX (X : Cx) (st : Stmt) (δ : List Slot) (E : DE) : Prop :=
  ∀ (pins : List (Addr × Obj)) (s : Shared) (σ : L2.St) (S0 H0 S H : Hp) (D : Ends), Inv X pins σ H s → Gr S0 H0 S H → StOk X.K H0 S H σ δ → Kt X.K H0 S0 E D → wpAny (model X.prog X.w) X.A (exec st X.env) (SP X pins D) X.xe s
def SXs (X : Cx) (sts : List Stmt) (δ : List Slot) (E : DE) : Prop :=
  ∀ (pins : List (Addr × Obj)) (s : Shared) (σ : L2.St) (S0 H0 S H : Hp) (D : Ends), Inv X pins σ H s → Gr S0 H0 S H → StOk X.K H0 S H σ δ → Kt X.K H0 S0 E D → wpAny (model X.prog X.w) X.A (execs sts X.env) (SP X pins D) X.xe s
def RdS (K : PySem.W.Frag) (t : TS) (δ : List Slot) (E : DE) : Prop :=
  ∀ (σ : L2.St) (S0 H0 S H : Hp) (D : Ends), Gr S0 H0 S H → StOk K H0 S H σ δ → Kt K H0 S0 E D → t D σ H
def cS (X : Cx) (st : Stmt) : TS := fun D σ H => ∃ (δ : List Slot) (E : DE) (S0 H0 S : Hp), SX X st δ E ∧ Gr S0 H0 S H ∧ StOk X.K H0 S H σ δ ∧ Kt X.K H0 S0 E D
def cSs (X : Cx) (sts : List Stmt) : TS := fun D σ H => ∃ (δ : List Slot) (E : DE) (S0 H0 S : Hp), SXs X sts δ E ∧ Gr S0 H0 S H ∧ StOk X.K H0 S H σ δ ∧ Kt X.K H0 S0 E D
/-- an expression that changes owned things too -/
def EF (X : Cx) (e : Expr) (δ : List Slot) (P : PyData → List Slot → Prop) : Prop :=
  ∀ (pins : List (Addr × Obj)) (s : Shared) (σ : L2.St) (S0 H0 S H : Hp) (Q : VK), Inv X pins σ H s → Gr S0 H0 S H → StOk X.K H0 S H σ δ →
    (∀ v d δ' S' H', P d δ' → Gr S0 H0 S' H' → StOk X.K H0 S' H' σ δ' → Dp X.K S' v d → Q v H') → wpAny (model X.prog X.w) X.A (eval e X.env) (EP X pins σ Q) X.xe s
def cF (X : Cx) (e : Expr) : TE := fun σ H Q => ∃ (δ : List Slot) (P : PyData → List Slot → Prop) (S0 H0 S : Hp), EF X e δ P ∧ Gr S0 H0 S H ∧ StOk X.K H0 S H σ δ ∧ ∀ v d δ' S' H', P d δ' → Gr S0 H0 S' H' → StOk X.K H0 S' H' σ δ' → Dp X.K S' v d → Q v H'
def RdF (K : PySem.W.Frag) (t : TE) (δ : List Slot) (P : PyData → List Slot → Prop) : Prop :=
  ∀ (σ : L2.St) (S0 H0 S H : Hp) (Q : VK), Gr S0 H0 S H → StOk K H0 S H σ δ → (∀ v d δ' S' H', P d δ' → Gr S0 H0 S' H' → StOk K H0 S' H' σ δ' → Dp K S' v d → Q v H') → t σ H Q
section
variable {X : Cx} {st : Stmt} {sts : List Stmt} {δ : List Slot} {E E' : DE} {e a b c : Expr} {d da db : PyData} {ds : List PyData} {pos p p' : Pos} {P : PyData → List Slot → Prop}
theorem ps_c : PS X st (cS X st) := ⟨fun pins s σ H D I ⟨_, _, S0, H0, S, h, g, so, k⟩ => h pins s σ S0 H0 S H D I g so k⟩
theorem pss_c : PSs X sts (cSs X sts) := ⟨fun pins s σ H D I ⟨_, _, S0, H0, S, h, g, so, k⟩ => h pins s σ S0 H0 S H D I g so k⟩
theorem pe_f : PE X e (cF X e) := ⟨fun pins s σ H Q I ⟨_, _, S0, H0, S, h, g, so, k⟩ => h pins s σ S0 H0 S H Q I g so k⟩
theorem rd_f (h : EF X e δ P) : RdF X.K (cF X e) δ P := fun _ S0 H0 S _ _ g so q => ⟨δ, P, S0, H0, S, h, g, so, q⟩
theorem EF.of {t : TE} (h : PE X e t) (r : RdF X.K t δ P) : EF X e δ P := fun pins s σ S0 H0 S H Q I g so q => h.run pins s σ H Q I (r σ S0 H0 S H Q g so q)
theorem EX.ef (h : EX X e δ d) : EF X e δ (fun x δ' => x = d ∧ δ' = δ) := fun pins s σ S0 H0 S H Q I g so q =>
  h pins s σ H0 S H Q I so fun v S' H' g1 dv => q v d δ S' H' ⟨rfl, rfl⟩ (g.trans g1) (so.grow g1) dv
theorem EF.mono {P' : PyData → List Slot → Prop} (h : EF X e δ P) (k : ∀ d δ', P d δ' → P' d δ') : EF X e δ P' := fun pins s σ S0 H0 S H Q I g so q =>
  h pins s σ S0 H0 S H Q I g so fun v d δ' S' H' hp => q v d δ' S' H' (k d δ' hp)
theorem SX.of {t : TS} (h : PS X st t) (r : RdS X.K t δ E) : SX X st δ E := fun pins s σ S0 H0 S H D I g so k => h.run pins s σ H D I (r σ S0 H0 S H D g so k)
theorem SXs.of {t : TS} (h : PSs X sts t) (r : RdS X.K t δ E) : SXs X sts δ E := fun pins s σ S0 H0 S H D I g so k => h.run pins s σ H D I (r σ S0 H0 S H D g so k)
theorem rd_ss (h : SXs X sts δ E) : RdS X.K (cSs X sts) δ E := fun _ S0 H0 S _ _ g so k => ⟨δ, E, S0, H0, S, h, g, so, k⟩
theorem rd_s (h : SX X st δ E) : RdS X.K (cS X st) δ E := fun _ S0 H0 S _ _ g so k => ⟨δ, E, S0, H0, S, h, g, so, k⟩
theorem Kt.mono {K : PySem.W.Frag} {H0 S0 : Hp} {D : Ends} (k : Kt K H0 S0 E D) (h1 : ∀ δ, E'.nx δ → E.nx δ) (h2 : ∀ d δ, E'.rt d δ → E.rt d δ) (h3 : ∀ δ, E'.bk δ → E.bk δ) (h4 : ∀ δ, E'.ct δ → E.ct δ) : Kt K H0 S0 E' D :=
  ⟨fun σ' δ' S' H' h => k.nx σ' δ' S' H' (h1 _ h), fun v d σ' δ' S' H' h => k.rt v d σ' δ' S' H' (h2 _ _ h), fun σ' δ' S' H' h => k.bk σ' δ' S' H' (h3 _ h), fun σ' δ' S' H' h => k.ct σ' δ' S' H' (h4 _ h)⟩
theorem SXs.mono (h : SXs X sts δ E) (h1 : ∀ δ, E.nx δ → E'.nx δ) (h2 : ∀ d δ, E.rt d δ → E'.rt d δ) (h3 : ∀ δ, E.bk δ → E'.bk δ) (h4 : ∀ δ, E.ct δ → E'.ct δ) : SXs X sts δ E' :=
  fun pins s σ S0 H0 S H D I g so k => h pins s σ S0 H0 S H D I g so (k.mono h1 h2 h3 h4)

/-! ### blocks -/
theorem sxs_nil (h : E.nx δ) : SXs X [] δ E := SXs.of pss_nil fun σ S0 H0 S H D g so k => k.nx σ δ S H h g so
theorem sxs_cons (N : List Slot → Prop) (h : SX X st δ { E with nx := N }) (k : ∀ δ', N δ' → SXs X sts δ' E) : SXs X (st :: sts) δ E :=
  SXs.of (pss_cons ps_c pss_c) fun σ S0 H0 S H D g so q => by
    refine rd_s h σ S0 H0 S H _ g so ⟨fun σ' δ' S' H' hn g' so' => ?_, q.rt, q.bk, q.ct⟩
    exact rd_ss (k δ' hn) σ' S0 H0 S' H' D g' so' q
/-- the usual step: one state behind -/
theorem sxs_step (δ1 : List Slot) (h : ∀ N : List Slot → Prop, N δ1 → SX X st δ { E with nx := N }) (k : SXs X sts δ1 E) : SXs X (st :: sts) δ E :=
  sxs_cons (fun δ' => δ' = δ1) (h _ rfl) fun δ' e => by
    subst e
    exact k
theorem sxs_last (h : SX X st δ E) : SXs X [st] δ E := SXs.of (pss_one ps_c) (rd_s h)
theorem sxs_freeze (k : Nat) (hk : δ[k]? = some (.own ds)) (h : SXs X sts (δ.set k (.d (.list ds))) E) : SXs X sts δ E := fun pins s σ S0 H0 S H D I g so q => by
  obtain ⟨l, vs, e1, h1, h2, h3, so2⟩ := so.freeze hk
  exact h pins s σ S0 H0 _ H D I (g.frz h1 h2 h3) so2 q

/-! ### stores -/
theorem sx_set (i : Nat) {x : Str} (he : EX X e δ d) (k : E.nx (δ.set i (.d d))) (hN : X.N.Nodup) (hi : X.N[i]? = some x := by rfl) (hx : Loc X.env.scope x := by first | exact Or.inl rfl | exact Or.inr rfl) (hs : swapsWith e (some (.Name x p')) pos.line X.env = pure false := by rfl)
    (hf : X.fn x = true ∨ X.env.scope.names.lookup x = some .local := by first | exact .inl rfl | exact .inr rfl) : SX X (.Assign [.Name x p'] e pos) δ E :=
  SX.of (ps_set hN hi hx pe_c hs hf) fun σ S0 H0 S H D g so q => rd_c he σ H0 S H _ so fun v S' H' g1 dv => q.nx _ _ S' H' k (g.trans g1) ((so.grow g1).setD i dv)
theorem own_new {K : PySem.W.Frag} {H0 S H S' H' : Hp} {σ : L2.St} {l : Addr} {vs : List V} (so : StOk K H0 S H σ δ) (g : Gr S H S' H') (hn : H l = none) (hs : S' l = none) (h0 : H0 l = none) (hh : H' l = some (.lst vs)) (dv : DpAll K S' vs ds) (i : Nat) :
    StOk K H0 S' H' (σ.set i (some (.ref l))) (δ.set i (.own ds)) :=
  (so.grow g).setO i ⟨l, vs, rfl, hs, h0, hh, dv⟩ fun j t e o z => (so.ownedAt e o z).1 hn
theorem sx_setO (i : Nat) {x : Str} (he : EXo X e δ ds) (k : E.nx (δ.set i (.own ds))) (hN : X.N.Nodup) (hi : X.N[i]? = some x := by rfl) (hx : Loc X.env.scope x := by first | exact Or.inl rfl | exact Or.inr rfl) (hs : swapsWith e (some (.Name x p')) pos.line X.env = pure false := by rfl)
    (hf : X.fn x = true ∨ X.env.scope.names.lookup x = some .local := by first | exact .inl rfl | exact .inr rfl) : SX X (.Assign [.Name x p'] e pos) δ E :=
  SX.of (ps_set hN hi hx pe_o hs hf) fun σ S0 H0 S H D g so q => rd_o he σ H0 S H _ so fun l vs S' H' g1 hs hn hh dv => q.nx _ _ S' H' k (g.trans g1) (own_new so g1 hn hs (g.hfree hn) hh dv i)
theorem sx_setF (i : Nat) {x : Str} (he : EF X e δ P) (k : ∀ d δ', P d δ' → E.nx (δ'.set i (.d d))) (hN : X.N.Nodup) (hi : X.N[i]? = some x := by rfl) (hx : Loc X.env.scope x := by first | exact Or.inl rfl | exact Or.inr rfl) (hs : swapsWith e (some (.Name x p')) pos.line X.env = pure false := by rfl)
    (hf : X.fn x = true ∨ X.env.scope.names.lookup x = some .local := by first | exact .inl rfl | exact .inr rfl) : SX X (.Assign [.Name x p'] e pos) δ E :=
  SX.of (ps_set hN hi hx pe_f hs hf) fun σ S0 H0 S H D g so q => rd_f he σ S0 H0 S H _ g so fun v d δ' S' H' hp g1 so1 dv => q.nx _ _ S' H' (k d δ' hp) g1 (so1.setD i dv)
/- name = a comprehension -/
section
variable {tg iter elt : Expr} {ifs : List Expr} {items : List PyData} {scope : Scope} {own : List (Str × Nat)} {t : Tg} {f : PyData → Bool} {h : PyData → PyData}
theorem sx_setLcO (i : Nat) {x : Str} (hc : X.calm = true) (hN : X.N.Nodup) (hxl : X.env.scope.names.lookup x = some .local) (hsw : swapsWith (.ListComp elt [⟨tg, iter, ifs, 0⟩] scope pos) (some (.Name x p')) p.line X.env = pure true)
    (ok : BlkOk X.N X.env.scope scope own) (hg : Blk X scope fun Y => PG Y tg (t.g Y.K)) (hi : IX X tg iter δ items) (hin : ∀ k ∈ t.js, k ∈ own.map (·.2)) (hz : items.length ≤ sizeLine)
    (hel : ∀ y ∈ items, ∃ δ', t.ok y (wipeD δ (own.map (·.2))) δ' ∧ (Blk X scope fun Y => TXs Y ifs δ' (f y)) ∧ (f y = true → Blk X scope fun Y => EX Y elt δ' (h y)))
    (k : E.nx (δ.set i (.own ((items.filter f).map h)))) (hx : X.N[i]? = some x := by rfl) (hs : ∀ x, foldedSetIterable iter X.env x = pure x := by intro _; rfl) : SX X (.Assign [.Name x p'] (.ListComp elt [⟨tg, iter, ifs, 0⟩] scope pos) p) δ E :=
  SX.of (ps_setLc hc hN hx hxl hsw pi_c ok hg pts_b pe_b hs) fun σ S0 H0 S H D g so q => rd_lc (rd_ci hi) hin hz hel σ H0 S H _ so fun l vs S' H' g1 hs hn hh dv => q.nx _ _ S' H' k (g.trans g1) (own_new so g1 hn hs (g.hfree hn) hh dv i)
theorem sx_setLc (i : Nat) {x : Str} (hc : X.calm = true) (hN : X.N.Nodup) (hxl : X.env.scope.names.lookup x = some .local) (hsw : swapsWith (.ListComp elt [⟨tg, iter, ifs, 0⟩] scope pos) (some (.Name x p')) p.line X.env = pure true)
    (ok : BlkOk X.N X.env.scope scope own) (hg : Blk X scope fun Y => PG Y tg (t.g Y.K)) (hi : IX X tg iter δ items) (hin : ∀ k ∈ t.js, k ∈ own.map (·.2)) (hz : items.length ≤ sizeLine)
    (hel : ∀ y ∈ items, ∃ δ', t.ok y (wipeD δ (own.map (·.2))) δ' ∧ (Blk X scope fun Y => TXs Y ifs δ' (f y)) ∧ (f y = true → Blk X scope fun Y => EX Y elt δ' (h y)))
    (k : E.nx (δ.set i (.d (.list ((items.filter f).map h))))) (hx : X.N[i]? = some x := by rfl) (hs : ∀ x, foldedSetIterable iter X.env x = pure x := by intro _; rfl) : SX X (.Assign [.Name x p'] (.ListComp elt [⟨tg, iter, ifs, 0⟩] scope pos) p) δ E :=
  SX.of (ps_setLc hc hN hx hxl hsw pi_c ok hg pts_b pe_b hs) fun σ S0 H0 S H D g so q => (rd_lc (rd_ci hi) hin hz hel).rd σ H0 S H _ so fun v S' H' g1 dv => q.nx _ _ S' H' k (g.trans g1) ((so.grow g1).setD i dv)
end
/- x, y = a, b -/
section
variable {x y z : Str} {px py pz pt : Pos} {kt k2 : Nat} {pt2 : Pos} {i j l : Nat}
theorem sx_par (i j : Nat) (hc : X.calm = true) (hN : X.N.Nodup) (ha : EX X a δ da) (hb : EX X b δ db) (hij : i ≠ j) (k : E.nx ((δ.set i (.d da)).set j (.d db))) (hw : swappedStores [.Tuple [.Name x px, .Name y py] kt pt] (.Tuple [a, b] k2 pt2) X.env = pure (some [x, y]) := by rfl)
    (hi : X.N[i]? = some x := by rfl) (hj : X.N[j]? = some y := by rfl) (hx : X.env.scope.names.lookup x = some .local := by rfl) (hy : X.env.scope.names.lookup y = some .local := by rfl)
    (hs : swapsWithSole [.Tuple [.Name x px, .Name y py] kt pt] (.Tuple [a, b] k2 pt2) pos.line X.env = pure false := by rfl) (h1 : starEach [a, b] X.env = (false, eval a X.env) :: starEach [b] X.env := by rfl) (h2 : starEach [b] X.env = (false, eval b X.env) :: starEach [] X.env := by rfl) :
    SX X (.Assign [.Tuple [.Name x px, .Name y py] kt pt] (.Tuple [a, b] k2 pt2) pos) δ E :=
  SX.of (ps_par hc hN hi hj hij hx hy (pa_cons pe_c (pa_cons pe_c pa_nil h2) h1) hw hs) fun σ S0 H0 S H D g so q => rd_cons (rd_c ha) (rd_cons (rd_c hb) rd_nil) σ H0 S H _ so fun vs S1 H1 g1 d1 => by
    obtain ⟨v, u, rfl, dv, du⟩ := dps2 d1
    exact ⟨v, u, rfl, q.nx _ _ S1 H1 k (g.trans g1) (((so.grow g1).setD i dv).setD j du)⟩
theorem sx_parDO (i j : Nat) (hc : X.calm = true) (hN : X.N.Nodup) (ha : EX X a δ da) (hb : EXo X b δ ds) (hij : i ≠ j) (k : E.nx ((δ.set i (.d da)).set j (.own ds))) (hw : swappedStores [.Tuple [.Name x px, .Name y py] kt pt] (.Tuple [a, b] k2 pt2) X.env = pure (some [x, y]) := by rfl)
    (hi : X.N[i]? = some x := by rfl) (hj : X.N[j]? = some y := by rfl) (hx : X.env.scope.names.lookup x = some .local := by rfl) (hy : X.env.scope.names.lookup y = some .local := by rfl)
    (hs : swapsWithSole [.Tuple [.Name x px, .Name y py] kt pt] (.Tuple [a, b] k2 pt2) pos.line X.env = pure false := by rfl) (h1 : starEach [a, b] X.env = (false, eval a X.env) :: starEach [b] X.env := by rfl) (h2 : starEach [b] X.env = (false, eval b X.env) :: starEach [] X.env := by rfl) :
    SX X (.Assign [.Tuple [.Name x px, .Name y py] kt pt] (.Tuple [a, b] k2 pt2) pos) δ E :=
  SX.of (ps_par hc hN hi hj hij hx hy (pa_cons pe_c (pa_cons pe_o pa_nil h2) h1) hw hs) fun σ S0 H0 S H D g so q => rd_c ha σ H0 S H _ so fun v S1 H1 g1 d1 =>
    rd_o hb σ H0 S1 H1 _ (so.grow g1) fun r vs S2 H2 g2 hs2 hn2 hh2 d2 => ⟨v, .ref r, rfl, q.nx _ _ S2 H2 k (g.trans (g1.trans g2)) (by
      have s1 := (so.grow g1).setD i d1
      exact own_new s1 g2 hn2 hs2 ((g.trans g1).hfree hn2) hh2 d2 j)⟩
theorem sx_parOD (i j : Nat) (hc : X.calm = true) (hN : X.N.Nodup) (ha : EXo X a δ ds) (hb : EX X b δ db) (hij : i ≠ j) (k : E.nx ((δ.set i (.own ds)).set j (.d db))) (hw : swappedStores [.Tuple [.Name x px, .Name y py] kt pt] (.Tuple [a, b] k2 pt2) X.env = pure (some [x, y]) := by rfl)
    (hi : X.N[i]? = some x := by rfl) (hj : X.N[j]? = some y := by rfl) (hx : X.env.scope.names.lookup x = some .local := by rfl) (hy : X.env.scope.names.lookup y = some .local := by rfl)
    (hs : swapsWithSole [.Tuple [.Name x px, .Name y py] kt pt] (.Tuple [a, b] k2 pt2) pos.line X.env = pure false := by rfl) (h1 : starEach [a, b] X.env = (false, eval a X.env) :: starEach [b] X.env := by rfl) (h2 : starEach [b] X.env = (false, eval b X.env) :: starEach [] X.env := by rfl) :
    SX X (.Assign [.Tuple [.Name x px, .Name y py] kt pt] (.Tuple [a, b] k2 pt2) pos) δ E :=
  SX.of (ps_par hc hN hi hj hij hx hy (pa_cons pe_o (pa_cons pe_c pa_nil h2) h1) hw hs) fun σ S0 H0 S H D g so q => by
    show (tCons (cO X a) (tCons (cE X b) tNil)) σ H _
    show cO X a σ H _
    refine rd_o ha σ H0 S H _ so fun r vs S1 H1 g1 hs1 hn1 hh1 d1 => ?_
    refine rd_c hb σ H0 S1 H1 _ (so.grow g1) fun v S2 H2 g2 d2 => ?_
    refine ⟨.ref r, v, rfl, q.nx _ _ S2 H2 k (g.trans (g1.trans g2)) ?_⟩
    have s1 := own_new so g1 hn1 hs1 (g.hfree hn1) hh1 d1 i
    exact (s1.grow g2).setD j d2
theorem sx_par3 (i j l : Nat) {dc : PyData} (hc : X.calm = true) (hN : X.N.Nodup) (ha : EX X a δ da) (hb : EX X b δ db) (hd : EX X c δ dc) (hij : i ≠ j) (hil : i ≠ l) (hjl : j ≠ l) (k : E.nx (((δ.set i (.d da)).set j (.d db)).set l (.d dc)))
    (hw : swappedStores [.Tuple [.Name x px, .Name y py, .Name z pz] kt pt] (.Tuple [a, b, c] k2 pt2) X.env = pure (some [x, y, z]) := by rfl)
    (hi : X.N[i]? = some x := by rfl) (hj : X.N[j]? = some y := by rfl) (hl : X.N[l]? = some z := by rfl) (hx : X.env.scope.names.lookup x = some .local := by rfl) (hy : X.env.scope.names.lookup y = some .local := by rfl) (hz : X.env.scope.names.lookup z = some .local := by rfl)
    (hs : swapsWithSole [.Tuple [.Name x px, .Name y py, .Name z pz] kt pt] (.Tuple [a, b, c] k2 pt2) pos.line X.env = pure false := by rfl)
    (h1 : starEach [a, b, c] X.env = (false, eval a X.env) :: starEach [b, c] X.env := by rfl) (h2 : starEach [b, c] X.env = (false, eval b X.env) :: starEach [c] X.env := by rfl) (h3 : starEach [c] X.env = (false, eval c X.env) :: starEach [] X.env := by rfl) :
    SX X (.Assign [.Tuple [.Name x px, .Name y py, .Name z pz] kt pt] (.Tuple [a, b, c] k2 pt2) pos) δ E :=
  SX.of (ps_par3 hc hN hi hj hl hij hil hjl hx hy hz (pa_cons pe_c (pa_cons pe_c (pa_cons pe_c pa_nil h3) h2) h1) hw hs) fun σ S0 H0 S H D g so q => rd_c ha σ H0 S H _ so fun v S1 H1 g1 d1 =>
    rd_c hb σ H0 S1 H1 _ (so.grow g1) fun u S2 H2 g2 d2 => rd_c hd σ H0 S2 H2 _ ((so.grow g1).grow g2) fun w S3 H3 g3 d3 =>
      ⟨v, u, w, rfl, q.nx _ _ S3 H3 k (g.trans (g1.trans (g2.trans g3))) (((((so.grow g1).grow g2).grow g3).setD i (d1.mono (g2.ss.trans g3.ss))).setD j (d2.mono g3.ss) |>.setD l d3)⟩
theorem sx_par3O (i j l : Nat) {dc : PyData} (hc : X.calm = true) (hN : X.N.Nodup) (ha : EXo X a δ ds) (hb : EX X b δ db) (hd : EX X c δ dc) (hij : i ≠ j) (hil : i ≠ l) (hjl : j ≠ l) (k : E.nx (((δ.set i (.own ds)).set j (.d db)).set l (.d dc)))
    (hw : swappedStores [.Tuple [.Name x px, .Name y py, .Name z pz] kt pt] (.Tuple [a, b, c] k2 pt2) X.env = pure (some [x, y, z]) := by rfl)
    (hi : X.N[i]? = some x := by rfl) (hj : X.N[j]? = some y := by rfl) (hl : X.N[l]? = some z := by rfl) (hx : X.env.scope.names.lookup x = some .local := by rfl) (hy : X.env.scope.names.lookup y = some .local := by rfl) (hz : X.env.scope.names.lookup z = some .local := by rfl)
    (hs : swapsWithSole [.Tuple [.Name x px, .Name y py, .Name z pz] kt pt] (.Tuple [a, b, c] k2 pt2) pos.line X.env = pure false := by rfl)
    (h1 : starEach [a, b, c] X.env = (false, eval a X.env) :: starEach [b, c] X.env := by rfl) (h2 : starEach [b, c] X.env = (false, eval b X.env) :: starEach [c] X.env := by rfl) (h3 : starEach [c] X.env = (false, eval c X.env) :: starEach [] X.env := by rfl) :
    SX X (.Assign [.Tuple [.Name x px, .Name y py, .Name z pz] kt pt] (.Tuple [a, b, c] k2 pt2) pos) δ E :=
  SX.of (ps_par3 hc hN hi hj hl hij hil hjl hx hy hz (pa_cons pe_o (pa_cons pe_c (pa_cons pe_c pa_nil h3) h2) h1) hw hs) fun σ S0 H0 S H D g so q => by
    show (tCons (cO X a) (tCons (cE X b) (tCons (cE X c) tNil))) σ H _
    show cO X a σ H _
    refine rd_o ha σ H0 S H _ so fun r vs S1 H1 g1 hs1 hn1 hh1 d1 => ?_
    refine rd_c hb σ H0 S1 H1 _ (so.grow g1) fun u S2 H2 g2 d2 => ?_
    refine rd_c hd σ H0 S2 H2 _ ((so.grow g1).grow g2) fun w S3 H3 g3 d3 => ?_
    refine ⟨.ref r, u, w, rfl, q.nx _ _ S3 H3 k (g.trans (g1.trans (g2.trans g3))) ?_⟩
    exact ((((own_new so g1 hn1 hs1 (g.hfree hn1) hh1 d1 i).grow g2).grow g3).setD j (d2.mono g3.ss)).setD l d3
end
/-- (x, y, z, w) = e -/
theorem sx_tup4 (i j l m : Nat) {x y z w : Str} {px py pz pw pt : Pos} {kt : Nat} (hc : X.calm = true) (hN : X.N.Nodup) (he : EF X e δ P) (k : ∀ d δ', P d δ' → ∃ d1 d2 d3 d4, d = .tuple [d1, d2, d3, d4] ∧ E.nx ((((δ'.set i (.d d1)).set j (.d d2)).set l (.d d3)).set m (.d d4)))
    (hs : swapsWithSole [.Tuple [.Name x px, .Name y py, .Name z pz, .Name w pw] kt pt] e pos.line X.env = pure false := by rfl) (hw : swappedStores [.Tuple [.Name x px, .Name y py, .Name z pz, .Name w pw] kt pt] e X.env = pure none := by rfl)
    (hi : X.N[i]? = some x := by rfl) (hj : X.N[j]? = some y := by rfl) (hl : X.N[l]? = some z := by rfl) (hm : X.N[m]? = some w := by rfl)
    (hx : Loc X.env.scope x := by first | exact Or.inl rfl | exact Or.inr rfl) (hy : Loc X.env.scope y := by first | exact Or.inl rfl | exact Or.inr rfl) (hz : Loc X.env.scope z := by first | exact Or.inl rfl | exact Or.inr rfl) (hww : Loc X.env.scope w := by first | exact Or.inl rfl | exact Or.inr rfl)
    (hf : ∀ x, X.fn x = true := by intro _; rfl) : SX X (.Assign [.Tuple [.Name x px, .Name y py, .Name z pz, .Name w pw] kt pt] e pos) δ E :=
  SX.of (ps_asg pe_f (pg_tup hc (pgs_cons (pg_name hN hi hx (.inl (hf _))) (pgs_cons (pg_name hN hj hy (.inl (hf _))) (pgs_cons (pg_name hN hl hz (.inl (hf _))) (pgs_cons (pg_name hN hm hww (.inl (hf _))) pgs_nil))))) hs hw) fun σ S0 H0 S H D g so q =>
    rd_f he σ S0 H0 S H _ g so fun v d δ' S' H' hp g1 so1 dv => by
      obtain ⟨d1, d2, d3, d4, rfl, hk⟩ := k d δ' hp
      obtain ⟨r, xs, rfl, h1, h2⟩ := dp_tup dv
      cases h2 with
      | cons e1 h2 =>
        cases h2 with
        | cons e2 h2 =>
          cases h2 with
          | cons e3 h2 =>
            cases h2 with
            | cons e4 h2 =>
              cases h2
              exact ⟨r, _, rfl, Same.sqt g1.sh h1, rfl, _, _, rfl, _, _, rfl, _, _, rfl, _, _, rfl, rfl, q.nx _ _ S' H' hk g1 ((((so1.setD i e1).setD j e2).setD l e3).setD m e4)⟩
/-- += of a whole number -/
theorem sx_augI (i : Nat) {x : Str} {n m : Int} (hd : δ[i]? = some (.d (.int n))) (he : EX X e δ (.int m)) (k : E.nx (δ.set i (.d (.int (n + m))))) (hN : X.N.Nodup) (hi : X.N[i]? = some x := by rfl) (hx : Loc X.env.scope x := by first | exact Or.inl rfl | exact Or.inr rfl)
    (hf : X.fn x = true ∨ X.env.scope.names.lookup x = some .local := by first | exact .inl rfl | exact .inr rfl) : SX X (.AugAssign (.Name x p') .Add e pos) δ E :=
  SX.of (ps_aug hN hi hx pe_c ip_add hf) fun σ S0 H0 S H D g so q => by
    obtain ⟨v, e1, h1⟩ := so.get hd
    rw [dp_int h1] at e1
    refine ⟨_, e1, rd_c he σ H0 S H _ so fun u S' H' g1 du => ⟨n, m, rfl, dp_int du, q.nx _ _ S' H' k (g.trans g1) ((so.grow g1).setD i (.int _))⟩⟩

/-! ### the other statements -/
theorem sx_drop (he : EX X e δ d) (k : E.nx δ) (hs : swapsWith e none pos.line X.env = pure false := by rfl) : SX X (.Expr e pos) δ E :=
  SX.of (ps_expr pe_c hs) fun σ S0 H0 S H D g so q => rd_c he σ H0 S H _ so fun v S' H' g1 dv => q.nx _ _ S' H' k (g.trans g1) (so.grow g1)
theorem sx_ret (he : EX X e δ d) (k : E.rt d δ) : SX X (.Return (some e) pos) δ E :=
  SX.of (ps_ret pe_c) fun σ S0 H0 S H D g so q => rd_c he σ H0 S H _ so fun v S' H' g1 dv => q.rt v d σ δ S' H' k (g.trans g1) (so.grow g1) dv
theorem sx_retF (he : EF X e δ P) (k : ∀ d δ', P d δ' → E.rt d δ') : SX X (.Return (some e) pos) δ E :=
  SX.of (ps_ret pe_f) fun σ S0 H0 S H D g so q => rd_f he σ S0 H0 S H _ g so fun v d δ' S' H' hp g1 so1 dv => q.rt v d σ δ' S' H' (k d δ' hp) g1 so1 dv
theorem sx_break (k : E.bk δ) : SX X (.Break pos) δ E := SX.of ps_break fun σ S0 H0 S H D g so q => q.bk σ δ S H k g so
theorem sx_if {t f : List Stmt} {k : Bool} (hc : TX X c δ k) (h1 : k = true → SXs X t δ E) (h2 : k = false → SXs X f δ E) : SX X (.If c t f pos) δ E :=
  SX.of (ps_if pt_c pss_c pss_c) fun σ S0 H0 S H D g so q => rd_t hc σ H0 S H _ so fun S' H' g1 => by
    cases k with
    | true => exact rd_ss (h1 rfl) σ S0 H0 S' H' D (g.trans g1) (so.grow g1) q
    | false => exact rd_ss (h2 rfl) σ S0 H0 S' H' D (g.trans g1) (so.grow g1) q
/-- methods of an owned list -/
theorem own_at {K : PySem.W.Frag} {H0 S H : Hp} {σ : L2.St} {k : Nat} (so : StOk K H0 S H σ δ) (hk : δ[k]? = some (.own ds)) : ∃ l vs, σ[k]? = some (some (.ref l)) ∧ S l = none ∧ H0 l = none ∧ H l = some (.lst vs) ∧ DpAll K S vs ds := by
  obtain ⟨o, e1, l, vs, e2, h1, h2, h3, h4⟩ := so.at_ k _ hk
  subst e2
  exact ⟨l, vs, e1, h1, h2, h3, h4⟩
theorem sx_append (k : Nat) {x : Str} {apos : Pos} {p2 : Pos} (hk : δ[k]? = some (.own ds)) (he : EX X e δ d) (hz : ds.length < sizeLine) (kk : E.nx (δ.set k (.own (ds ++ [d])))) (hN : X.N[k]? = some x := by rfl)
    (hv : Vis X.env.scope x := by first | exact Or.inl rfl | exact Or.inr (Or.inl rfl) | exact Or.inr (Or.inr rfl)) (hb : (x == ("__debug__" : Str)) = false := by decide) (hcd : (x == ("__classdict__" : Str)) = false := by decide)
    (hbase : attributeBase (.Name x p) "append" X.env (eval (.Name x p) X.env) = eval (.Name x p) X.env := by rfl) (hfew : ((backTo p2 (starEach [e] X.env)).all (fun x => !x.1) && (backToKw p2 (keywordEach [] X.env)).all (fun x => x.1.isSome) && decide (([e] : List Expr).length + ([] : List Keyword).length + (if ([] : List Keyword).isEmpty then 0 else 1) < 30)) = true := by rfl) (hline : (apos.endLine == p2.line) = true := by rfl) (hst : starEach [e] X.env = (false, eval e X.env) :: starEach [] X.env := by rfl)
    (hpl : (backTo p2 (starEach [] X.env)).any (·.1) = false := by rfl) (hs : swapsWith (.Call (.Attribute (.Name x p) "append" apos) [e] [] p2) none pos.line X.env = pure false := by rfl) :
    SX X (.Expr (.Call (.Attribute (.Name x p) "append" apos) [e] [] p2) pos) δ E :=
  SX.of (ps_expr (pe_bm PySem.F.plainAttrs_list PySem.F.slot_list_append PySem.F.type_list_append mt_append (pe_var hN hv hb hcd) (pa_cons pe_c pa_nil hst) hbase hfew hline hst hpl) hs) fun σ S0 H0 S H D g so q => by
    obtain ⟨l, vs, e1, hs1, h01, hh1, hd1⟩ := own_at so hk
    refine ⟨_, e1, Or.inl ⟨rfl, _, SqL.of hh1⟩, ?_⟩
    refine rd_c he σ H0 S H _ so fun v S' H' g1 dv => ?_
    have so1 := so.grow g1
    have hs2 : S' l = none := g1.nw l hs1 (by rw [hh1]; exact fun z => nomatch z)
    have hh2 := g1.hh _ _ hh1
    refine ⟨l, vs, v, rfl, rfl, hh2, by rw [dps_len hd1]; exact hz, ?_⟩
    refine q.nx σ _ S' _ kk ((g.trans g1).mut h01 hs2) (so1.change hk trivial e1 ?_)
    exact ⟨l, _, rfl, hs2, h01, upd_same, dps_app (hd1.mono g1.ss) (dps_one dv)⟩
theorem sx_extend (k : Nat) {x : Str} {apos : Pos} {p2 : Pos} {es : List PyData} (hk : δ[k]? = some (.own ds)) (he : EXo X e δ es) (hz : ds.length + es.length ≤ sizeLine) (kk : E.nx (δ.set k (.own (ds ++ es)))) (hN : X.N[k]? = some x := by rfl)
    (hv : Vis X.env.scope x := by first | exact Or.inl rfl | exact Or.inr (Or.inl rfl) | exact Or.inr (Or.inr rfl)) (hb : (x == ("__debug__" : Str)) = false := by decide) (hcd : (x == ("__classdict__" : Str)) = false := by decide)
    (hbase : attributeBase (.Name x p) "extend" X.env (eval (.Name x p) X.env) = eval (.Name x p) X.env := by rfl) (hfew : ((backTo p2 (starEach [e] X.env)).all (fun x => !x.1) && (backToKw p2 (keywordEach [] X.env)).all (fun x => x.1.isSome) && decide (([e] : List Expr).length + ([] : List Keyword).length + (if ([] : List Keyword).isEmpty then 0 else 1) < 30)) = true := by rfl) (hline : (apos.endLine == p2.line) = true := by rfl) (hst : starEach [e] X.env = (false, eval e X.env) :: starEach [] X.env := by rfl)
    (hpl : (backTo p2 (starEach [] X.env)).any (·.1) = false := by rfl) (hs : swapsWith (.Call (.Attribute (.Name x p) "extend" apos) [e] [] p2) none pos.line X.env = pure false := by rfl) :
    SX X (.Expr (.Call (.Attribute (.Name x p) "extend" apos) [e] [] p2) pos) δ E :=
  SX.of (ps_expr (pe_bm PySem.F.plainAttrs_list PySem.F.slot_list_extend PySem.F.type_list_extend mt_extend (pe_var hN hv hb hcd) (pa_cons pe_o pa_nil hst) hbase hfew hline hst hpl) hs) fun σ S0 H0 S H D g so q => by
    obtain ⟨l, vs, e1, hs1, h01, hh1, hd1⟩ := own_at so hk
    refine ⟨_, e1, Or.inl ⟨rfl, _, SqL.of hh1⟩, ?_⟩
    refine rd_o he σ H0 S H _ so fun r us S' H' g1 hsr hnr hhr dv => ?_
    have so1 := so.grow g1
    have hs2 : S' l = none := g1.nw l hs1 (by rw [hh1]; exact fun z => nomatch z)
    have hh2 := g1.hh _ _ hh1
    refine ⟨l, r, vs, us, rfl, rfl, hh2, hhr, by rw [dps_len hd1, dps_len dv]; exact hz, ?_⟩
    refine q.nx σ _ S' _ kk ((g.trans g1).mut h01 hs2) (so1.change hk trivial e1 ?_)
    exact ⟨l, _, rfl, hs2, h01, upd_same, dps_app (hd1.mono g1.ss) dv⟩
theorem ixN_at {n j : Nat} (hj : j < n) : ixN n (j : Int) = some j := by
  unfold ixN
  rw [if_pos (by omega), if_pos (by omega), Int.toNat_natCast]
theorem sx_setItem (k : Nat) {x : Str} {p2 : Pos} {j : Nat} (hk : δ[k]? = some (.own ds)) (he : EX X e δ d) (hb : EX X b δ (.int (j : Int))) (hj : j < ds.length) (kk : E.nx (δ.set k (.own (ds.set j d)))) (hN : X.N[k]? = some x := by rfl)
    (hv : Vis X.env.scope x := by first | exact Or.inl rfl | exact Or.inr (Or.inl rfl) | exact Or.inr (Or.inr rfl)) (hbb : (x == ("__debug__" : Str)) = false := by decide) (hcd : (x == ("__classdict__" : Str)) = false := by decide)
    (ha : ∀ v, assign (.Subscript (.Name x p) b p2) X.env v = (do
      let ov ← holding [v] (eval (.Name x p) X.env)
      let iv ← holding [v, ov] (eval b X.env)
      standAt p2
      holding [v, ov, iv] (setItem ov iv v)
      release [v, ov, iv] []) := by intro _; rfl)
    (hs : swapsWithSole [.Subscript (.Name x p) b p2] e pos.line X.env = pure false := by rfl) (hw : swappedStores [.Subscript (.Name x p) b p2] e X.env = pure none := by rfl)
    (h1 : (assignEach [.Subscript (.Name x p) b p2] X.env).map (·.2) = [assign (.Subscript (.Name x p) b p2) X.env] := by rfl) : SX X (.Assign [.Subscript (.Name x p) b p2] e pos) δ E :=
  SX.of (ps_asg pe_c (pg_sub (pe_var hN hv hbb hcd) pe_c set_list ha) hs hw h1) fun σ S0 H0 S H D g so q => rd_c he σ H0 S H _ so fun v S1 H1 g1 dv => by
    obtain ⟨l, vs, e1, hs1, h01, hh1, hd1⟩ := own_at (so.grow g1) hk
    refine ⟨_, e1, rd_c hb σ H0 S1 H1 _ (so.grow g1) fun u S2 H2 g2 du => ?_⟩
    have hs2 : S2 l = none := g2.nw l hs1 (by rw [hh1]; exact fun z => nomatch z)
    have hh2 := g2.hh _ _ hh1
    refine ⟨l, vs, j, j, rfl, dp_int du, hh2, ixN_at (by rw [dps_len hd1]; exact hj), ?_⟩
    refine q.nx σ _ S2 _ kk ((g.trans (g1.trans g2)).mut h01 hs2) (((so.grow g1).grow g2).change hk trivial e1 ?_)
    exact ⟨l, _, rfl, hs2, h01, upd_same, dps_set j (hd1.mono g2.ss) (dv.mono g2.ss)⟩

/-! ### loops -/
theorem sx_for {tg iter : Expr} {body : List Stmt} {items : List PyData} {t : Tg} (hp : PassesOwn (model X.prog X.w) X.A X.env X.xe) (hc : X.calm = true) (hi : IX X tg iter δ items) (hg : PG X tg (t.g X.K)) (P : Nat → List Slot → Prop) (h0 : P 0 δ)
    (hs : ∀ (i : Nat) (x : PyData) (δ' : List Slot), items[i]? = some x → P i δ' → ∃ δ'', t.ok x δ' δ'' ∧ SXs X body δ'' { nx := P (i + 1), rt := E.rt, ct := P (i + 1), bk := E.nx }) (hd : ∀ δ', P items.length δ' → E.nx δ')
    (hf : ∀ x, foldedSetIterable iter X.env x = pure x := by intro _; rfl) : SX X (.For tg iter body [] pos) δ E :=
  SX.of (ps_for hp hc pi_c hg pss_c hf) fun σ S0 H0 S H D g so q => rd_ci hi σ H0 S H _ so fun J S1 H1 g1 wk => by
    refine ⟨fun i m σ' H' => m = items.length - i ∧ i ≤ items.length ∧ ∃ δ' S', P i δ' ∧ Gr S0 H0 S' H' ∧ Same S1 S' ∧ StOk X.K H0 S' H' σ' δ', ⟨items.length, by simp, Nat.zero_le _, δ, S1, h0, g.trans g1, Same.refl _, so.grow g1⟩, ?_⟩
    rintro i m σ' H' ⟨rfl, hi2, δ', S', hP, g2, s12, so2⟩
    by_cases hlt : i < items.length
    · refine Or.inr ⟨wk.go i S' H' s12 so2.sh hlt, fun σ3 H3 => ∃ δ3 S3, P (i + 1) δ3 ∧ Gr S0 H0 S3 H3 ∧ Same S1 S3 ∧ StOk X.K H0 S3 H3 σ3 δ3, fun σ3 H3 z => ⟨items.length - (i + 1), by omega, rfl, hlt, z⟩, fun x H'' y => ?_⟩
      obtain ⟨S'', d, g3, hd', dx⟩ := wk.yld i S' H' x H'' s12 so2.sh hlt y
      obtain ⟨δ'', hok, hbody⟩ := hs i d δ' hd' hP
      refine Tg.run hok (so2.grow g3) dx _ fun σ2 hso hl hk => ?_
      have so3 := hso S'' H'' (Same.refl _) (so2.grow g3)
      have gg : Gr S0 H0 S'' H'' := g2.trans g3
      -- the frozen part at the turn's start stays
      have kt : Kt X.K H0 S'' { nx := P (i + 1), rt := E.rt, ct := P (i + 1), bk := E.nx } { D with nx := fun σ3 H3 => ∃ δ3 S3, P (i + 1) δ3 ∧ Gr S0 H0 S3 H3 ∧ Same S1 S3 ∧ StOk X.K H0 S3 H3 σ3 δ3, ct := fun σ3 H3 => ∃ δ3 S3, P (i + 1) δ3 ∧ Gr S0 H0 S3 H3 ∧ Same S1 S3 ∧ StOk X.K H0 S3 H3 σ3 δ3, bk := D.nx } := by
        have back : ∀ {S3 H3 : Hp}, Gr S'' H0 S3 H3 → Gr S0 H0 S3 H3 := fun {S3 H3} z => ⟨gg.ss.trans z.ss, z.sh, z.hh, fun b e n => z.nw b (gg.nw b e n) n⟩
        refine ⟨fun σ3 δ3 S3 H3 a b c => ⟨δ3, S3, a, back b, s12.trans (g3.ss.trans b.ss), c⟩, fun v d σ3 δ3 S3 H3 a b c e => q.rt v d σ3 δ3 S3 H3 a (back b) c e, fun σ3 δ3 S3 H3 a b c => q.nx σ3 δ3 S3 H3 a (back b) c, fun σ3 δ3 S3 H3 a b c => ⟨δ3, S3, a, back b, s12.trans (g3.ss.trans b.ss), c⟩⟩
      exact rd_ss hbody σ2 S'' H0 S'' H'' _ ⟨Same.refl _, so3.sh, gg.hh, fun b e _ => e⟩ so3 kt
    · have e : i = items.length := by omega
      subst e
      exact Or.inl ⟨wk.stop S' H' s12 so2.sh, q.nx σ' δ' S' H' (hd δ' hP) g2 so2⟩
theorem sx_while {body : List Stmt} (hp : PassesOwn (model X.prog X.w) X.A X.env X.xe) (W : Nat → List Slot → Prop) (m0 : Nat) (h0 : W m0 δ)
    (hs : ∀ m δ', W m δ' → ∃ k, TX X c δ' k ∧ (k = true → SXs X body δ' { nx := fun δ2 => ∃ m', m' < m ∧ W m' δ2, rt := E.rt, ct := fun δ2 => ∃ m', m' < m ∧ W m' δ2, bk := E.nx }) ∧ (k = false → E.nx δ')) : SX X (.While c body [] pos) δ E :=
  SX.of (ps_while hp pt_c pss_c) fun σ S0 H0 S H D g so q => by
    refine ⟨fun m σ' H' => ∃ δ' S', W m δ' ∧ Gr S0 H0 S' H' ∧ StOk X.K H0 S' H' σ' δ', ⟨m0, δ, S, h0, g, so⟩, ?_⟩
    rintro m σ' H' ⟨δ', S', hW, g2, so2⟩
    obtain ⟨k, hc, h1, h2⟩ := hs m δ' hW
    refine rd_t hc σ' H0 S' H' _ so2 fun S3 H3 g3 => ?_
    cases k with
    | true =>
      refine ⟨fun σ4 H4 => ∃ m', m' < m ∧ ∃ δ4 S4, W m' δ4 ∧ Gr S0 H0 S4 H4 ∧ StOk X.K H0 S4 H4 σ4 δ4, fun σ4 H4 z => z, ?_⟩
      refine rd_ss (h1 rfl) σ' S0 H0 S3 H3 _ (g2.trans g3) (so2.grow g3) ⟨fun σ4 δ4 S4 H4 ⟨m', lt, w⟩ b c => ⟨m', lt, δ4, S4, w, b, c⟩, q.rt, q.nx, fun σ4 δ4 S4 H4 ⟨m', lt, w⟩ b c => ⟨m', lt, δ4, S4, w, b, c⟩⟩
    | false => exact q.nx σ' δ' S3 H3 (h2 rfl) (g2.trans g3) (so2.grow g3)
end

/-! ### the text's own defs -/
/-- a promise over data -/
def spD (K : PySem.W.Frag) (G : List PyData → PyData → Prop) : Sp := fun vs H Q _ => ∃ (S : Hp) (ds : List PyData) (d : PyData), Same S H ∧ DpAll K S vs ds ∧ G ds d ∧ ∀ v S' H', Gr S H S' H' → Dp K S' v d → Q v H'
section
variable {X : Cx} {δ : List Slot} {e : Expr} {es : List Expr} {d : PyData} {ds dds : List PyData} {pos p : Pos} {G : List PyData → PyData → Prop} {CX : CXT} {k : Nat} {f : Addr} {fd : FuncData} {ps : List Str} {x : Str} {us : List Value} {dvs : List V} {Ex : XK}
theorem ex_callD (F : FnOk X.prog X.w X.K X.mg X.base CX k f fd ps (spD X.K G)) (hr : Room k X.A) (hm : X.mg x = some (.ref f)) (hk : PySem.W.keepIn X.K (.ref f) = true) (hb : Binds X.K fd ps us) (hd : Vals dvs us) (hdd : ∀ S, DpAll X.K S dvs dds) (hx : Passes CX X Ex)
    (ha : AX X (e :: es) δ ds) (hG : G (ds ++ dds) d) (hg : Gl X x := by rfl) (hdb : (x == ("__debug__" : Str)) = false := by decide) (he : starEach (e :: es) X.env = (false, eval e X.env) :: starEach es X.env := by rfl) (hpl : (backTo pos (starEach es X.env)).any (·.1) = false := by rfl) :
    EX X (.Call (.Name x p) (e :: es) [] pos) δ d :=
  EX.of (pe_call F hr hg hm hk hb hd hx pa_c hdb he hpl) fun σ H0 S H Q so q => rd_a ha σ H0 S H _ so fun vs S1 H1 g1 d1 =>
    ⟨S1, ds ++ dds, d, g1.sh, dps_app d1 (hdd S1), hG, fun v S' H' g2 dv => q v S' H' (g1.trans g2) dv⟩
theorem ex_call (F : FnOk X.prog X.w X.K X.mg X.base CX0 k f fd ps (spD X.K G)) (hr : Room k X.A) (hm : X.mg x = some (.ref f)) (hk : PySem.W.keepIn X.K (.ref f) = true) (hb : Binds X.K fd ps [])
    (ha : AX X (e :: es) δ ds) (hG : G ds d) (hg : Gl X x := by rfl) (hdb : (x == ("__debug__" : Str)) = false := by decide) (he : starEach (e :: es) X.env = (false, eval e X.env) :: starEach es X.env := by rfl) (hpl : (backTo pos (starEach es X.env)).any (·.1) = false := by rfl) :
    EX X (.Call (.Name x p) (e :: es) [] pos) δ d :=
  ex_callD F hr hm hk hb .nil (fun _ => .nil) pass0 ha (by rw [List.append_nil]; exact hG) hg hdb he hpl
end
/-- the entry's slots -/
def startD (N : List Str) (ds : List PyData) : List Slot := ds.map Slot.d ++ List.replicate (N.length - ds.length) Slot.un
theorem start_ok {K : PySem.W.Frag} {S H : Hp} {N : List Str} {vs : List V} {ds : List PyData} (sh : Same S H) (h : DpAll K S vs ds) : StOk K H S H (L2.start N vs) (startD N ds) := by
  have hl := dps_len h
  refine ⟨sh, by simp [L2.start, startD, hl], fun i s e => ?_, fun i j a s t hij e1 e2 o1 o2 => ?_⟩
  · unfold startD at e
    unfold L2.start
    by_cases hi : i < ds.length
    · rw [List.getElem?_append_left (by simpa using hi), List.getElem?_map] at e
      obtain ⟨d, hd, rfl⟩ := Option.map_eq_some_iff.mp e
      obtain ⟨v, hv, dv⟩ := dps_getD h hd
      refine ⟨some v, ?_, v, rfl, dv⟩
      rw [List.getElem?_append_left (by rw [List.length_map]; omega), List.getElem?_map, hv]
      rfl
    · rw [List.getElem?_append_right (by simpa using hi), List.length_map] at e
      have hlt := (List.getElem?_eq_some_iff.mp e).1
      have e' := List.getElem?_replicate (a := Slot.un) (n := N.length - ds.length) (i := i - ds.length)
      rw [e'] at e
      split at e
      · cases e
        refine ⟨none, ?_, trivial⟩
        rw [List.getElem?_append_right (by rw [List.length_map]; omega), List.length_map, hl, List.getElem?_replicate, if_pos (by assumption)]
      · cases e
  · have no : ∀ (i : Nat) (s : Slot), (startD N ds)[i]? = some s → ¬ Owned s := fun i s e => by
      unfold startD at e
      by_cases hi : i < ds.length
      · rw [List.getElem?_append_left (by simpa using hi), List.getElem?_map] at e
        obtain ⟨d, hd, rfl⟩ := Option.map_eq_some_iff.mp e
        exact id
      · rw [List.getElem?_append_right (by simpa using hi), List.getElem?_replicate] at e
        split at e
        · cases e
          exact id
        · cases e
    exact (no i s e1 o1).elim
theorem fn_data {P : Program} {w : World} {K : PySem.W.Frag} {mg : Str → Option Value} {base : Heap} {x qual : Str} {st : Stmt} {f : Addr} {fd : FuncData} {N ps : List Str} {k : Nat} {G : List PyData → PyData → Prop} (F : Fun K x qual st f fd) (S : FnScope N ps (defScope st))
    (hl : ∀ ds d, G ds d → ds.length = ps.length)
    (body : ∀ (X : Cx), (∃ cdv A outer s H E, X = (cxOf CX0 P w K mg base N qual (defScope st) f cdv A outer s H E).nox) → Room k X.A → ∀ ds d, G ds d → SXs X (defBody st) (startD N ds) { nx := fun _ => d = .none, rt := fun r _ => r = d }) :
    FnOk P w K mg base CX0 (k + 1) f fd ps (spD K G) := by
  refine F.ok S (fun vs H Q E h => ?_) fun cdv A outer s H vs Q E hr h => ?_
  · obtain ⟨S', ds, d, _, h1, h2, _⟩ := h
    rw [dps_len h1]
    exact hl ds d h2
  · obtain ⟨S', ds, d, sh, h1, h2, q⟩ := h
    refine ⟨_, pss_c, startD N ds, _, S', H, S', body _ ⟨cdv, A, outer, s, H, E, rfl⟩ hr ds d h2, Gr.refl sh, start_ok sh h1, ?_⟩
    refine ⟨fun σ' δ' S1 H1 e g so => ?_, fun v r σ' δ' S1 H1 e g so dv => ?_, fun _ _ _ _ e => e.elim, fun _ _ _ _ e => e.elim⟩
    · subst e
      exact q .non S1 H1 g .non
    · subst e
      exact q v S1 H1 g dv
end DL
set_option Elab.async false
set_option linter.all false
set_option maxRecDepth 100000
set_option maxHeartbeats 4000000
/-! DL6: zip and enumerate of lists and tuples alike, tuple(range(..)). -/
namespace DL
open PySem PySem.Spec PyProof.Rows L2

def isL : PyData → Bool
  | .list _ => true
  | _ => false
/-! ### lists and tuples alike: true is a list -/
def kSq (k : Bool) (K : PySem.W.Frag) (H : Hp) (a : Addr) (xs : List V) : Prop := cond k (SqL K H a xs) (SqT K H a xs)
def kIt (k : Bool) (h : Heap) (it a : Addr) (i : Nat) : Prop := cond k (h.IsListIter it a i) (h.IsTupleIter it a i)
def kIs (k : Bool) (h : Heap) (a : Addr) (xs : Array Value) : Prop := cond k (h.IsList a xs) (h.IsTuple a xs)
def kOb (k : Bool) (a : Addr) : Obj := cond k { cls := .type "list_iterator", data := .fields #[.ref a, .int 0 0] } { cls := .type "tuple_iterator", data := .fields #[.ref a, .int 0 0] }
theorem k_draws {P : Program} {w : World} {A : Around} (k : Bool) (hh : A.handled = none) (it a : Addr) (hne : a ≠ it) (xs : Array Value) : Draws P w A it [it, a] xs.size (fun i v => xs[i]? = some v) (fun i h => kIt k h it a i ∧ kIs k h a xs) := by
  cases k with
  | true => exact Draws.list hh it a hne xs
  | false => exact Draws.tuple hh it a hne xs
theorem k_begins (k : Bool) (a : Addr) (xs : Array Value) : Begins (.ref a) (kOb k a) fun h => kIs k h a xs := by
  cases k with
  | true => exact begins_list a xs
  | false => exact begins_tuple a xs
theorem k_inv {X : Cx} {pins : List (Addr × Obj)} {σ : L2.St} {H : Hp} {s : Shared} {a : Addr} {xs : List V} (k : Bool) (I : Inv X pins σ H s) (h : kSq k X.K H a xs) : ∃ its : List Value, Vals xs its ∧ kIs k s.heap a its.toArray ∧ a < s.heap.objs.size := by
  cases k with
  | true =>
    obtain ⟨its, rv, pl, _⟩ := I.list h
    exact ⟨its, rv, pl.isList, pl.lt⟩
  | false =>
    obtain ⟨its, rv, pt, _⟩ := I.tuple h
    exact ⟨its, rv, pt, pt.lt⟩
theorem k_same {K : PySem.W.Frag} {S H : Hp} {a : Addr} {xs : List V} (k : Bool) (sh : Same S H) (h : kSq k K S a xs) : kSq k K H a xs := by
  cases k with
  | true => exact Same.sql sh h
  | false => exact Same.sqt sh h
theorem k_new (k : Bool) {h : Heap} {it a : Addr} (e : h.get? it = some (kOb k a)) : kIt k h it a 0 := by
  cases k with
  | true => exact ⟨_, e, rfl, rfl⟩
  | false => exact ⟨_, e, rfl, rfl⟩
theorem k_obj (k : Bool) {h : Heap} {it a : Addr} {i : Nat} (st : kIt k h it a i) : ∃ o n, h.get? it = some o ∧ o.cls = .type n ∧ n ≠ "list" ∧ n ≠ "tuple" ∧ ∀ v, o.data ≠ .cell v := by
  cases k with
  | true =>
    obtain ⟨o, e, c, d⟩ := st
    exact ⟨o, _, e, c, by decide, by decide, fun v z => by rw [d] at z; cases z⟩
  | false =>
    obtain ⟨o, e, c, d⟩ := st
    exact ⟨o, _, e, c, by decide, by decide, fun v z => by rw [d] at z; cases z⟩
theorem k_keep (k : Bool) {h h' : Heap} {it a : Addr} {i : Nat} (st : kIt k h it a i) (e : ∀ o, h.get? it = some o → h'.get? it = some o) : kIt k h' it a i := by
  cases k with
  | true => exact Heap.IsListIter.at st fun o q => e o q
  | false => exact Heap.IsTupleIter.at st fun o q => e o q
theorem k_det {X : Cx} {pins : List (Addr × Obj)} {σ : L2.St} {H : Hp} {s : Shared} {a : Addr} {xs ys : List V} (k : Bool) (I : Inv X pins σ H s) (h : kSq k X.K H a xs) (h' : kSq k X.K H a ys) : xs = ys := by
  cases k with
  | true => exact I.list_inj h h'
  | false => exact I.tuple_inj h h'

/-! ### zip -/
def ItzK (K : PySem.W.Frag) (k l : Bool) (a b : Addr) : It where
  go := fun i H => ∃ (xs ys : List V) (x y : V), kSq k K H a xs ∧ kSq l K H b ys ∧ xs[i]? = some x ∧ ys[i]? = some y
  yld := fun i H v H' => ∃ T x y, v = .ref T ∧ H T = none ∧ H' = upd H T (.tup [x, y]) ∧ (∀ xs, kSq k K H a xs → xs[i]? = some x) ∧ ∀ ys, kSq l K H b ys → ys[i]? = some y
  stop := fun i H => ∃ xs ys : List V, kSq k K H a xs ∧ kSq l K H b ys ∧ i ≤ xs.length ∧ i ≤ ys.length ∧ (i = xs.length ∨ i = ys.length)
theorem turn_zipK {P : Program} {w : World} {K : PySem.W.Frag} {elts : List Expr} {kk : Nat} {tpos : Pos} {k l : Bool} {a b z TI TO i1 i2 : Addr} (D : ZipSep2 z TI TO i1 i2 [i1, a] [i2, b]) :
    Turn P w K (.Tuple elts kk tpos) (ItzK K k l a b) [z, TI, TO, i1, i2] z (fun i h => IsZip h z TI TO .none ∧ IsTupOf2 h TI (.ref i1) (.ref i2) ∧ (∃ x y, IsTupOf2 h TO x y) ∧ kIt k h i1 a i ∧ kIt l h i2 b i) where
  mem := List.mem_cons_self ..
  obj := fun i h st c hc => by
    obtain ⟨hz, hTI, ⟨x, y, hTO⟩, g1, g2⟩ := st
    obtain ⟨o1, _, e1, _, _, _, d1⟩ := k_obj k g1
    obtain ⟨o2, _, e2, _, _, _, d2⟩ := k_obj l g2
    simp only [List.mem_cons, List.not_mem_nil, or_false] at hc
    rcases hc with q | q | q | q | q
    · exact ⟨_, q ▸ hz, by intro v r; cases r⟩
    · exact ⟨_, q ▸ hTI, by intro v r; cases r⟩
    · exact ⟨_, q ▸ hTO, by intro v r; cases r⟩
    · exact ⟨o1, q ▸ e1, d1⟩
    · exact ⟨o2, q ▸ e2, d2⟩
  keep := fun i h h' st kp => by
    obtain ⟨hz, hTI, ⟨x, y, hTO⟩, g1, g2⟩ := st
    exact ⟨kp z (by simp) _ hz, kp TI (by simp) _ hTI, ⟨x, y, kp TO (by simp) _ hTO⟩, k_keep k g1 fun o q => kp i1 (by simp) o q, k_keep l g2 fun o q => kp i2 (by simp) o q⟩
  item := by
    intro X hP hw hK hc i pins s σ H E I hf st hg
    subst hP hw hK
    obtain ⟨hz, hTI, ⟨x0, y0, hTO⟩, g1, g2⟩ := st
    obtain ⟨xs, ys, x, y, hx, hy, ex, ey⟩ := hg
    obtain ⟨its, rv, p1, _⟩ := k_inv k I hx
    obtain ⟨its2, rv2, p2, _⟩ := k_inv l I hy
    obtain ⟨u, hu, ru⟩ := rv.get ex
    obtain ⟨u2, hu2, ru2⟩ := rv2.get ey
    have ne1 : a ≠ i1 := fun q => by
      have h1 := D.sep2_1
      obtain ⟨o, n, e, c, n1, n2, _⟩ := k_obj k g1
      subst q
      cases k with
      | true =>
        obtain ⟨o', e', c', _⟩ := p1
        rw [e] at e'
        cases e'
        rw [c] at c'
        exact n1 (by injection c')
      | false =>
        obtain ⟨o', e', c', _⟩ := p1
        rw [e] at e'
        cases e'
        rw [c] at c'
        exact n2 (by injection c')
    have ne2 : b ≠ i2 := fun q => by
      obtain ⟨o, n, e, c, n1, n2, _⟩ := k_obj l g2
      subst q
      cases l with
      | true =>
        obtain ⟨o', e', c', _⟩ := p2
        rw [e] at e'
        cases e'
        rw [c] at c'
        exact n1 (by injection c')
      | false =>
        obtain ⟨o', e', c', _⟩ := p2
        rw [e] at e'
        cases e'
        rw [c] at c'
        exact n2 (by injection c')
    have D1 := k_draws (P := X.prog) (w := X.w) (A := X.A.in1) k (I.ok.hd hc) i1 a ne1 its.toArray
    have D2 := k_draws (P := X.prog) (w := X.w) (A := X.A.in1) l (I.ok.hd hc) i2 b ne2 its2.toArray
    have lt1 : i < its.toArray.size := by
      have := (List.getElem?_eq_some_iff.mp hu).1
      simpa using this
    have lt2 : i < its2.toArray.size := by
      have := (List.getElem?_eq_some_iff.mp hu2).1
      simpa using this
    have hzl : z < s.heap.objs.size := Heap.lt_size hz
    refine wpAny_pyNext_zipD2_item D D1 D2 hz hTI hTO ⟨g1, p1⟩ ⟨g2, p2⟩ lt1 lt2 fun r1 r2 h' tk q1 q2 z' TO' st1 st2 hT hsz hk => ?_
    have er1 : r1 = u := by
      have : its.toArray[i]? = some u := by simpa using hu
      rw [this] at q1
      exact (Option.some.inj q1).symm
    have er2 : r2 = u2 := by
      have : its2.toArray[i]? = some u2 := by simpa using hu2
      rw [this] at q2
      exact (Option.some.inj q2).symm
    subst er1 er2
    refine ⟨_, rfl, wpAny_letOwnedTupleGo_zip (s := { s with heap := h', toks := tk }) z' fun h'' z'' sb => ?_⟩
    have hT2 : h''.get? s.heap.objs.size = some { cls := .type "tuple", data := .seq #[r1, r2] } := (sb.2 _ (Nat.ne_of_gt hzl)).trans hT
    have new : ObjOk X.prog X.w (upd H s.heap.objs.size (.tup [x, y])) h'' s.heap.objs.size (.tup [x, y]) := by
      refine ⟨by show 2 ≤ sizeLine; decide, [r1, r2], .cons ru (.cons ru2 .nil), ⟨_, hT2, rfl, _, rfl⟩⟩
    have I1 : Inv X pins σ (upd H s.heap.objs.size (.tup [x, y])) { s with heap := h'', toks := tk } := by
      refine I.turnedNew (ch := [z, TI, TO, i1, i2]) (fun c o hb q => ?_) hf (Nat.le_refl _) new
      simp only [List.mem_cons, List.not_mem_nil, or_false, not_or] at hb
      obtain ⟨b1, b2, b3, b4, b5⟩ := hb
      exact (sb.2 c b1).trans (hk c o b1 b3 b4 b5 q)
    refine ⟨.ref s.heap.objs.size, _, I1, rfl, ⟨_, x, y, rfl, I.hok.fresh (Nat.le_refl _), rfl, fun zs hzs => ?_, fun zs hzs => ?_⟩, ⟨z'', ?_, ⟨r1, r2, ?_⟩, ?_, ?_⟩, fun c hcm => ?_⟩
    · rw [k_det k I hzs hx]
      exact ex
    · rw [k_det l I hzs hy]
      exact ey
    · exact (sb.2 _ D.TIz).trans (hk _ _ D.TIz D.TITO D.TIi1 D.TIi2 hTI)
    · exact (sb.2 _ D.TOz).trans TO'
    · exact k_keep k st1.1 fun o q => (sb.2 _ D.zi1.symm).trans q
    · exact k_keep l st2.1 fun o q => (sb.2 _ D.zi2.symm).trans q
    · have hlt : c < s.heap.objs.size := by
        obtain ⟨o1, _, e1, _⟩ := k_obj k g1
        obtain ⟨o2, _, e2, _⟩ := k_obj l g2
        simp only [List.mem_cons, List.not_mem_nil, or_false] at hcm
        rcases hcm with q | q | q | q | q
        · exact q ▸ hzl
        · exact q ▸ Heap.lt_size hTI
        · exact q ▸ Heap.lt_size hTO
        · exact q ▸ Heap.lt_size e1
        · exact q ▸ Heap.lt_size e2
      rw [upd_ne (Nat.ne_of_lt hlt)]
      exact (hf c hcm).1
  done := by
    intro X hP hw hK hc i pins s σ H E I hf st hg
    subst hP hw hK
    obtain ⟨hz, hTI, ⟨x0, y0, hTO⟩, g1, g2⟩ := st
    obtain ⟨xs, ys, hx, hy, le1, le2, hend⟩ := hg
    obtain ⟨its, rv, p1, _⟩ := k_inv k I hx
    obtain ⟨its2, rv2, p2, _⟩ := k_inv l I hy
    have l1 := rv.length
    have l2 := rv2.length
    have ne1 : a ≠ i1 := fun q => by
      obtain ⟨o, n, e, c, n1, n2, _⟩ := k_obj k g1
      subst q
      cases k with
      | true =>
        obtain ⟨o', e', c', _⟩ := p1
        rw [e] at e'
        cases e'
        rw [c] at c'
        exact n1 (by injection c')
      | false =>
        obtain ⟨o', e', c', _⟩ := p1
        rw [e] at e'
        cases e'
        rw [c] at c'
        exact n2 (by injection c')
    have ne2 : b ≠ i2 := fun q => by
      obtain ⟨o, n, e, c, n1, n2, _⟩ := k_obj l g2
      subst q
      cases l with
      | true =>
        obtain ⟨o', e', c', _⟩ := p2
        rw [e] at e'
        cases e'
        rw [c] at c'
        exact n1 (by injection c')
      | false =>
        obtain ⟨o', e', c', _⟩ := p2
        rw [e] at e'
        cases e'
        rw [c] at c'
        exact n2 (by injection c')
    have D1 := k_draws (P := X.prog) (w := X.w) (A := X.A.in1) k (I.ok.hd hc) i1 a ne1 its.toArray
    have D2 := k_draws (P := X.prog) (w := X.w) (A := X.A.in1) l (I.ok.hd hc) i2 b ne2 its2.toArray
    have s1 : its.toArray.size = xs.length := by rw [List.size_toArray]; exact l1.symm
    have s2 : its2.toArray.size = ys.length := by rw [List.size_toArray]; exact l2.symm
    refine wpAny_pyNext_zipD2_end D D1 D2 hz hTI hTO ⟨g1, p1⟩ ⟨g2, p2⟩ (by omega) (by omega) (by omega) fun h' tk hk => ⟨rfl, ?_⟩
    refine I.turnedL (t' := tk) (ch := [z, TI, TO, i1, i2]) (fun c o hb q => ?_) hf
    simp only [List.mem_cons, List.not_mem_nil, or_false, not_or] at hb
    obtain ⟨b1, b2, b3, b4, b5⟩ := hb
    exact hk c o b1 b3 b4 b5 q
  self := fun A i s Q E st h => wpAny_pyIter_zip st.1 h
def iZipK (K : PySem.W.Frag) (k l : Bool) (ta : TA) : TI := fun σ H R => ta σ H fun vs H1 => ∃ a b xs ys, vs = [.ref a, .ref b] ∧ kSq k K H1 a xs ∧ kSq l K H1 b ys ∧ R (ItzK K k l a b) H1
theorem pi_zipK {X : Cx} {e e2 : Expr} {ta : TA} {p pos tpos : Pos} {elts : List Expr} {kk : Nat} (k l : Bool) (hg : Gl X "zip") (hm : X.mg "zip" = none) (ha : PA X [e, e2] ta)
    (hs : starEach [e, e2] X.env = (false, eval e X.env) :: starEach [e2] X.env := by rfl) (hpl : (backTo pos (starEach [e2] X.env)).any (·.1) = false := by rfl) : PI X (.Tuple elts kk tpos) (.Call (.Name "zip" p) [e, e2] [] pos) (iZipK X.K k l ta) := by
  refine ⟨fun pins s σ H R I h => ?_⟩
  refine Call_ (ld_blt I hg hm PyProof.Rows.boot_zip (PyProof.Rows.callWith_type1 (thn (ha.run pos pins s σ H _ I h) fun us s1 ⟨vs, H1, I1, r1, q1⟩ => ?_) hs hpl))
  obtain ⟨a, b, xs, ys, ev, hx, hy, q⟩ := q1
  subst ev
  obtain ⟨u1, u2, rfl, ra, rb⟩ := vals2 r1
  cases ra
  cases rb
  obtain ⟨its, rv, p1, lta⟩ := k_inv k I1 hx
  obtain ⟨its2, rv2, p2, ltb⟩ := k_inv l I1 hy
  refine zip_begins2 (k_begins k a its.toArray) (k_begins l b its2.toArray) p1 p2 fun h' hz hTI hTO e1 e2 hsz hk => wpAny_pyIter_zip hz ?_
  have I2 : Inv X pins σ H1 { s1 with heap := h' } := I1.kept (t' := s1.toks) hk
  have D : ZipSep2 (s1.heap.objs.size + 4) (s1.heap.objs.size + 2) (s1.heap.objs.size + 3) s1.heap.objs.size (s1.heap.objs.size + 1) [s1.heap.objs.size, a] [s1.heap.objs.size + 1, b] :=
    zip_sep2 (fun c hc => by rw [List.mem_singleton.mp hc]; exact lta) fun c hc => by rw [List.mem_singleton.mp hc]; exact ltb
  refine ⟨_, _, _, _, H1, rfl, I2, turn_zipK (k := k) (l := l) D, ⟨hz, hTI, ⟨_, _, hTO⟩, k_new k e1, k_new l e2⟩, fun c hcm => ?_, q⟩
  have hle : s1.heap.objs.size ≤ c := by
    simp only [List.mem_cons, List.not_mem_nil, or_false] at hcm
    rcases hcm with q | q | q | q | q <;> (rw [q]; first | exact Nat.le_add_right _ _ | exact Nat.le_refl _)
  exact I1.fpOk hle (I1.hok.fresh hle)
section
variable {X : Cx} {a b e : Expr} {δ : List Slot} {d da db : PyData} {ds es : List PyData} {pos p tpos : Pos} {elts : List Expr} {kk : Nat}
def zipD (ds es : List PyData) : List PyData := List.zipWith (fun x y => .tuple [x, y]) ds es
theorem zipD_len : (zipD ds es).length = min ds.length es.length := List.length_zipWith
theorem dp_k {K : PySem.W.Frag} {S : Hp} {v : V} (hs : isSeq d ds) (h : Dp K S v d) : ∃ a xs k, v = .ref a ∧ kSq k K S a xs ∧ DpAll K S xs ds ∧ (k = true ↔ d = .list ds) := by
  rcases hs with rfl | rfl
  · obtain ⟨a, xs, e, h1, h2⟩ := dp_lst h
    exact ⟨a, xs, true, e, h1, h2, by simp⟩
  · obtain ⟨a, xs, e, h1, h2⟩ := dp_tup h
    exact ⟨a, xs, false, e, h1, h2, by simp⟩
theorem walkd_zip {K : PySem.W.Frag} {k l : Bool} {x y : Addr} {xs ys : List V} {S1 : Hp} (hx : kSq k K S1 x xs) (hy : kSq l K S1 y ys) (dx : DpAll K S1 xs ds) (dy : DpAll K S1 ys es) : WalkD K (ItzK K k l x y) S1 (zipD ds es) where
  go := fun i S' H' s1 s2 hi => by
    rw [zipD_len] at hi
    have h1 := dps_len dx
    have h2 := dps_len dy
    exact ⟨xs, ys, xs[i]'(by omega), ys[i]'(by omega), k_same k s2 (k_same k s1 hx), k_same l s2 (k_same l s1 hy), by simp, by simp⟩
  stop := fun S' H' s1 s2 => by
    have h1 := dps_len dx
    have h2 := dps_len dy
    refine ⟨xs, ys, k_same k s2 (k_same k s1 hx), k_same l s2 (k_same l s1 hy), ?_, ?_, ?_⟩ <;> (rw [zipD_len]; omega)
  yld := fun i S' H' v H'' s1 s2 hi yl => by
    obtain ⟨T, u, w, rfl, hT, rfl, f1, f2⟩ := yl
    obtain ⟨d1, e1, p1⟩ := dps_get dx (f1 xs (k_same k s2 (k_same k s1 hx)))
    obtain ⟨d2, e2, p2⟩ := dps_get dy (f2 ys (k_same l s2 (k_same l s1 hy)))
    have ss : Same S' (upd S' T (.tup [u, w])) := fun b x z => by
      rw [upd_ne (ne_of_none z (s2.free hT))]
      exact z
    refine ⟨upd S' T (.tup [u, w]), .tuple [d1, d2], (Gr.refl s2).new hT, ?_, .tup (SqT.of upd_same) (.cons ((p1.mono s1).mono ss) (.cons ((p2.mono s1).mono ss) .nil))⟩
    unfold zipD
    rw [List.getElem?_zipWith, e1, e2]
theorem ix_zip (ha : EX X a δ da) (h1 : isSeq da ds) (hb : EX X b δ db) (h2 : isSeq db es) (hm : X.mg "zip" = none) (hg : Gl X "zip" := by rfl) (hs : starEach [a, b] X.env = (false, eval a X.env) :: starEach [b] X.env := by rfl) (hs2 : starEach [b] X.env = (false, eval b X.env) :: starEach [] X.env := by rfl)
    (hpl : (backTo pos (starEach [b] X.env)).any (·.1) = false := by rfl) : IX X (.Tuple elts kk tpos) (.Call (.Name "zip" p) [a, b] [] pos) δ (zipD ds es) := by
  refine IX.of (pi_zipK (isL da) (isL db) hg hm (pa_cons pe_c (pa_cons pe_c pa_nil hs2) hs) hs hpl) fun σ H0 S H R so q => rd_cons (rd_c ha) (rd_cons (rd_c hb) rd_nil) σ H0 S H _ so fun vs S1 H1 g1 d1 => ?_
  obtain ⟨v, u, rfl, dv, du⟩ := dps2 d1
  obtain ⟨x, xs, k, rfl, hx, dx, ek⟩ := dp_k h1 dv
  obtain ⟨y, ys, l, rfl, hy, dy, el⟩ := dp_k h2 du
  have e1 : isL da = k := by
    rcases h1 with rfl | rfl
    · exact (ek.mpr rfl).symm
    · cases k with
      | true => exact absurd (ek.mp rfl) (fun z => nomatch z)
      | false => rfl
  have e2 : (isL db) = l := by
    rcases h2 with rfl | rfl
    · exact (el.mpr rfl).symm
    · cases l with
      | true => exact absurd (el.mp rfl) (fun z => nomatch z)
      | false => rfl
  rw [e1, e2]
  exact ⟨x, y, xs, ys, rfl, k_same k g1.sh hx, k_same l g1.sh hy, q _ S1 H1 g1 (walkd_zip hx hy dx dy)⟩
end

/-! ### enumerate -/
theorem meets_enum1 {v : Value} {o : Obj} {Fh : Heap → Prop} (B : Begins v o Fh) :
    Meets (Builtin.«enumerate.__new__» ⟨[.type "enumerate", v], []⟩) (fun _ R s => Fh s.heap ∧
      R (.ok (.ret (.ref (s.heap.push o).objs.size))) { s with heap := (s.heap.push o).push { cls := .type "enumerate", data := .fields #[.none, .bool false, .ref s.heap.objs.size, rawInt 0, .none, .none] } }) :=
  .of_wp fun prog w A R s h => by
    obtain ⟨hp, gs, dr, tk, os⟩ := s
    obtain ⟨hF, hR⟩ := h
    have hsub := sub_enumerate
    have it1 : ∀ {A' : Around} {E : Value → Shared → Prop} {Q : Value → Shared → Prop}, Q (.ref hp.objs.size) ⟨hp.push o, gs, dr, tk, os⟩ → wpAny (model prog w) A' (pyIter v) Q E ⟨hp, gs, dr, tk, os⟩ := fun q => B.iter prog w _ _ ⟨hp, gs, dr, tk, os⟩ _ hF q
    wp_walk using it1
    refine wpAny_stack_any fun st => wpAny_pure ?_
    split
    · rename_i c _ _ _ _ _
      cases (c == Value.type "enumerate") <;> (wp_walk using it1; exact ⟨_, rfl, hR⟩)
    · wp_walk using it1
      exact ⟨_, rfl, hR⟩
section
variable {prog : Program} {w : World} {A : Around} {E : Value → Shared → Prop} {s : Shared}
theorem call_enum1 {v : Value} {o : Obj} {Fh : Heap → Prop} {Q : Value → Shared → Prop} (B : Begins v o Fh) (hF : Fh s.heap)
    (h : ∀ h', IsEnum h' (s.heap.objs.size + 1) s.heap.objs.size 0 .none → h'.get? s.heap.objs.size = some o → (∀ b u, s.heap.get? b = some u → h'.get? b = some u) → Q (.ref (s.heap.objs.size + 1)) { s with heap := h' }) :
    wpAny (model prog w) A (call (.type "enumerate") [v]) Q E s := by
  refine callType_new F.called_enumerate (by decide) (F.typeCall_enumerate_1 _) (F.newCall_enumerate_1 _) (fun obj => F.args_object_init_2 obj _) F.entry_enumerate_new (meets_enum1 B) ⟨hF, ?_⟩
  have hz : (s.heap.push o).objs.size = s.heap.objs.size + 1 := Heap.size_push ..
  show _ ∧ _
  rw [hz]
  have he : IsEnum ((s.heap.push o).push { cls := .type "enumerate", data := .fields #[.none, .bool false, .ref s.heap.objs.size, rawInt 0, .none, .none] }) (s.heap.objs.size + 1) s.heap.objs.size 0 .none := by
    rw [← hz]
    exact Heap.get?_push_size _ rfl
  exact ⟨⟨_, he, rfl⟩, h _ he (Heap.get?_push_of_some _ (Heap.get?_push_size _ B.free)) fun b u q => Heap.get?_push_of_some _ (Heap.get?_push_of_some _ q)⟩
end
def IteK (K : PySem.W.Frag) (k : Bool) (a : Addr) : It where
  go := fun i H => ∃ (xs : List V) (x : V), kSq k K H a xs ∧ xs[i]? = some x
  yld := fun i H v H' => ∃ T x, v = .ref T ∧ H T = none ∧ H' = upd H T (.tup [.int (i : Nat), x]) ∧ ∀ xs, kSq k K H a xs → xs[i]? = some x
  stop := fun i H => ∃ xs : List V, kSq k K H a xs ∧ xs.length = i
theorem k_apart (k : Bool) {h : Heap} {it a : Addr} {i : Nat} {xs : Array Value} (g : kIt k h it a i) (p : kIs k h a xs) : a ≠ it := fun q => by
  obtain ⟨o, n, e, c, n1, n2, _⟩ := k_obj k g
  subst q
  cases k with
  | true =>
    obtain ⟨o', e', c', _⟩ := p
    rw [e] at e'
    cases e'
    rw [c] at c'
    exact n1 (by injection c')
  | false =>
    obtain ⟨o', e', c', _⟩ := p
    rw [e] at e'
    cases e'
    rw [c] at c'
    exact n2 (by injection c')
theorem k_apartE (k : Bool) {h : Heap} {e it a : Addr} {i : Int} {old : Value} {xs : Array Value} (he : IsEnum h e it i old) (p : kIs k h a xs) : a ≠ e := fun q => by
  subst q
  have he' : h.get? a = some _ := he
  cases k with
  | true =>
    obtain ⟨o', e', c', _⟩ := p
    rw [he'] at e'
    cases e'
    exact absurd (Value.type.inj c') (by decide)
  | false =>
    obtain ⟨o', e', c', _⟩ := p
    rw [he'] at e'
    cases e'
    exact absurd (Value.type.inj c') (by decide)
theorem turn_enumK {P : Program} {w : World} {K : PySem.W.Frag} {elts : List Expr} {kk : Nat} {tpos : Pos} {k : Bool} (a e it : Addr) :
    Turn P w K (.Tuple elts kk tpos) (IteK K k a) [e, it] e (fun i h => (∃ old, IsEnum h e it ((i : Nat) : Int) old) ∧ kIt k h it a i ∧ e ≠ it) where
  mem := List.mem_cons_self ..
  obj := fun i h st b hb => by
    obtain ⟨⟨old, he⟩, g, _⟩ := st
    obtain ⟨o1, _, e1, _, _, _, d1⟩ := k_obj k g
    simp only [List.mem_cons, List.not_mem_nil, or_false] at hb
    rcases hb with q | q
    · exact ⟨_, q ▸ he, by intro v r; cases r⟩
    · exact ⟨o1, q ▸ e1, d1⟩
  keep := fun i h h' st kp => by
    obtain ⟨⟨old, he⟩, g, ne⟩ := st
    exact ⟨⟨old, kp e (by simp) _ he⟩, k_keep k g fun o q => kp it (by simp) o q, ne⟩
  item := by
    intro X hP hw hK hc i pins s σ H E I hf st hg
    subst hP hw hK
    obtain ⟨⟨old, he⟩, g, ne⟩ := st
    obtain ⟨xs, x, hx, ex⟩ := hg
    obtain ⟨its, rv, p1, _⟩ := k_inv k I hx
    obtain ⟨u, hu, ru⟩ := rv.get ex
    have D := k_draws (P := X.prog) (w := X.w) (A := X.A.in1) k (I.ok.hd hc) it a (k_apart k g p1) its.toArray
    have lt1 : i < its.toArray.size := by
      have := (List.getElem?_eq_some_iff.mp hu).1
      simpa using this
    have hel : e < s.heap.objs.size := Heap.lt_size he
    have nef : e ∉ [it, a] := by
      intro z
      simp only [List.mem_cons, List.not_mem_nil, or_false] at z
      rcases z with z | z
      · exact ne z
      · exact k_apartE k he p1 z.symm
    refine wpAny_pyNext_enum_itemC D he ⟨g, p1⟩ lt1 ne nef fun r h' tk q1 ho st1 hT hsz hk => ?_
    have er : r = u := by
      have : its.toArray[i]? = some u := by simpa using hu
      rw [this] at q1
      exact (Option.some.inj q1).symm
    subst er
    refine ⟨_, rfl, wpAny_letOwnedTupleGo_enum (s := { s with heap := h', toks := tk + 1 }) ho fun h'' he' sb => ?_⟩
    have hT2 : h''.get? s.heap.objs.size = some { cls := .type "tuple", data := .seq #[.int i tk, r] } := (sb.2 _ (Nat.ne_of_gt hel)).trans hT
    have new : ObjOk X.prog X.w (upd H s.heap.objs.size (.tup [.int (i : Nat), x])) h'' s.heap.objs.size (.tup [.int (i : Nat), x]) := by
      refine ⟨by show 2 ≤ sizeLine; decide, [.int i tk, r], .cons ⟨_, rfl⟩ (.cons ru .nil), ⟨_, hT2, rfl, _, rfl⟩⟩
    have I1 : Inv X pins σ (upd H s.heap.objs.size (.tup [.int (i : Nat), x])) { s with heap := h'', toks := tk + 1 } := by
      refine I.turnedNew (ch := [e, it]) (fun c o hb q => ?_) hf (Nat.le_refl _) new
      simp only [List.mem_cons, List.not_mem_nil, or_false, not_or] at hb
      exact (sb.2 c hb.1).trans (hk c o hb.1 hb.2 q)
    refine ⟨.ref s.heap.objs.size, _, I1, rfl, ⟨_, x, rfl, I.hok.fresh (Nat.le_refl _), rfl, fun zs hzs => ?_⟩, ⟨⟨r, ?_⟩, ?_, ne⟩, fun c hcm => ?_⟩
    · rw [k_det k I hzs hx]
      exact ex
    · have e1 : ((i + 1 : Nat) : Int) = (i : Int) + 1 := by omega
      rw [e1]
      exact he'
    · exact k_keep k st1.1 fun o q => (sb.2 it (Ne.symm ne)).trans q
    · have hlt : c < s.heap.objs.size := by
        obtain ⟨o1, _, e1, _⟩ := k_obj k g
        simp only [List.mem_cons, List.not_mem_nil, or_false] at hcm
        rcases hcm with q | q
        · exact q ▸ hel
        · exact q ▸ Heap.lt_size e1
      rw [upd_ne (Nat.ne_of_lt hlt)]
      exact (hf c hcm).1
  done := by
    intro X hP hw hK hc i pins s σ H E I hf st hg
    subst hP hw hK
    obtain ⟨⟨old, he⟩, g, ne⟩ := st
    obtain ⟨xs, hx, hl⟩ := hg
    obtain ⟨its, rv, p1, _⟩ := k_inv k I hx
    have D := k_draws (P := X.prog) (w := X.w) (A := X.A.in1) k (I.ok.hd hc) it a (k_apart k g p1) its.toArray
    have s1 : its.toArray.size = i := by rw [List.size_toArray, ← rv.length]; exact hl
    refine wpAny_pyNext_enum_endD D he (by rw [s1]; exact ⟨g, p1⟩) fun h' eb => ⟨rfl, ?_⟩
    obtain ⟨f0, f1, f2, f3, f4, f5⟩ := hf it (by simp)
    exact I.turned (t' := s.toks) (fun b o hb q => eb b o hb q) f0 f1 f3 f4 f5
  self := fun A i s Q E st h => let ⟨⟨_, he⟩, _⟩ := st; wpAny_pyIter_enum he h
def iEnumK (K : PySem.W.Frag) (k : Bool) (ta : TA) : TI := fun σ H R => ta σ H fun vs H1 => ∃ a xs, vs = [.ref a] ∧ kSq k K H1 a xs ∧ R (IteK K k a) H1
theorem pi_enumK {X : Cx} {e : Expr} {ta : TA} {p pos tpos : Pos} {elts : List Expr} {kk : Nat} (k : Bool) (hg : Gl X "enumerate") (hm : X.mg "enumerate" = none) (ha : PA X [e] ta) (hs : starEach [e] X.env = [(false, eval e X.env)] := by rfl) :
    PI X (.Tuple elts kk tpos) (.Call (.Name "enumerate" p) [e] [] pos) (iEnumK X.K k ta) := by
  refine ⟨fun pins s σ H R I h => ?_⟩
  refine Call_ (ld_blt I hg hm boot_enumerate (PyProof.Rows.callWith_type1 (thn (ha.run pos pins s σ H _ I h) fun us s1 ⟨vs, H1, I1, r1, q1⟩ => ?_) hs rfl))
  obtain ⟨a, xs, ev, hx, q⟩ := q1
  subst ev
  obtain ⟨u1, rfl, ra⟩ := vals1 r1
  cases ra
  obtain ⟨its, rv, p1, lta⟩ := k_inv k I1 hx
  refine call_enum1 (k_begins k a its.toArray) p1 fun h' he e1 hk => wpAny_pyIter_enum he ?_
  have I2 : Inv X pins σ H1 { s1 with heap := h' } := I1.kept (t' := s1.toks) hk
  refine ⟨_, _, _, _, H1, rfl, I2, turn_enumK (k := k) a (s1.heap.objs.size + 1) s1.heap.objs.size, ⟨⟨_, he⟩, k_new k e1, Nat.succ_ne_self _⟩, fun c hcm => ?_, q⟩
  have hle : s1.heap.objs.size ≤ c := by
    simp only [List.mem_cons, List.not_mem_nil, or_false] at hcm
    rcases hcm with q | q <;> (rw [q]; first | exact Nat.le_add_right _ _ | exact Nat.le_refl _)
  exact I1.fpOk hle (I1.hok.fresh hle)
section
variable {X : Cx} {a b c e : Expr} {δ : List Slot} {d da db : PyData} {ds es : List PyData} {pos p tpos : Pos} {elts : List Expr} {kk : Nat}
def enumFromD : Nat → List PyData → List PyData
  | _, [] => []
  | n, d :: r => .tuple [.int (n : Int), d] :: enumFromD (n + 1) r
def enumD (ds : List PyData) : List PyData := enumFromD 0 ds
theorem enumFromD_len : ∀ (n : Nat) (ds : List PyData), (enumFromD n ds).length = ds.length
  | _, [] => rfl
  | n, d :: r => by rw [enumFromD, List.length_cons, List.length_cons, enumFromD_len]
theorem enumFromD_get : ∀ (n : Nat) (ds : List PyData) (i : Nat) (d : PyData), ds[i]? = some d → (enumFromD n ds)[i]? = some (.tuple [.int ((n + i : Nat) : Int), d])
  | _, [], _, _, h => by simp at h
  | n, x :: r, 0, d, h => by
    simp at h
    subst h
    rfl
  | n, x :: r, i + 1, d, h => by
    rw [enumFromD, List.getElem?_cons_succ, enumFromD_get (n + 1) r i d (by simpa using h)]
    have : n + 1 + i = n + (i + 1) := by omega
    rw [this]
theorem ix_enum (ha : EX X a δ da) (h1 : isSeq da ds) (hm : X.mg "enumerate" = none) (hg : Gl X "enumerate" := by rfl) (hs : starEach [a] X.env = [(false, eval a X.env)] := by rfl) : IX X (.Tuple elts kk tpos) (.Call (.Name "enumerate" p) [a] [] pos) δ (enumD ds) := by
  refine IX.of (pi_enumK (isL da) hg hm (pa_cons pe_c pa_nil hs) hs) fun σ H0 S H R so q => rd_cons (rd_c ha) rd_nil σ H0 S H _ so fun vs S1 H1 g1 d1 => ?_
  obtain ⟨v, rfl, dv⟩ := dps1 d1
  obtain ⟨x, xs, k, rfl, hx, dx, ek⟩ := dp_k h1 dv
  have e1 : isL da = k := by
    rcases h1 with rfl | rfl
    · exact (ek.mpr rfl).symm
    · cases k with
      | true => exact absurd (ek.mp rfl) (fun z => nomatch z)
      | false => rfl
  rw [e1]
  refine ⟨x, xs, rfl, k_same k g1.sh hx, q _ S1 H1 g1 ?_⟩
  have hl := dps_len dx
  refine ⟨fun i S' H' s1 s2 hi => ?_, fun S' H' s1 s2 => ⟨xs, k_same k s2 (k_same k s1 hx), by rw [hl]; exact (enumFromD_len 0 ds).symm⟩, fun i S' H' v H'' s1 s2 hi yl => ?_⟩
  · rw [enumD, enumFromD_len] at hi
    exact ⟨xs, xs[i]'(by omega), k_same k s2 (k_same k s1 hx), by simp⟩
  · obtain ⟨T, u, rfl, hT, rfl, f1⟩ := yl
    obtain ⟨d2, e2, p2⟩ := dps_get dx (f1 xs (k_same k s2 (k_same k s1 hx)))
    have ss : Same S' (upd S' T (.tup [.int (i : Nat), u])) := fun b x z => by
      rw [upd_ne (ne_of_none z (s2.free hT))]
      exact z
    refine ⟨upd S' T (.tup [.int (i : Nat), u]), .tuple [.int (i : Nat), d2], (Gr.refl s2).new hT, ?_, .tup (SqT.of upd_same) (.cons (.int _) (.cons ((p2.mono s1).mono ss) .nil))⟩
    rw [enumD, enumFromD_get 0 ds i d2 e2, Nat.zero_add]

/-! ### tuple(range(a, b)), tuple(range(a, b, c)) -/
theorem rgV_ints (m : Int) (n : Nat) : rgV m (m + (n : Int)) = ((List.range n).map fun (k : Nat) => m + (k : Int)).map V.int := by
  unfold rgV
  have e : (m + (n : Int) - m).toNat = n := by omega
  rw [e, List.map_map]
  rfl
theorem rangeD_ints (m : Int) (n : Nat) : rangeD m n = ((List.range n).map fun (k : Nat) => m + (k : Int)).map PyData.int := by
  unfold rangeD
  rw [List.map_map]
  rfl
theorem ex_tupRange {m : Int} {n : Nat} {q2 p3 : Pos} (hc : X.calm = true) (ha : EX X a δ (.int m)) (hb : EX X b δ (.int (m + (n : Int)))) (hn : 0 ≤ m ∧ m < 2 ^ 20 ∧ n < 2 ^ 20) (hm : X.mg "tuple" = none) (hm2 : X.mg "range" = none) (hg : Gl X "tuple" := by rfl) (hg2 : Gl X "range" := by rfl)
    (h1 : starEach [a, b] X.env = (false, eval a X.env) :: starEach [b] X.env := by rfl) (h2 : starEach [b] X.env = (false, eval b X.env) :: starEach [] X.env := by rfl) (h3 : (backTo q2 (starEach [b] X.env)).any (·.1) = false := by rfl)
    (h4 : starEach [.Call (.Name "range" p3) [a, b] [] q2] X.env = (false, eval (.Call (.Name "range" p3) [a, b] [] q2) X.env) :: starEach [] X.env := by rfl) :
    EX X (.Call (.Name "tuple" p) [.Call (.Name "range" p3) [a, b] [] q2] [] pos) δ (.tuple (rangeD m n)) :=
  EX.of (pe_tupRg hc hg hm (prg_2 hg2 hm2 pe_c pe_c h1 h2 h3) h4) fun σ H0 S H Q so q => by
    refine rd_c ha σ H0 S H _ so fun v S1 H1 g1 d1 => rd_c hb σ H0 S1 H1 _ (so.grow g1) fun u S2 H2 g2 d2 => ?_
    refine ⟨m, m + (n : Int), dp_int d1, dp_int d2, ⟨by omega, by omega, by omega, by omega, by omega⟩, fun t ht => ?_⟩
    have ss : Same S2 (upd S2 t (.tup (rgV m (m + (n : Int))))) := fun b x z => by
      rw [upd_ne (ne_of_none z (g2.sfree ht))]
      exact z
    refine q _ _ _ ((g1.trans g2).new ht) (.tup (SqT.of upd_same) ?_)
    rw [rgV_ints, rangeD_ints]
    exact dps_ints _
/-- range(a, b, c) made -/
def PRg3 (X : Cx) (e : Expr) (t : L2.St → Hp → (Int → Int → Int → Hp → Prop) → Prop) : Prop :=
  ∀ (pins : List (Addr × Obj)) (s : Shared) (σ : L2.St) (H : Hp) (Q : Int → Int → Int → Hp → Prop), Inv X pins σ H s → t σ H Q →
    wpAny (model X.prog X.w) X.A (eval e X.env) (fun x s' => ∃ r i j c t u v H', x = .ref r ∧ IsRange s'.heap r i j c t u v ∧ Inv X pins σ H' s' ∧ Q i j c H') X.xe s
theorem prg3 {ta : TA} (hg : Gl X "range") (hm : X.mg "range" = none) (ha : PA X [a, b, c] ta) (hs : starEach [a, b, c] X.env = (false, eval a X.env) :: starEach [b, c] X.env) (hpl : (backTo pos (starEach [b, c] X.env)).any (·.1) = false) :
    PRg3 X (.Call (.Name "range" p) [a, b, c] [] pos) fun σ H Q => ta σ H fun vs H1 => ∃ i j k : Int, vs = [.int i, .int j, .int k] ∧ (k ≠ 0 ∧ k.natAbs < 1073741824) ∧ Q i j k H1 := by
  intro pins s σ H Q I h
  refine Call_ (ld_blt I hg hm boot_range (PyProof.Rows.callWith_type1 (thn (ha.run pos pins s σ H _ I h) fun us s1 ⟨vs, H1, I1, r1, q1⟩ => ?_) hs hpl))
  obtain ⟨i, j, k, rfl, ⟨c0, c1⟩, q⟩ := q1
  cases r1 with
  | cons r r1 =>
    obtain ⟨t, rfl⟩ := r
    obtain ⟨u2, u3, rfl, r2, r3⟩ := vals2 r1
    obtain ⟨t2, rfl⟩ := r2
    obtain ⟨t3, rfl⟩ := r3
    refine call_range_3 c0 ?_ (.inl (PyProof.noPylong_small c1))
    exact ⟨_, i, j, k, _, _, _, H1, rfl, IsRange.new _ _ _ _ _ _ _, I1.kept (t' := s1.toks) fun b u e => Heap.get?_push_of_some _ e, q⟩
theorem pe_tupRg3 {te : L2.St → Hp → (Int → Int → Int → Hp → Prop) → Prop} (hc : X.calm = true) (hg : Gl X "tuple") (hm : X.mg "tuple" = none) (he : PRg3 X e te) (na : starEach [e] X.env = (false, eval e X.env) :: starEach [] X.env) :
    PE X (.Call (.Name "tuple" p) [e] [] pos) fun σ H Q => te σ H fun i j k H1 => ∃ n : Nat, Builtin.Range.small i j k = true ∧ Builtin.Range.rangeSize i j k = n ∧ n ≤ 2 ^ 20 ∧ ∀ q, H1 q = none → Q (.ref q) (upd H1 q (.tup ((List.range n).map fun (m : Nat) => V.int (i + (m : Int) * k)))) := by
  refine ⟨fun pins s σ H Q I h => ?_⟩
  refine Call_ (ld_blt I hg hm boot_tuple (PyProof.Rows.callWith_type1 (args_cons (thn (he pins s σ H _ I h) fun x s1 ⟨r, i, j, k, t, u, v, H1, ex, hr, I1, n, sm, sz, hn, q⟩ => args_nil ?_) na) na))
  subst ex
  refine call_tuple_range (n := n) (I1.ok.hd hc) hr sm sz (Nat.le_trans hn (by decide)) fun h' tk acc hk hi => ?_
  have I2 : Inv X pins σ H1 { s1 with heap := h', toks := tk } := I1.kept hk
  have hv : Vals ((List.range n).map fun (m : Nat) => V.int (i + (m : Int) * k)) acc.toList := by
    have el : acc.toList.length = n := by rw [Array.length_toList]; exact hi.1
    rw [← el]
    refine vals_of_get acc.toList _ fun m w hm => ?_
    obtain ⟨t, rfl⟩ := hi.2 m w (by rw [← hm, Array.getElem?_toList])
    exact ⟨t, rfl⟩
  refine ⟨.ref h'.objs.size, _, I2.laid (t' := tk) (a := h'.objs.size) (o := .tup ((List.range n).map fun (m : Nat) => V.int (i + (m : Int) * k))) (fun b o q => Heap.get?_push_of_some _ q) (Nat.le_refl _) ⟨?_, acc.toList, hv, ?_⟩, rfl, q _ (I2.hok.fresh (Nat.le_refl _))⟩
  · rw [List.length_map, List.length_range, sizeLine_eq]
    omega
  · rw [Array.toArray_toList]
    exact IsTup.new _ _
/-- i, i + k, .., n of them -/
def stepD (i k : Int) (n : Nat) : List PyData := (List.range n).map fun (m : Nat) => PyData.int (i + (m : Int) * k)
theorem ex_tupRange3 {i j k : Int} {n : Nat} {q2 p3 : Pos} (hc : X.calm = true) (ha : EX X a δ (.int i)) (hb : EX X b δ (.int j)) (hk : EX X c δ (.int k)) (hk0 : k ≠ 0 ∧ k.natAbs < 1073741824) (sm : Builtin.Range.small i j k = true) (sz : Builtin.Range.rangeSize i j k = n) (hn : n ≤ 2 ^ 20)
    (hm : X.mg "tuple" = none) (hm2 : X.mg "range" = none) (hg : Gl X "tuple" := by rfl) (hg2 : Gl X "range" := by rfl)
    (h1 : starEach [a, b, c] X.env = (false, eval a X.env) :: starEach [b, c] X.env := by rfl) (h2 : starEach [b, c] X.env = (false, eval b X.env) :: starEach [c] X.env := by rfl) (h5 : starEach [c] X.env = (false, eval c X.env) :: starEach [] X.env := by rfl) (h3 : (backTo q2 (starEach [b, c] X.env)).any (·.1) = false := by rfl)
    (h4 : starEach [.Call (.Name "range" p3) [a, b, c] [] q2] X.env = (false, eval (.Call (.Name "range" p3) [a, b, c] [] q2) X.env) :: starEach [] X.env := by rfl) :
    EX X (.Call (.Name "tuple" p) [.Call (.Name "range" p3) [a, b, c] [] q2] [] pos) δ (.tuple (stepD i k n)) :=
  EX.of (pe_tupRg3 hc hg hm (prg3 hg2 hm2 (pa_cons pe_c (pa_cons pe_c (pa_cons pe_c pa_nil h5) h2) h1) h1 h3) h4) fun σ H0 S H Q so q => by
    refine rd_c ha σ H0 S H _ so fun v S1 H1 g1 d1 => rd_c hb σ H0 S1 H1 _ (so.grow g1) fun u S2 H2 g2 d2 => rd_c hk σ H0 S2 H2 _ ((so.grow g1).grow g2) fun w S3 H3 g3 d3 => ?_
    refine ⟨i, j, k, by rw [dp_int d1, dp_int d2, dp_int d3], hk0, n, sm, sz, hn, fun t ht => ?_⟩
    have ss : Same S3 (upd S3 t (.tup ((List.range n).map fun (m : Nat) => V.int (i + (m : Int) * k)))) := fun b x z => by
      rw [upd_ne (ne_of_none z (g3.sfree ht))]
      exact z
    refine q _ _ _ ((g1.trans (g2.trans g3)).new ht) (.tup (SqT.of upd_same) ?_)
    have e1 : ((List.range n).map fun (m : Nat) => V.int (i + (m : Int) * k)) = ((List.range n).map fun (m : Nat) => i + (m : Int) * k).map V.int := by
      rw [List.map_map]
      rfl
    have e2 : stepD i k n = ((List.range n).map fun (m : Nat) => i + (m : Int) * k).map PyData.int := by
      unfold stepD
      rw [List.map_map]
      rfl
    rw [e1, e2]
    exact dps_ints _
end
end DL
set_option Elab.async false
set_option linter.all false
set_option maxRecDepth 100000
set_option maxHeartbeats 4000000
/-! DL7: comprehensions by name. -/
namespace DL
open PySem PySem.Spec PyProof.Rows L2
section
variable {X : Cx} {x y : Str} {scope : Scope} {p px py pos : Pos} {iter elt : Expr} {ifs : List Expr} {δ : List Slot} {items : List PyData} {kk : Nat} {E : DE}
def LocS (sc : Scope) (x : Str) : Prop := sc.names.lookup x = some .local ∨ sc.names.lookup x = some .cell
theorem lookup_relab_cell {env : Env} : ∀ {names : List (Str × NameKind)} {x : Str}, names.lookup x = some .cell →
    (names.map fun (n, k) => if (k == NameKind.free && env.scope.kind == .function && env.kindOf n == some .cell) then (n, NameKind.cell) else (n, k)).lookup x = some .cell
  | [], _, h => by simp at h
  | (n, k) :: r, x, h => by
    have ih := @lookup_relab_cell env r x
    show List.lookup x ((if (k == NameKind.free && env.scope.kind == .function && env.kindOf n == some .cell) = true then (n, NameKind.cell) else (n, k)) :: _) = _
    cases hx : x == n with
    | true =>
      simp only [List.lookup_cons, hx] at h
      cases h
      simp [List.lookup_cons, hx]
    | false =>
      simp only [List.lookup_cons, hx] at h
      by_cases hc : (k == NameKind.free && env.scope.kind == .function && env.kindOf n == some .cell) = true
      · rw [if_pos hc]; simp only [List.lookup_cons, hx]; exact ih h
      · rw [if_neg hc]; simp only [List.lookup_cons, hx]; exact ih h
theorem locS_blk {env : Env} (h : LocS scope x) : LocS (relabel scope env) x := by
  rcases h with h | h
  · exact .inl (lookup_relabel_local h)
  · exact .inr (lookup_relab_cell h)
theorem pg_blk {Y : Cx} {i : Nat} (hN : Y.N.Nodup) (hi : Y.N[i]? = some x) (hx : LocS scope x) {env : Env} (he : Y.env.scope = relabel scope env) (hf : Y.fn = fun x => scope.names.lookup x == some .cell) : PG Y (.Name x p) (gName i) := by
  refine pg_name hN hi (by show LocS Y.env.scope x; rw [he]; exact locS_blk hx) ?_
  rcases hx with h | h
  · exact .inr (by rw [he]; exact lookup_relabel_local h)
  · exact .inl (by rw [hf]; show (scope.names.lookup x == some .cell) = true; rw [h]; rfl)
theorem pgb (j : Nat) (hN : X.N.Nodup) (hi : X.N[j]? = some x) (hx : LocS scope x) : Blk X scope fun Y => PG Y (.Name x p) ((Tg.nm j).g Y.K) :=
  fun s H C cl fp => pg_blk (Y := X.blk s H scope (compEnvC scope cl C X.env) fp) hN hi hx rfl rfl
theorem pgb2 (i j : Nat) (hc : X.calm = true) (hN : X.N.Nodup) (hi : X.N[i]? = some x) (hj : X.N[j]? = some y) (hx : LocS scope x) (hy : LocS scope y) : Blk X scope fun Y => PG Y (.Tuple [.Name x px, .Name y py] kk p) ((Tg.tp i j).g Y.K) :=
  fun s H C cl fp => pg_tup hc (pgs_cons (pg_blk (Y := X.blk s H scope (compEnvC scope cl C X.env) fp) hN hi hx rfl rfl) (pgs_cons (pg_blk (Y := X.blk s H scope (compEnvC scope cl C X.env) fp) hN hj hy rfl rfl) pgs_nil))
/-- the target of a for: a pair -/
theorem pg2 (i j : Nat) (hc : X.calm = true) (hN : X.N.Nodup) (hi : X.N[i]? = some x := by rfl) (hj : X.N[j]? = some y := by rfl) (hx : Loc X.env.scope x := by first | exact Or.inl rfl | exact Or.inr rfl) (hy : Loc X.env.scope y := by first | exact Or.inl rfl | exact Or.inr rfl)
    (hf : X.fn x = true ∨ X.env.scope.names.lookup x = some .local := by first | exact .inl rfl | exact .inr rfl) (hf2 : X.fn y = true ∨ X.env.scope.names.lookup y = some .local := by first | exact .inl rfl | exact .inr rfl) : PG X (.Tuple [.Name x px, .Name y py] kk p) ((Tg.tp i j).g X.K) :=
  pg_tup hc (pgs_cons (pg_name hN hi hx hf) (pgs_cons (pg_name hN hj hy hf2) pgs_nil))
theorem pg1 (i : Nat) (hN : X.N.Nodup) (hi : X.N[i]? = some x := by rfl) (hx : Loc X.env.scope x := by first | exact Or.inl rfl | exact Or.inr rfl)
    (hf : X.fn x = true ∨ X.env.scope.names.lookup x = some .local := by first | exact .inl rfl | exact .inr rfl) : PG X (.Name x p) ((Tg.nm i).g X.K) := pg_name hN hi hx hf
theorem wipe1 {j : Nat} {s : Slot} : (wipeD δ [j]).set j s = δ.set j s := by
  show (δ.set j .un).set j s = _
  rw [List.set_set]
theorem wipe2 {i j : Nat} {s t : Slot} (h : i ≠ j) : ((wipeD δ [i, j]).set i s).set j t = (δ.set i s).set j t := by
  show (((δ.set j .un).set i .un).set i s).set j t = _
  rw [List.set_set, List.set_comm _ _ (Ne.symm h), List.set_set]
abbrev OneOk (X : Cx) (scope : Scope) (elt : Expr) (ifs : List Expr) (δ : List Slot) (j : Nat) (f : PyData → Bool) (g : PyData → PyData) (y : PyData) : Prop := (Blk X scope fun Y => TXs Y ifs (δ.set j (.d y)) (f y)) ∧ (f y = true → Blk X scope fun Y => EX Y elt (δ.set j (.d y)) (g y))
theorem hel1 {j : Nat} {f : PyData → Bool} {g : PyData → PyData} (h : ∀ z ∈ items, OneOk X scope elt ifs δ j f g z) :
    ∀ z ∈ items, ∃ δ', (Tg.nm j).ok z (wipeD δ ([(x, j)].map (·.2))) δ' ∧ (Blk X scope fun Y => TXs Y ifs δ' (f z)) ∧ (f z = true → Blk X scope fun Y => EX Y elt δ' (g z)) :=
  fun z hz => ⟨_, rfl, by rw [show wipeD δ ([(x, j)].map (·.2)) = wipeD δ [j] from rfl, wipe1]; exact (h z hz).1, by rw [show wipeD δ ([(x, j)].map (·.2)) = wipeD δ [j] from rfl, wipe1]; exact (h z hz).2⟩
theorem exo_lcN (j : Nat) {f : PyData → Bool} {g : PyData → PyData} (hc : X.calm = true) (hN : X.N.Nodup) (hi : IX X (.Name x px) iter δ items) (hz : items.length ≤ sizeLine) (hel : ∀ z ∈ items, OneOk X scope elt ifs δ j f g z)
    (ok : blkC X.N X.env.scope scope [(x, j)] = true := by rfl) (hxj : X.N[j]? = some x := by rfl) (hx : LocS scope x := by first | exact Or.inl rfl | exact Or.inr rfl) (hs : ∀ x, foldedSetIterable iter X.env x = pure x := by intro _; rfl) :
    EXo X (.ListComp elt [⟨.Name x px, iter, ifs, 0⟩] scope pos) δ ((items.filter f).map g) :=
  exo_lc (t := .nm j) hc hN (blkOk_by ok) (pgb j hN hxj hx) hi (fun k h => h) hz (hel1 hel) hs
/-- without a test -/
theorem exo_map (j : Nat) (g : PyData → PyData) (hc : X.calm = true) (hN : X.N.Nodup) (hi : IX X (.Name x px) iter δ items) (hz : items.length ≤ sizeLine) (hel : ∀ z ∈ items, Blk X scope fun Y => EX Y elt (δ.set j (.d z)) (g z))
    (ok : blkC X.N X.env.scope scope [(x, j)] = true := by rfl) (hxj : X.N[j]? = some x := by rfl) (hx : LocS scope x := by first | exact Or.inl rfl | exact Or.inr rfl) (hs : ∀ x, foldedSetIterable iter X.env x = pure x := by intro _; rfl) :
    EXo X (.ListComp elt [⟨.Name x px, iter, [], 0⟩] scope pos) δ (items.map g) :=
  (exo_lcN (f := fun _ => true) j hc hN hi hz (fun z hz => ⟨fun _ _ _ _ _ => txs_nil, fun _ => hel z hz⟩) ok hxj hx hs).is (by rw [List.filter_eq_self.mpr fun _ _ => rfl])
/-- with one test -/
theorem exo_fil (j : Nat) (f : PyData → Bool) (g : PyData → PyData) {c : Expr} (hc : X.calm = true) (hN : X.N.Nodup) (hi : IX X (.Name x px) iter δ items) (hz : items.length ≤ sizeLine) (ht : ∀ z ∈ items, Blk X scope fun Y => TX Y c (δ.set j (.d z)) (f z)) (hel : ∀ z ∈ items, f z = true → Blk X scope fun Y => EX Y elt (δ.set j (.d z)) (g z))
    (ok : blkC X.N X.env.scope scope [(x, j)] = true := by rfl) (hxj : X.N[j]? = some x := by rfl) (hx : LocS scope x := by first | exact Or.inl rfl | exact Or.inr rfl) (hs : ∀ x, foldedSetIterable iter X.env x = pure x := by intro _; rfl) :
    EXo X (.ListComp elt [⟨.Name x px, iter, [c], 0⟩] scope pos) δ ((items.filter f).map g) :=
  exo_lcN j hc hN hi hz (fun z hz => ⟨fun s H C cl fp => txs_one (ht z hz s H C cl fp), fun h => hel z hz h⟩) ok hxj hx hs
/-- items are pairs, without a test -/
theorem exo_map2 (i j : Nat) (g : PyData → PyData) (hc : X.calm = true) (hN : X.N.Nodup) (hij : i ≠ j) (hi : IX X (.Tuple [.Name x px, .Name y py] kk p) iter δ items) (hz : items.length ≤ sizeLine) (hel : ∀ z ∈ items, ∃ a b, z = .tuple [a, b] ∧ Blk X scope fun Y => EX Y elt ((δ.set i (.d a)).set j (.d b)) (g z))
    (ok : blkC X.N X.env.scope scope [(x, i), (y, j)] = true := by rfl) (hxi : X.N[i]? = some x := by rfl) (hyj : X.N[j]? = some y := by rfl) (hx : LocS scope x := by first | exact Or.inl rfl | exact Or.inr rfl) (hy : LocS scope y := by first | exact Or.inl rfl | exact Or.inr rfl) (hs : ∀ x, foldedSetIterable iter X.env x = pure x := by intro _; rfl) :
    EXo X (.ListComp elt [⟨.Tuple [.Name x px, .Name y py] kk p, iter, [], 0⟩] scope pos) δ (items.map g) :=
  (exo_lc (t := .tp i j) (f := fun _ => true) (own := [(x, i), (y, j)]) hc hN (blkOk_by ok) (pgb2 i j hc hN hxi hyj hx hy) hi (fun k h => h) hz (fun z hz => by
    obtain ⟨a, b, e, h⟩ := hel z hz
    refine ⟨_, ⟨a, b, e, rfl⟩, fun _ _ _ _ _ => txs_nil, fun _ => ?_⟩
    rw [show wipeD δ ([(x, i), (y, j)].map (·.2)) = wipeD δ [i, j] from rfl, wipe2 hij]
    exact h) hs).is (by rw [List.filter_eq_self.mpr fun _ _ => rfl])
/-- .. with a test -/
theorem exo_fil2 (i j : Nat) (f : PyData → Bool) (g : PyData → PyData) {c : Expr} (hc : X.calm = true) (hN : X.N.Nodup) (hij : i ≠ j) (hi : IX X (.Tuple [.Name x px, .Name y py] kk p) iter δ items) (hz : items.length ≤ sizeLine)
    (hel : ∀ z ∈ items, ∃ a b, z = .tuple [a, b] ∧ (Blk X scope fun Y => TX Y c ((δ.set i (.d a)).set j (.d b)) (f z)) ∧ (f z = true → Blk X scope fun Y => EX Y elt ((δ.set i (.d a)).set j (.d b)) (g z)))
    (ok : blkC X.N X.env.scope scope [(x, i), (y, j)] = true := by rfl) (hxi : X.N[i]? = some x := by rfl) (hyj : X.N[j]? = some y := by rfl) (hx : LocS scope x := by first | exact Or.inl rfl | exact Or.inr rfl) (hy : LocS scope y := by first | exact Or.inl rfl | exact Or.inr rfl) (hs : ∀ x, foldedSetIterable iter X.env x = pure x := by intro _; rfl) :
    EXo X (.ListComp elt [⟨.Tuple [.Name x px, .Name y py] kk p, iter, [c], 0⟩] scope pos) δ ((items.filter f).map g) :=
  exo_lc (t := .tp i j) (own := [(x, i), (y, j)]) hc hN (blkOk_by ok) (pgb2 i j hc hN hxi hyj hx hy) hi (fun k h => h) hz (fun z hz => by
    obtain ⟨a, b, e, h, h2⟩ := hel z hz
    refine ⟨_, ⟨a, b, e, rfl⟩, ?_, ?_⟩ <;> rw [show wipeD δ ([(x, i), (y, j)].map (·.2)) = wipeD δ [i, j] from rfl, wipe2 hij]
    · exact fun s H C cl fp => txs_one (h s H C cl fp)
    · exact h2) hs
/-- two clauses -/
theorem exo_map12 (i j : Nat) (g : PyData → PyData → PyData) {iter1 : Expr} {items1 : List PyData} (hc : X.calm = true) (hN : X.N.Nodup) (hij : i ≠ j) (hi : IX X (.Name x px) iter δ items) (hz : items.length * items1.length ≤ sizeLine)
    (hi1 : ∀ z ∈ items, Blk X scope fun Y => IX Y (.Name y py) iter1 ((δ.set i (.d z)).set j .un) items1) (hel : ∀ z ∈ items, ∀ w ∈ items1, Blk X scope fun Y => EX Y elt ((δ.set i (.d z)).set j (.d w)) (g z w))
    (ok : blkC X.N X.env.scope scope [(x, i), (y, j)] = true := by rfl) (hxi : X.N[i]? = some x := by rfl) (hyj : X.N[j]? = some y := by rfl) (hx : LocS scope x := by first | exact Or.inl rfl | exact Or.inr rfl) (hy : LocS scope y := by first | exact Or.inl rfl | exact Or.inr rfl) (hs : ∀ x, foldedSetIterable iter X.env x = pure x := by intro _; rfl) (hs1 : ∀ env x, foldedSetIterable iter1 env x = pure x := by intro _ _; rfl) :
    EXo X (.ListComp elt [⟨.Name x px, iter, [], 0⟩, ⟨.Name y py, iter1, [], 0⟩] scope pos) δ (items.flatMap fun z => items1.map (g z)) := by
  refine EXo.of (pe_lc2 (own := [(x, i), (y, j)]) (vs1 := [j]) hc hN pi_c (blkOk_by ok) (fun k h => ?_) (pgb i hN hxi hx) (fun s H C cl fp => pts_nil) pi_b (pgb j hN hyj hy) (fun s H C cl fp => pts_nil) pe_b hs hs1) (rd_lc2 (t := .nm i) (t1 := .nm j) (rd_ci hi) (fun k h => ?_) (fun k h => h) hz fun z hz => ?_)
  · rw [List.mem_singleton.mp h]
    simp
  · rw [List.mem_singleton.mp h]
    simp
  · have e1 : (wipeD δ ([(x, i), (y, j)].map (·.2))).set i (.d z) = (δ.set i (.d z)).set j .un := by
      show ((δ.set j .un).set i .un).set i (.d z) = _
      rw [List.set_set, List.set_comm _ _ (Ne.symm hij)]
    refine ⟨_, rfl, by rw [e1]; exact hi1 z hz, fun w hw => ⟨_, rfl, ?_⟩⟩
    have e2 : (wipeD ((wipeD δ ([(x, i), (y, j)].map (·.2))).set i (.d z)) [j]).set j (.d w) = (δ.set i (.d z)).set j (.d w) := by
      rw [wipe1, e1, List.set_set]
    rw [e2]
    exact hel z hz w hw
end
end DL
set_option Elab.async false
set_option linter.all false
set_option maxRecDepth 100000
set_option maxHeartbeats 4000000
/-! TX0: the text by places. -/
namespace DL
open PySem PySem.Spec PyProof.Rows L2
def topS (i : Nat) : Stmt := PySem.Challenge.pw_mendfew_k54_whole_nested.main.body.getD i (.Pass ⟨0, 0, 0, 0⟩)
abbrev N_is_integer : List Str := ["thing"]
abbrev P_is_integer : List Str := ["thing"]
theorem sc_is_integer : FnScope N_is_integer P_is_integer (defScope (topS 3)) := ⟨rfl, rfl, rfl, by decide +kernel, rfl, by decide +kernel, by decide +kernel⟩
abbrev N_is_number : List Str := ["thing"]
abbrev P_is_number : List Str := ["thing"]
theorem sc_is_number : FnScope N_is_number P_is_number (defScope (topS 4)) := ⟨rfl, rfl, rfl, by decide +kernel, rfl, by decide +kernel, by decide +kernel⟩
abbrev N_is_prime : List Str := ["thing", "part"]
abbrev P_is_prime : List Str := ["thing"]
theorem sc_is_prime : FnScope N_is_prime P_is_prime (defScope (topS 5)) := ⟨rfl, rfl, rfl, by decide +kernel, rfl, by decide +kernel, by decide +kernel⟩
abbrev N_is_index : List Str := ["many", "thing"]
abbrev P_is_index : List Str := ["many", "thing"]
theorem sc_is_index : FnScope N_is_index P_is_index (defScope (topS 6)) := ⟨rfl, rfl, rfl, by decide +kernel, rfl, by decide +kernel, by decide +kernel⟩
abbrev N_is_tuple_of : List Str := ["thing", "many"]
abbrev P_is_tuple_of : List Str := ["thing", "many"]
theorem sc_is_tuple_of : FnScope N_is_tuple_of P_is_tuple_of (defScope (topS 7)) := ⟨rfl, rfl, rfl, by decide +kernel, rfl, by decide +kernel, by decide +kernel⟩
abbrev N_are_rests : List Str := ["prime", "many", "thing", "one"]
abbrev P_are_rests : List Str := ["prime", "many", "thing"]
theorem sc_are_rests : FnScope N_are_rests P_are_rests (defScope (topS 8)) := ⟨rfl, rfl, rfl, by decide +kernel, rfl, by decide +kernel, by decide +kernel⟩
abbrev N_is_sum_of : List Str := ["prime", "many", "thing", "one"]
abbrev P_is_sum_of : List Str := ["prime", "many", "thing"]
theorem sc_is_sum_of : FnScope N_is_sum_of P_is_sum_of (defScope (topS 9)) := ⟨rfl, rfl, rfl, by decide +kernel, rfl, by decide +kernel, by decide +kernel⟩
abbrev N_is_size : List Str := ["thing"]
abbrev P_is_size : List Str := ["thing"]
theorem sc_is_size : FnScope N_is_size P_is_size (defScope (topS 10)) := ⟨rfl, rfl, rfl, by decide +kernel, rfl, by decide +kernel, by decide +kernel⟩
abbrev N_are_ascending : List Str := ["things", "one", "late"]
abbrev P_are_ascending : List Str := ["things"]
theorem sc_are_ascending : FnScope N_are_ascending P_are_ascending (defScope (topS 11)) := ⟨rfl, rfl, rfl, by decide +kernel, rfl, by decide +kernel, by decide +kernel⟩
abbrev N_sums_fault : List Str := ["prime", "size", "thing", "k", "numbers"]
abbrev P_sums_fault : List Str := ["prime", "size", "thing"]
theorem sc_sums_fault : FnScope N_sums_fault P_sums_fault (defScope (topS 13)) := ⟨rfl, rfl, rfl, by decide +kernel, rfl, by decide +kernel, by decide +kernel⟩
abbrev N_book_fault : List Str := ["thing"]
abbrev P_book_fault : List Str := ["thing"]
theorem sc_book_fault : FnScope N_book_fault P_book_fault (defScope (topS 14)) := ⟨rfl, rfl, rfl, by decide +kernel, rfl, by decide +kernel, by decide +kernel⟩
abbrev N_is_lot_of : List Str := ["book", "thing", "one"]
abbrev P_is_lot_of : List Str := ["book", "thing"]
theorem sc_is_lot_of : FnScope N_is_lot_of P_is_lot_of (defScope (topS 15)) := ⟨rfl, rfl, rfl, by decide +kernel, rfl, by decide +kernel, by decide +kernel⟩
abbrev N_rest_of : List Str := ["prime", "numbers", "signs", "number", "sign"]
abbrev P_rest_of : List Str := ["prime", "numbers", "signs"]
theorem sc_rest_of : FnScope N_rest_of P_rest_of (defScope (topS 16)) := ⟨rfl, rfl, rfl, by decide +kernel, rfl, by decide +kernel, by decide +kernel⟩
abbrev N_want : List Str := ["is_right", "name", "place"]
abbrev P_want : List Str := ["is_right", "name", "place"]
theorem sc_want : FnScope N_want P_want (defScope (topS 22)) := ⟨rfl, rfl, rfl, by decide +kernel, rfl, by decide +kernel, by decide +kernel⟩
abbrev N_want_book : List Str := ["book", "name"]
abbrev P_want_book : List Str := ["book", "name"]
theorem sc_want_book : FnScope N_want_book P_want_book (defScope (topS 23)) := ⟨rfl, rfl, rfl, by decide +kernel, rfl, by decide +kernel, by decide +kernel⟩
abbrev N_want_lot : List Str := ["book", "lot", "name"]
abbrev P_want_lot : List Str := ["book", "lot", "name"]
theorem sc_want_lot : FnScope N_want_lot P_want_lot (defScope (topS 24)) := ⟨rfl, rfl, rfl, by decide +kernel, rfl, by decide +kernel, by decide +kernel⟩
abbrev N_want_sum : List Str := ["book", "numbers", "name"]
abbrev P_want_sum : List Str := ["book", "numbers", "name"]
theorem sc_want_sum : FnScope N_want_sum P_want_sum (defScope (topS 25)) := ⟨rfl, rfl, rfl, by decide +kernel, rfl, by decide +kernel, by decide +kernel⟩
abbrev N_is_from : List Str := ["least", "thing"]
abbrev P_is_from : List Str := ["least", "thing"]
theorem sc_is_from : FnScope N_is_from P_is_from (defScope (topS 27)) := ⟨rfl, rfl, rfl, by decide +kernel, rfl, by decide +kernel, by decide +kernel⟩
abbrev N_want_prime : List Str := ["prime"]
abbrev P_want_prime : List Str := ["prime"]
theorem sc_want_prime : FnScope N_want_prime P_want_prime (defScope (topS 28)) := ⟨rfl, rfl, rfl, by decide +kernel, rfl, by decide +kernel, by decide +kernel⟩
abbrev N_want_from : List Str := ["least", "thing", "name"]
abbrev P_want_from : List Str := ["least", "thing", "name"]
theorem sc_want_from : FnScope N_want_from P_want_from (defScope (topS 29)) := ⟨rfl, rfl, rfl, by decide +kernel, rfl, by decide +kernel, by decide +kernel⟩
abbrev N_want_many : List Str := ["prime", "wide", "many"]
abbrev P_want_many : List Str := ["prime", "wide", "many"]
theorem sc_want_many : FnScope N_want_many P_want_many (defScope (topS 30)) := ⟨rfl, rfl, rfl, by decide +kernel, rfl, by decide +kernel, by decide +kernel⟩
abbrev N_want_told : List Str := ["most", "told"]
abbrev P_want_told : List Str := ["most", "told"]
theorem sc_want_told : FnScope N_want_told P_want_told (defScope (topS 31)) := ⟨rfl, rfl, rfl, by decide +kernel, rfl, by decide +kernel, by decide +kernel⟩
abbrev N_power_at : List Str := ["prime", "number", "exponent", "found", "late"]
abbrev P_power_at : List Str := ["prime", "number", "exponent"]
theorem sc_power_at : FnScope N_power_at P_power_at (defScope (topS 33)) := ⟨rfl, rfl, rfl, by decide +kernel, rfl, by decide +kernel, by decide +kernel⟩
abbrev N_lessened_row : List Str := ["prime", "row", "first", "spot", "one", "late"]
abbrev P_lessened_row : List Str := ["prime", "row", "first", "spot"]
theorem sc_lessened_row : FnScope N_lessened_row P_lessened_row (defScope (topS 34)) := ⟨rfl, rfl, rfl, by decide +kernel, rfl, by decide +kernel, by decide +kernel⟩
abbrev N_led_row : List Str := ["prime", "row", "spot", "back", "one"]
abbrev P_led_row : List Str := ["prime", "row", "spot"]
theorem sc_led_row : FnScope N_led_row P_led_row (defScope (topS 35)) := ⟨rfl, rfl, rfl, by decide +kernel, rfl, by decide +kernel, by decide +kernel⟩
abbrev N_reduced_by : List Str := ["prime", "rows", "wide", "left", "found", "spot", "firsts", "first", "row"]
abbrev P_reduced_by : List Str := ["prime", "rows", "wide"]
theorem sc_reduced_by : FnScope N_reduced_by P_reduced_by (defScope (topS 36)) := ⟨rfl, rfl, rfl, by decide +kernel, rfl, by decide +kernel, by decide +kernel⟩
abbrev N_lead_of : List Str := ["row", "spot", "one"]
abbrev P_lead_of : List Str := ["row"]
theorem sc_lead_of : FnScope N_lead_of P_lead_of (defScope (topS 37)) := ⟨rfl, rfl, rfl, by decide +kernel, rfl, by decide +kernel, by decide +kernel⟩
abbrev N_kept_row : List Str := ["prime", "reduced", "leads", "wide", "free", "found", "lead", "row", "spot"]
abbrev P_kept_row : List Str := ["prime", "reduced", "leads", "wide", "free"]
theorem sc_kept_row : FnScope N_kept_row P_kept_row (defScope (topS 38)) := ⟨rfl, rfl, rfl, by decide +kernel, rfl, by decide +kernel, by decide +kernel⟩
abbrev N_null_by : List Str := ["prime", "rows", "wide", "reduced", "leads", "frees", "row", "spot", "free"]
abbrev P_null_by : List Str := ["prime", "rows", "wide"]
theorem sc_null_by : FnScope N_null_by P_null_by (defScope (topS 39)) := ⟨rfl, rfl, rfl, by decide +kernel, rfl, by decide +kernel, by decide +kernel⟩
abbrev N_cut_rows : List Str := ["rows", "places", "row", "place"]
abbrev P_cut_rows : List Str := ["rows", "places"]
theorem sc_cut_rows : FnScope N_cut_rows P_cut_rows (defScope (topS 40)) := ⟨rfl, rfl, rfl, by decide +kernel, rfl, by decide +kernel, by decide +kernel⟩
abbrev N_rank_by : List Str := ["prime", "rows", "wide"]
abbrev P_rank_by : List Str := ["prime", "rows", "wide"]
theorem sc_rank_by : FnScope N_rank_by P_rank_by (defScope (topS 41)) := ⟨rfl, rfl, rfl, by decide +kernel, rfl, by decide +kernel, by decide +kernel⟩
abbrev N_words_in : List Str := ["book"]
abbrev P_words_in : List Str := ["book"]
theorem sc_words_in : FnScope N_words_in P_words_in (defScope (topS 43)) := ⟨rfl, rfl, rfl, by decide +kernel, rfl, by decide +kernel, by decide +kernel⟩
abbrev N_told_in : List Str := ["book", "lot"]
abbrev P_told_in : List Str := ["book", "lot"]
theorem sc_told_in : FnScope N_told_in P_told_in (defScope (topS 44)) := ⟨rfl, rfl, rfl, by decide +kernel, rfl, by decide +kernel, by decide +kernel⟩
abbrev N_keeps_in : List Str := ["book", "numbers", "word"]
abbrev P_keeps_in : List Str := ["book", "numbers"]
theorem sc_keeps_in : FnScope N_keeps_in P_keeps_in (defScope (topS 45)) := ⟨rfl, rfl, rfl, by decide +kernel, rfl, by decide +kernel, by decide +kernel⟩
abbrev N_book_of_words : List Str := ["prime", "size", "words"]
abbrev P_book_of_words : List Str := ["prime", "size", "words"]
theorem sc_book_of_words : FnScope N_book_of_words P_book_of_words (defScope (topS 46)) := ⟨rfl, rfl, rfl, by decide +kernel, rfl, by decide +kernel, by decide +kernel⟩
abbrev N_prime_parts : List Str := ["number", "found", "part", "left"]
abbrev P_prime_parts : List Str := ["number"]
theorem sc_prime_parts : FnScope N_prime_parts P_prime_parts (defScope (topS 48)) := ⟨rfl, rfl, rfl, by decide +kernel, rfl, by decide +kernel, by decide +kernel⟩
abbrev N_primitive_by : List Str := ["prime", "parts", "found", "part"]
abbrev P_primitive_by : List Str := ["prime"]
theorem sc_primitive_by : FnScope N_primitive_by P_primitive_by (defScope (topS 49)) := ⟨rfl, rfl, rfl, by decide +kernel, rfl, by decide +kernel, by decide +kernel⟩
abbrev N_numbers_by : List Str := ["prime", "wide", "many", "first", "root", "tops", "turns", "j", "i", "top", "turn"]
abbrev P_numbers_by : List Str := ["prime", "wide", "many"]
theorem sc_numbers_by : FnScope N_numbers_by P_numbers_by (defScope (topS 50)) := ⟨rfl, rfl, rfl, by decide +kernel, rfl, by decide +kernel, by decide +kernel⟩
abbrev N_power_rows : List Str := ["prime", "numbers", "exponents", "exponent", "number"]
abbrev P_power_rows : List Str := ["prime", "numbers", "exponents"]
theorem sc_power_rows : FnScope N_power_rows P_power_rows (defScope (topS 51)) := ⟨rfl, rfl, rfl, by decide +kernel, rfl, by decide +kernel, by decide +kernel⟩
abbrev N_book_by_powers : List Str := ["prime", "numbers", "exponents"]
abbrev P_book_by_powers : List Str := ["prime", "numbers", "exponents"]
theorem sc_book_by_powers : FnScope N_book_by_powers P_book_by_powers (defScope (topS 52)) := ⟨rfl, rfl, rfl, by decide +kernel, rfl, by decide +kernel, by decide +kernel⟩
abbrev N_classes_by : List Str := ["wide", "many", "j"]
abbrev P_classes_by : List Str := ["wide", "many"]
theorem sc_classes_by : FnScope N_classes_by P_classes_by (defScope (topS 53)) := ⟨rfl, rfl, rfl, by decide +kernel, rfl, by decide +kernel, by decide +kernel⟩
abbrev N_parted_classes : List Str := ["wide", "many", "step", "found", "j", "i"]
abbrev P_parted_classes : List Str := ["wide", "many", "step"]
theorem sc_parted_classes : FnScope N_parted_classes P_parted_classes (defScope (topS 54)) := ⟨rfl, rfl, rfl, by decide +kernel, rfl, by decide +kernel, by decide +kernel⟩
abbrev N_nested_exponents : List Str := ["few", "wide", "inner", "many", "e"]
abbrev P_nested_exponents : List Str := ["few", "wide", "inner", "many"]
theorem sc_nested_exponents : FnScope N_nested_exponents P_nested_exponents (defScope (topS 56)) := ⟨rfl, rfl, rfl, by decide +kernel, rfl, by decide +kernel, by decide +kernel⟩
abbrev N_want_nested : List Str := ["few", "wide"]
abbrev P_want_nested : List Str := ["few", "wide"]
theorem sc_want_nested : FnScope N_want_nested P_want_nested (defScope (topS 57)) := ⟨rfl, rfl, rfl, by decide +kernel, rfl, by decide +kernel, by decide +kernel⟩
abbrev N_want_inner : List Str := ["wide", "inner"]
abbrev P_want_inner : List Str := ["wide", "inner"]
theorem sc_want_inner : FnScope N_want_inner P_want_inner (defScope (topS 58)) := ⟨rfl, rfl, rfl, by decide +kernel, rfl, by decide +kernel, by decide +kernel⟩
abbrev N_nested_used : List Str := ["few", "wide", "inner", "many"]
abbrev P_nested_used : List Str := ["few", "wide", "inner", "many"]
theorem sc_nested_used : FnScope N_nested_used P_nested_used (defScope (topS 59)) := ⟨rfl, rfl, rfl, by decide +kernel, rfl, by decide +kernel, by decide +kernel⟩
abbrev N_want_wide_classes : List Str := ["prime", "few", "wide"]
abbrev P_want_wide_classes : List Str := ["prime", "few", "wide"]
theorem sc_want_wide_classes : FnScope N_want_wide_classes P_want_wide_classes (defScope (topS 60)) := ⟨rfl, rfl, rfl, by decide +kernel, rfl, by decide +kernel, by decide +kernel⟩
abbrev N_nested_groups : List Str := ["prime", "few", "wide", "many"]
abbrev P_nested_groups : List Str := ["prime", "few", "wide", "many"]
theorem sc_nested_groups : FnScope N_nested_groups P_nested_groups (defScope (topS 61)) := ⟨rfl, rfl, rfl, by decide +kernel, rfl, by decide +kernel, by decide +kernel⟩
abbrev N_nested_book : List Str := ["prime", "few", "wide", "inner", "many", "told", "used"]
abbrev P_nested_book : List Str := ["prime", "few", "wide", "inner", "many", "told"]
theorem sc_nested_book : FnScope N_nested_book P_nested_book (defScope (topS 62)) := ⟨rfl, rfl, rfl, by decide +kernel, rfl, by decide +kernel, by decide +kernel⟩
abbrev N_told_signs : List Str := ["book"]
abbrev P_told_signs : List Str := ["book"]
theorem sc_told_signs : FnScope N_told_signs P_told_signs (defScope (topS 64)) := ⟨rfl, rfl, rfl, by decide +kernel, rfl, by decide +kernel, by decide +kernel⟩
abbrev N_told_on : List Str := ["book", "lot"]
abbrev P_told_on : List Str := ["book", "lot"]
theorem sc_told_on : FnScope N_told_on P_told_on (defScope (topS 65)) := ⟨rfl, rfl, rfl, by decide +kernel, rfl, by decide +kernel, by decide +kernel⟩
abbrev N_keeps : List Str := ["book", "numbers"]
abbrev P_keeps : List Str := ["book", "numbers"]
theorem sc_keeps : FnScope N_keeps P_keeps (defScope (topS 66)) := ⟨rfl, rfl, rfl, by decide +kernel, rfl, by decide +kernel, by decide +kernel⟩
abbrev N_base_words : List Str := ["book"]
abbrev P_base_words : List Str := ["book"]
theorem sc_base_words : FnScope N_base_words P_base_words (defScope (topS 67)) := ⟨rfl, rfl, rfl, by decide +kernel, rfl, by decide +kernel, by decide +kernel⟩
abbrev N_l_feed : List Str := ["_law_script", "_law_cell"]
abbrev P_l_feed : List Str := ["_law_script"]
theorem sc_l_feed : FnScope N_l_feed P_l_feed (defScope (topS 69)) := ⟨rfl, rfl, rfl, by decide +kernel, rfl, by decide +kernel, by decide +kernel⟩
abbrev N_l_draw : List Str := ["_law_feed_here", "_law_many", "_law_figure", "_law_spot", "_law_cell", "_law_mixed"]
abbrev P_l_draw : List Str := ["_law_feed_here", "_law_many"]
theorem sc_l_draw : FnScope N_l_draw P_l_draw (defScope (topS 70)) := ⟨rfl, rfl, rfl, by decide +kernel, rfl, by decide +kernel, by decide +kernel⟩
abbrev N_l_same : List Str := ["_law_heard", "_law_due"]
abbrev P_l_same : List Str := ["_law_heard", "_law_due"]
theorem sc_l_same : FnScope N_l_same P_l_same (defScope (topS 71)) := ⟨rfl, rfl, rfl, by decide +kernel, rfl, by decide +kernel, by decide +kernel⟩
abbrev N_l_pick : List Str := ["_law_feed_here", "_law_lot"]
abbrev P_l_pick : List Str := ["_law_feed_here", "_law_lot"]
theorem sc_l_pick : FnScope N_l_pick P_l_pick (defScope (topS 72)) := ⟨rfl, rfl, rfl, by decide +kernel, rfl, by decide +kernel, by decide +kernel⟩
abbrev N_l_inverse : List Str := ["_law_prime", "_law_number", "_law_found", "_law_here", "_law_left"]
abbrev P_l_inverse : List Str := ["_law_prime", "_law_number"]
theorem sc_l_inverse : FnScope N_l_inverse P_l_inverse (defScope (topS 73)) := ⟨rfl, rfl, rfl, by decide +kernel, rfl, by decide +kernel, by decide +kernel⟩
abbrev N_l_cleared : List Str := ["_law_prime", "_law_band", "_law_top", "_law_spot", "_law_one", "_law_other"]
abbrev P_l_cleared : List Str := ["_law_prime", "_law_band", "_law_top", "_law_spot"]
theorem sc_l_cleared : FnScope N_l_cleared P_l_cleared (defScope (topS 74)) := ⟨rfl, rfl, rfl, by decide +kernel, rfl, by decide +kernel, by decide +kernel⟩
abbrev N_l_stairs : List Str := ["_law_prime", "_law_bands", "_law_size", "_law_found", "_law_rest", "_law_spot", "_law_tops", "_law_times", "_law_top", "_law_band", "_law_one"]
abbrev P_l_stairs : List Str := ["_law_prime", "_law_bands", "_law_size"]
theorem sc_l_stairs : FnScope N_l_stairs P_l_stairs (defScope (topS 75)) := ⟨rfl, rfl, rfl, by decide +kernel, rfl, by decide +kernel, by decide +kernel⟩
abbrev N_l_across : List Str := ["_law_prime", "_law_bands", "_law_size", "_law_steps", "_law_found", "_law_firsts", "_law_free", "_law_signs", "_law_band", "_law_first", "_law_spot"]
abbrev P_l_across : List Str := ["_law_prime", "_law_bands", "_law_size"]
theorem sc_l_across : FnScope N_l_across P_l_across (defScope (topS 76)) := ⟨rfl, rfl, rfl, by decide +kernel, rfl, by decide +kernel, by decide +kernel⟩
abbrev N_l_power : List Str := ["_law_prime", "_law_number", "_law_times", "_law_found", "_law_here", "_law_left"]
abbrev P_l_power : List Str := ["_law_prime", "_law_number", "_law_times"]
theorem sc_l_power : FnScope N_l_power P_l_power (defScope (topS 77)) := ⟨rfl, rfl, rfl, by decide +kernel, rfl, by decide +kernel, by decide +kernel⟩
abbrev N_l_primitive : List Str := ["_law_prime", "_law_number", "_law_here", "_law_many", "_law_lap"]
abbrev P_l_primitive : List Str := ["_law_prime"]
theorem sc_l_primitive : FnScope N_l_primitive P_l_primitive (defScope (topS 78)) := ⟨rfl, rfl, rfl, by decide +kernel, rfl, by decide +kernel, by decide +kernel⟩
abbrev N_l_numbers : List Str := ["_law_prime", "_law_wide", "_law_many", "_law_first", "_law_found", "_law_root", "_law_turn", "_law_here", "_law_spot"]
abbrev P_l_numbers : List Str := ["_law_prime", "_law_wide", "_law_many"]
theorem sc_l_numbers : FnScope N_l_numbers P_l_numbers (defScope (topS 79)) := ⟨rfl, rfl, rfl, by decide +kernel, rfl, by decide +kernel, by decide +kernel⟩
abbrev N_l_worths : List Str := ["_law_prime", "_law_numbers_here", "_law_used", "_law_times", "_law_number"]
abbrev P_l_worths : List Str := ["_law_prime", "_law_numbers_here", "_law_used"]
theorem sc_l_worths : FnScope N_l_worths P_l_worths (defScope (topS 80)) := ⟨rfl, rfl, rfl, by decide +kernel, rfl, by decide +kernel, by decide +kernel⟩
abbrev N_l_made : List Str := ["_law_prime", "_law_numbers_here", "_law_used", "_law_size"]
abbrev P_l_made : List Str := ["_law_prime", "_law_numbers_here", "_law_used"]
theorem sc_l_made : FnScope N_l_made P_l_made (defScope (topS 81)) := ⟨rfl, rfl, rfl, by decide +kernel, rfl, by decide +kernel, by decide +kernel⟩
abbrev N_l_rank : List Str := ["_law_prime", "_law_bands", "_law_lot", "_law_band", "_law_spot"]
abbrev P_l_rank : List Str := ["_law_prime", "_law_bands", "_law_lot"]
theorem sc_l_rank : FnScope N_l_rank P_l_rank (defScope (topS 82)) := ⟨rfl, rfl, rfl, by decide +kernel, rfl, by decide +kernel, by decide +kernel⟩
abbrev N_l_blocs : List Str := ["_law_rest", "_law_width", "_law_groups_there", "_law_small", "_law_step", "_law_turn", "_law_first", "_law_lap"]
abbrev P_l_blocs : List Str := ["_law_rest", "_law_width", "_law_groups_there"]
theorem sc_l_blocs : FnScope N_l_blocs P_l_blocs (defScope (topS 83)) := ⟨rfl, rfl, rfl, by decide +kernel, rfl, by decide +kernel, by decide +kernel⟩
abbrev N_l_is_told : List Str := ["_law_prime", "_law_bands", "_law_bloc", "_law_spot", "_law_others", "_law_one"]
abbrev P_l_is_told : List Str := ["_law_prime", "_law_bands", "_law_bloc"]
theorem sc_l_is_told : FnScope N_l_is_told P_l_is_told (defScope (topS 84)) := ⟨rfl, rfl, rfl, by decide +kernel, rfl, by decide +kernel, by decide +kernel⟩
abbrev N_law : List Str := ["_law_script", "_law_feed_here", "_law_menu", "_law_lap", "_law_prime", "_law_rest", "_law_width", "_law_groups_there", "_law_deep", "_law_fit", "_law_high", "_law_numbers_here", "_law_due_blocs", "_law_bands", "_law_found", "_law_heard", "_law_bloc", "_law_left", "_law_turn", "_law_times", "_law_band"]
abbrev P_law : List Str := ["_law_script"]
theorem sc_law : FnScope N_law P_law (defScope (topS 85)) := ⟨rfl, rfl, rfl, by decide +kernel, rfl, by decide +kernel, by decide +kernel⟩
/-- a def of the text as the top has left it -/
structure Dfn (K : PySem.W.Frag) (mg : Str → Option Value) (x : Str) (st : Stmt) (ps : List Str) : Prop where
  ex : ∃ f fd, Fun K x x st f fd ∧ Binds K fd ps [] ∧ mg x = some (.ref f)
/-- .. with defaults, some of its last parameters' -/
structure DfnD (K : PySem.W.Frag) (mg : Str → Option Value) (x : Str) (st : Stmt) (ps : List Str) (dvs : List V) : Prop where
  ex : ∃ f fd us, FunD K x x (defArgs st) (defBody st) (defScope st) dvs [] f fd ∧ Binds K fd ps us ∧ Vals dvs us ∧ mg x = some (.ref f)
structure Txt (K : PySem.W.Frag) (mg : Str → Option Value) : Prop where
  b_len : mg "len" = none
  b_tuple : mg "tuple" = none
  b_list : mg "list" = none
  b_int : mg "int" = none
  b_bool : mg "bool" = none
  b_range : mg "range" = none
  b_zip : mg "zip" = none
  b_enumerate : mg "enumerate" = none
  b_sum : mg "sum" = none
  b_all : mg "all" = none
  b_any : mg "any" = none
  b_repr : mg "repr" = none
  b_sorted : mg "sorted" = none
  b_set : mg "set" = none
  b_isinstance : mg "isinstance" = none
  c_TOP : ∃ t, mg "TOP" = some (.int 1000000 t)
  c_MOST : ∃ t, mg "MOST_SIZE" = some (.int 100 t)
  d_is_integer : Dfn K mg "is_integer" (topS 3) P_is_integer
  d_is_number : Dfn K mg "is_number" (topS 4) P_is_number
  d_is_prime : Dfn K mg "is_prime" (topS 5) P_is_prime
  d_is_index : Dfn K mg "is_index" (topS 6) P_is_index
  d_is_tuple_of : Dfn K mg "is_tuple_of" (topS 7) P_is_tuple_of
  d_are_rests : Dfn K mg "are_rests" (topS 8) P_are_rests
  d_is_sum_of : Dfn K mg "is_sum_of" (topS 9) P_is_sum_of
  d_is_size : Dfn K mg "is_size" (topS 10) P_is_size
  d_are_ascending : Dfn K mg "are_ascending" (topS 11) P_are_ascending
  d_sums_fault : Dfn K mg "sums_fault" (topS 13) P_sums_fault
  d_book_fault : Dfn K mg "book_fault" (topS 14) P_book_fault
  d_is_lot_of : Dfn K mg "is_lot_of" (topS 15) P_is_lot_of
  d_rest_of : Dfn K mg "rest_of" (topS 16) P_rest_of
  d_want : DfnD K mg "want" (topS 22) P_want [.int (-1)]
  d_want_book : DfnD K mg "want_book" (topS 23) P_want_book [.str "book"]
  d_want_lot : DfnD K mg "want_lot" (topS 24) P_want_lot [.str "lot"]
  d_want_sum : DfnD K mg "want_sum" (topS 25) P_want_sum [.str "numbers"]
  d_is_from : Dfn K mg "is_from" (topS 27) P_is_from
  d_want_prime : Dfn K mg "want_prime" (topS 28) P_want_prime
  d_want_from : Dfn K mg "want_from" (topS 29) P_want_from
  d_want_many : Dfn K mg "want_many" (topS 30) P_want_many
  d_want_told : Dfn K mg "want_told" (topS 31) P_want_told
  d_power_at : Dfn K mg "power_at" (topS 33) P_power_at
  d_lessened_row : Dfn K mg "lessened_row" (topS 34) P_lessened_row
  d_led_row : Dfn K mg "led_row" (topS 35) P_led_row
  d_reduced_by : Dfn K mg "reduced_by" (topS 36) P_reduced_by
  d_lead_of : Dfn K mg "lead_of" (topS 37) P_lead_of
  d_kept_row : Dfn K mg "kept_row" (topS 38) P_kept_row
  d_null_by : Dfn K mg "null_by" (topS 39) P_null_by
  d_cut_rows : Dfn K mg "cut_rows" (topS 40) P_cut_rows
  d_rank_by : Dfn K mg "rank_by" (topS 41) P_rank_by
  d_words_in : Dfn K mg "words_in" (topS 43) P_words_in
  d_told_in : Dfn K mg "told_in" (topS 44) P_told_in
  d_keeps_in : Dfn K mg "keeps_in" (topS 45) P_keeps_in
  d_book_of_words : Dfn K mg "book_of_words" (topS 46) P_book_of_words
  d_prime_parts : Dfn K mg "prime_parts" (topS 48) P_prime_parts
  d_primitive_by : Dfn K mg "primitive_by" (topS 49) P_primitive_by
  d_numbers_by : Dfn K mg "numbers_by" (topS 50) P_numbers_by
  d_power_rows : Dfn K mg "power_rows" (topS 51) P_power_rows
  d_book_by_powers : Dfn K mg "book_by_powers" (topS 52) P_book_by_powers
  d_classes_by : Dfn K mg "classes_by" (topS 53) P_classes_by
  d_parted_classes : Dfn K mg "parted_classes" (topS 54) P_parted_classes
  d_nested_exponents : Dfn K mg "nested_exponents" (topS 56) P_nested_exponents
  d_want_nested : Dfn K mg "want_nested" (topS 57) P_want_nested
  d_want_inner : Dfn K mg "want_inner" (topS 58) P_want_inner
  d_nested_used : Dfn K mg "nested_used" (topS 59) P_nested_used
  d_want_wide_classes : Dfn K mg "want_wide_classes" (topS 60) P_want_wide_classes
  d_nested_groups : Dfn K mg "nested_groups" (topS 61) P_nested_groups
  d_nested_book : Dfn K mg "nested_book" (topS 62) P_nested_book
  d_told_signs : Dfn K mg "told_signs" (topS 64) P_told_signs
  d_told_on : Dfn K mg "told_on" (topS 65) P_told_on
  d_keeps : Dfn K mg "keeps" (topS 66) P_keeps
  d_base_words : Dfn K mg "base_words" (topS 67) P_base_words
  d_l_feed : Dfn K mg "_law_feed" (topS 69) P_l_feed
  d_l_draw : Dfn K mg "_law_draw" (topS 70) P_l_draw
  d_l_same : Dfn K mg "_law_same" (topS 71) P_l_same
  d_l_pick : Dfn K mg "_law_pick" (topS 72) P_l_pick
  d_l_inverse : Dfn K mg "_law_inverse" (topS 73) P_l_inverse
  d_l_cleared : Dfn K mg "_law_cleared" (topS 74) P_l_cleared
  d_l_stairs : Dfn K mg "_law_stairs" (topS 75) P_l_stairs
  d_l_across : Dfn K mg "_law_across" (topS 76) P_l_across
  d_l_power : Dfn K mg "_law_power" (topS 77) P_l_power
  d_l_primitive : Dfn K mg "_law_primitive" (topS 78) P_l_primitive
  d_l_numbers : Dfn K mg "_law_numbers" (topS 79) P_l_numbers
  d_l_worths : Dfn K mg "_law_worths" (topS 80) P_l_worths
  d_l_made : Dfn K mg "_law_made" (topS 81) P_l_made
  d_l_rank : Dfn K mg "_law_rank" (topS 82) P_l_rank
  d_l_blocs : Dfn K mg "_law_blocs" (topS 83) P_l_blocs
  d_l_is_told : Dfn K mg "_law_is_told" (topS 84) P_l_is_told
  d_law : Dfn K mg "law" (topS 85) P_law
end DL
set_option Elab.async false
set_option linter.all false
set_option maxRecDepth 100000
set_option maxHeartbeats 4000000
/-! TX1: the first defs. -/
namespace DL
open PySem PySem.Spec PyProof.Rows L2

/-- a def keeps a promise over data -/
structure Has (P : Program) (w : World) (K : PySem.W.Frag) (mg : Str → Option Value) (base : Heap) (k : Nat) (x : Str) (ps : List Str) (dds : List PyData) (G : List PyData → PyData → Prop) : Prop where
  ex : ∃ f fd us dvs, FnOk P w K mg base CX0 k f fd ps (spD K G) ∧ Binds K fd ps us ∧ Vals dvs us ∧ (∀ S, DpAll K S dvs dds) ∧ mg x = some (.ref f) ∧ PySem.W.keepIn K (.ref f) = true
/-- what holds of a body's context -/
structure Bd (P : Program) (w : World) (K : PySem.W.Frag) (mg : Str → Option Value) (base : Heap) (N : List Str) (q : Str) (st : Stmt) (k : Nat) (X : Cx) : Prop where
  ex : ∃ f cdv A outer s H E, X = (cxOf CX0 P w K mg base N q (defScope st) f cdv A outer s H E).nox
  hr : Room k X.A
section
variable {P : Program} {w : World} {K : PySem.W.Frag} {mg : Str → Option Value} {base : Heap}
theorem has_mk {x : Str} {st : Stmt} {N ps : List Str} {k : Nat} {G : List PyData → PyData → Prop} (D : Dfn K mg x st ps) (S : FnScope N ps (defScope st)) (hl : ∀ ds d, G ds d → ds.length = ps.length)
    (body : ∀ f cdv A outer s H E, Room k (cxOf CX0 P w K mg base N x (defScope st) f cdv A outer s H E).nox.A → ∀ ds d, G ds d → SXs (cxOf CX0 P w K mg base N x (defScope st) f cdv A outer s H E).nox (defBody st) (startD N ds) { nx := fun _ => d = .none, rt := fun r _ => r = d }) :
    Has P w K mg base (k + 1) x ps [] G := by
  obtain ⟨f, fd, F, b, m⟩ := D.ex
  exact ⟨f, fd, [], [], fn_data F S hl (fun X ⟨cdv, A, outer, s, H, E, e⟩ hr ds d hG => by subst e; exact body f cdv A outer s H E hr ds d hG), b, .nil, fun _ => .nil, m, F.kp⟩
theorem ex_has {X : Cx} {δ : List Slot} {e : Expr} {es : List Expr} {d : PyData} {ds dds : List PyData} {pos p : Pos} {G : List PyData → PyData → Prop} {j k : Nat} {ps : List Str} {x : Str} (F : Has X.prog X.w X.K X.mg X.base j x ps dds G) (hr : Room k X.A) (ha : AX X (e :: es) δ ds) (hG : G (ds ++ dds) d) (hj : j ≤ k := by decide) (hg : Gl X x := by rfl)
    (hdb : (x == ("__debug__" : Str)) = false := by decide) (he : starEach (e :: es) X.env = (false, eval e X.env) :: starEach es X.env := by rfl) (hpl : (backTo pos (starEach es X.env)).any (·.1) = false := by rfl) : EX X (.Call (.Name x p) (e :: es) [] pos) δ d := by
  obtain ⟨f, fd, us, dvs, F, b, v, hdd, m, kp⟩ := F.ex
  exact ex_callD F (hr.mono hj) m kp b v hdd pass0 ha hG hg hdb he hpl

/-! ### kinds -/
theorem kit_ii : kitB "int" "int" = some true := by decide +kernel
theorem kit_ib : kitB "int" "bool" = some false := by decide +kernel
theorem kit_tt : kitB "tuple" "tuple" = some true := by decide +kernel
def gI (r : Int → PyData) : List PyData → PyData → Prop := fun ds d => ∃ i, ds = [.int i] ∧ d = r i
theorem has_is_integer (T : Txt K mg) : Has P w K mg base 1 "is_integer" P_is_integer [] (gI fun _ => .bool true) := by
  refine has_mk T.d_is_integer sc_is_integer (fun ds d ⟨i, e, _⟩ => by rw [e]; rfl) fun f cdv A outer s H E hr ds d hG => ?_
  obtain ⟨i, rfl, rfl⟩ := hG
  refine sxs_last (sx_ret (d := .bool (true && !false)) ?_ rfl)
  refine ex_and (ex_isi (tn := "int") (d := .int i) (ex_var 0 rfl) kit_ii T.b_isinstance T.b_int PyProof.Rows.boot_int) fun _ => ex_one (ex_not ?_)
  exact ex_isi (tn := "bool") (d := .int i) (ex_var 0 rfl) kit_ib T.b_isinstance T.b_bool PyProof.Rows.boot_bool
theorem has_is_number (T : Txt K mg) : Has P w K mg base 2 "is_number" P_is_number [] (gI fun i => .bool (decide (0 ≤ i))) := by
  refine has_mk T.d_is_number sc_is_number (fun ds d ⟨i, e, _⟩ => by rw [e]; rfl) fun f cdv A outer s H E hr ds d hG => ?_
  obtain ⟨i, rfl, rfl⟩ := hG
  refine sxs_last (sx_ret (d := .bool (true && decide (0 ≤ i))) ?_ (by rw [Bool.true_and]))
  refine ex_and (ex_has (has_is_integer T) hr (ax_cons (ex_var 0 rfl) ax_nil) ⟨i, rfl, rfl⟩) fun _ => ex_one (ex_ge (ex_var 0 rfl) ex_int)
end
end DL
set_option linter.all false
set_option maxRecDepth 100000
set_option maxHeartbeats 4000000
/-! MI: the plain functions. -/
namespace MI
/-- a number so often as a factor -/
def powF (p : Nat) : Nat → Nat → Nat → Nat → Nat
  | 0, f, _, _ => f
  | k + 1, f, l, e => if e = 0 then f else powF p k (if e % 2 = 1 then f * l % p else f) (l * l % p) (e / 2)
def powN (p n e : Nat) : Nat := powF p e 1 n e
/-- x less y times z; minus x -/
def subm (p x y z : Nat) : Nat := (x + (p - y * z % p)) % p
def negm (p x : Nat) : Nat := (p - x % p) % p
abbrev Row := List Nat
def lessen (p : Nat) (row first : Row) (spot : Nat) : Row := List.zipWith (fun one late => subm p one (row.getD spot 0) late) row first
def led (p : Nat) (row : Row) (spot : Nat) : Row := row.map fun one => one * powN p (row.getD spot 0) (p - 2) % p
def stepR (p : Nat) (s : List Row × List Row) (spot : Nat) : List Row × List Row :=
  match s.1.filter fun row => decide (0 < row.getD spot 0) with
  | [] => s
  | r :: _ => (s.1.map fun row => lessen p row (led p r spot) spot, (s.2.map fun row => lessen p row (led p r spot) spot) ++ [led p r spot])
def redTo (p : Nat) (rows : List Row) (n : Nat) : List Row × List Row := (List.range n).foldl (stepR p) (rows, [])
def reduced (p : Nat) (rows : List Row) (wide : Nat) : List Row := (redTo p rows wide).2
/-- the places at which a row is not 0 -/
def spotsOf (row : Row) : List Nat := (List.range row.length).filter fun k => decide (0 < row.getD k 0)
def leadOf (row : Row) : Nat := (spotsOf row).headD 0
def kept0 (wide free : Nat) : Row := (List.range wide).map fun s => if s = free then 1 else 0
def kept (p : Nat) (red : List Row) (leads : List Nat) (wide free : Nat) : Row :=
  (leads.zip red).foldl (fun f lr => f.set lr.1 (negm p (lr.2.getD free 0))) (kept0 wide free)
def freesOf (leads : List Nat) (wide : Nat) : List Nat := (List.range wide).filter fun s => decide (s ∉ leads)
def nullRows (p : Nat) (red : List Row) (wide : Nat) : List Row := (freesOf (red.map leadOf) wide).map (kept p red (red.map leadOf) wide)
def nullN (p : Nat) (rows : List Row) (wide : Nat) : List Row := reduced p (nullRows p (reduced p rows wide) wide) wide
def cut (rows : List Row) (places : List Nat) : List Row := rows.map fun row => places.map fun k => row.getD k 0
def powRows (p : Nat) (numbers exps : List Nat) : List Row := exps.map fun e => numbers.map fun n => powN p n e
def numsN (p g wide many : Nat) : List Nat := (List.range many).flatMap fun j => (List.range wide).map fun i => powN p g j * powN p (powN p g ((p - 1) / wide)) i % p
/-- every row has a place that is not 0 -/
def nz (rows : List Row) : Prop := ∀ r ∈ rows, ∃ k, k < r.length ∧ 0 < r.getD k 0
structure Wf (p : Nat) (rows : List Row) (wide : Nat) : Prop where
  len : ∀ r ∈ rows, r.length = wide
  lt : ∀ r ∈ rows, ∀ x ∈ r, x < p
theorem powF_lt {p : Nat} : ∀ (k f l e : Nat), f < p → powF p k f l e < p
  | 0, f, _, _, h => h
  | k + 1, f, l, e, h => by
    unfold powF
    split
    · exact h
    · refine powF_lt k _ _ _ ?_
      split
      · exact Nat.mod_lt _ (by omega)
      · exact h
theorem powN_lt {p n e : Nat} (h : 1 < p) : powN p n e < p := powF_lt e 1 n e h
theorem subm_lt {p x y z : Nat} (h : 0 < p) : subm p x y z < p := Nat.mod_lt _ h
theorem negm_lt {p x : Nat} (h : 0 < p) : negm p x < p := Nat.mod_lt _ h
theorem subm_int {p x y z : Nat} (h : 0 < p) : ((x : Int) - (y : Int) * (z : Int)) % (p : Int) = (subm p x y z : Nat) := by
  unfold subm
  have h1 : y * z % p < p := Nat.mod_lt _ h
  have e1 : ((x + (p - y * z % p) : Nat) : Int) = (x : Int) + ((p : Int) - ((y * z % p : Nat) : Int)) := by omega
  rw [Int.natCast_emod, e1, Int.natCast_emod, Int.natCast_mul]
  have e2 : (x : Int) + ((p : Int) - (y : Int) * (z : Int) % (p : Int)) = ((x : Int) - (y : Int) * (z : Int) % (p : Int)) + (p : Int) := by omega
  rw [e2, Int.add_emod_right, Int.sub_emod (x : Int) ((y : Int) * (z : Int) % (p : Int)), Int.emod_emod_of_dvd _ (Int.dvd_refl _), ← Int.sub_emod]
theorem negm_int {p x : Nat} (h : 0 < p) : (-(x : Int)) % (p : Int) = (negm p x : Nat) := by
  have := subm_int (p := p) (x := 0) (y := x) (z := 1) h
  simp only [Int.natCast_zero, Int.natCast_one, Int.mul_one, Int.zero_sub] at this
  rw [this]
  unfold subm negm
  rw [Nat.zero_add, Nat.mul_one]
theorem getD_lt {p : Nat} {r : Row} {k : Nat} (hp : 0 < p) (h : ∀ x ∈ r, x < p) : r.getD k 0 < p := by
  rw [List.getD_eq_getElem?_getD]
  cases e : r[k]? with
  | none => exact hp
  | some x => exact h x (List.mem_of_getElem? e)
theorem lessen_len {p : Nat} {row first : Row} {spot : Nat} (h : row.length = first.length) : (lessen p row first spot).length = row.length := by
  unfold lessen
  rw [List.length_zipWith, h, Nat.min_self]
theorem lessen_lt {p : Nat} {row first : Row} {spot : Nat} (hp : 0 < p) : ∀ x ∈ lessen p row first spot, x < p := by
  intro x hx
  unfold lessen at hx
  obtain ⟨i, hi, e⟩ := List.getElem_of_mem hx
  rw [List.getElem_zipWith] at e
  rw [← e]
  exact subm_lt hp
theorem led_len {p : Nat} {row : Row} {spot : Nat} : (led p row spot).length = row.length := by
  unfold led
  rw [List.length_map]
theorem led_lt {p : Nat} {row : Row} {spot : Nat} (hp : 0 < p) : ∀ x ∈ led p row spot, x < p := by
  intro x hx
  unfold led at hx
  obtain ⟨y, _, e⟩ := List.mem_map.mp hx
  rw [← e]
  exact Nat.mod_lt _ hp
theorem stepR_wf {p wide spot : Nat} {s : List Row × List Row} (hp : 0 < p) (h1 : Wf p s.1 wide) (h2 : Wf p s.2 wide) : Wf p (stepR p s spot).1 wide ∧ Wf p (stepR p s spot).2 wide := by
  unfold stepR
  split
  · exact ⟨h1, h2⟩
  · rename_i r t e
    have hr : r ∈ s.1 := (List.mem_filter.mp (by rw [e]; exact List.mem_cons_self ..)).1
    have hl : (led p r spot).length = wide := by rw [led_len]; exact h1.len r hr
    refine ⟨⟨fun x hx => ?_, fun x hx => ?_⟩, ⟨fun x hx => ?_, fun x hx => ?_⟩⟩
    · obtain ⟨y, hy, e⟩ := List.mem_map.mp hx
      rw [← e, lessen_len (by rw [hl]; exact h1.len y hy)]
      exact h1.len y hy
    · obtain ⟨y, hy, e⟩ := List.mem_map.mp hx
      rw [← e]
      exact lessen_lt hp
    · rcases List.mem_append.mp hx with hx | hx
      · obtain ⟨y, hy, e⟩ := List.mem_map.mp hx
        rw [← e, lessen_len (by rw [hl]; exact h2.len y hy)]
        exact h2.len y hy
      · rw [List.mem_singleton.mp hx]
        exact hl
    · rcases List.mem_append.mp hx with hx | hx
      · obtain ⟨y, hy, e⟩ := List.mem_map.mp hx
        rw [← e]
        exact lessen_lt hp
      · rw [List.mem_singleton.mp hx]
        exact led_lt hp
theorem stepR_len {p spot : Nat} {s : List Row × List Row} : (stepR p s spot).1.length = s.1.length ∧ (stepR p s spot).2.length ≤ s.2.length + 1 := by
  unfold stepR
  split
  · exact ⟨rfl, Nat.le_succ _⟩
  · exact ⟨by simp, by simp⟩
theorem redTo_succ {p : Nat} {rows : List Row} {n : Nat} : redTo p rows (n + 1) = stepR p (redTo p rows n) n := by
  unfold redTo
  rw [List.range_succ, List.foldl_append]
  rfl
theorem redTo_wf {p wide : Nat} {rows : List Row} (hp : 0 < p) (h : Wf p rows wide) : ∀ n, Wf p (redTo p rows n).1 wide ∧ Wf p (redTo p rows n).2 wide
  | 0 => ⟨h, ⟨(fun _ z => nomatch z), (fun _ z => nomatch z)⟩⟩
  | n + 1 => by
    rw [redTo_succ]
    exact stepR_wf hp (redTo_wf hp h n).1 (redTo_wf hp h n).2
theorem redTo_len {p : Nat} {rows : List Row} : ∀ n, (redTo p rows n).1.length = rows.length ∧ (redTo p rows n).2.length ≤ n
  | 0 => ⟨rfl, Nat.le_refl _⟩
  | n + 1 => by
    rw [redTo_succ]
    have h1 := redTo_len (p := p) (rows := rows) n
    have h2 := stepR_len (p := p) (spot := n) (s := redTo p rows n)
    omega
theorem reduced_wf {p wide : Nat} {rows : List Row} (hp : 0 < p) (h : Wf p rows wide) : Wf p (reduced p rows wide) wide := (redTo_wf hp h wide).2
theorem reduced_len {p wide : Nat} {rows : List Row} : (reduced p rows wide).length ≤ wide := (redTo_len wide).2
theorem leadOf_lt {row : Row} (h : ∃ k, k < row.length ∧ 0 < row.getD k 0) : leadOf row < row.length ∧ spotsOf row ≠ [] := by
  obtain ⟨k, hk, hv⟩ := h
  have hm : k ∈ spotsOf row := List.mem_filter.mpr ⟨List.mem_range.mpr hk, decide_eq_true hv⟩
  unfold leadOf
  cases e : spotsOf row with
  | nil => rw [e] at hm; cases hm
  | cons x t =>
    refine ⟨?_, fun z => nomatch z⟩
    have : x ∈ spotsOf row := by rw [e]; exact List.mem_cons_self ..
    exact List.mem_range.mp (List.mem_filter.mp this).1
theorem kept_fold_len {p free : Nat} : ∀ (l : List (Nat × Row)) (f : Row), (l.foldl (fun f lr => f.set lr.1 (negm p (lr.2.getD free 0))) f).length = f.length
  | [], f => rfl
  | x :: r, f => by
    rw [List.foldl_cons, kept_fold_len r]
    simp
theorem kept_len {p wide free : Nat} {red : List Row} {leads : List Nat} : (kept p red leads wide free).length = wide := by
  unfold kept
  rw [kept_fold_len]
  simp [kept0]
theorem kept_fold_lt {p free : Nat} (hp : 0 < p) : ∀ (l : List (Nat × Row)) (f : Row), (∀ x ∈ f, x < p) → ∀ x ∈ l.foldl (fun f lr => f.set lr.1 (negm p (lr.2.getD free 0))) f, x < p
  | [], f, h => h
  | y :: r, f, h => by
    rw [List.foldl_cons]
    refine kept_fold_lt hp r _ fun x hx => ?_
    rcases List.mem_or_eq_of_mem_set hx with hx | hx
    · exact h x hx
    · rw [hx]
      exact negm_lt hp
theorem kept_lt {p wide free : Nat} {red : List Row} {leads : List Nat} (hp : 1 < p) : ∀ x ∈ kept p red leads wide free, x < p := by
  unfold kept
  refine kept_fold_lt (by omega) _ _ fun x hx => ?_
  unfold kept0 at hx
  obtain ⟨s, _, e⟩ := List.mem_map.mp hx
  rw [← e]
  split <;> omega
theorem nullRows_wf {p wide : Nat} {red : List Row} (hp : 1 < p) : Wf p (nullRows p red wide) wide := by
  refine ⟨fun r hr => ?_, fun r hr => ?_⟩
  · unfold nullRows at hr
    obtain ⟨s, _, e⟩ := List.mem_map.mp hr
    rw [← e]
    exact kept_len
  · unfold nullRows at hr
    obtain ⟨s, _, e⟩ := List.mem_map.mp hr
    rw [← e]
    exact kept_lt hp
theorem nullN_wf {p wide : Nat} {rows : List Row} (hp : 1 < p) : Wf p (nullN p rows wide) wide := reduced_wf (by omega) (nullRows_wf hp)
theorem nullN_len {p wide : Nat} {rows : List Row} : (nullN p rows wide).length ≤ wide := reduced_len
end MI
set_option Elab.async false
set_option linter.all false
set_option maxRecDepth 100000
set_option maxHeartbeats 4000000
/-! TX2: rows. -/
namespace DL
open PySem PySem.Spec PyProof.Rows L2 MI

abbrev dI (n : Nat) : PyData := .int (n : Int)
abbrev dIs (r : List Nat) : List PyData := r.map dI
abbrev dR (r : List Nat) : PyData := .tuple (dIs r)
abbrev dL (r : List Nat) : PyData := .list (dIs r)
section
variable {P : Program} {w : World} {K : PySem.W.Frag} {mg : Str → Option Value} {base : Heap}
/-! ### power_at -/
def gPow : List PyData → PyData → Prop := fun ds d => ∃ p n e : Nat, ds = [dI p, dI n, dI e] ∧ 1 < p ∧ p < 100000 ∧ n < p ∧ d = dI (powN p n e)
theorem odd_int (e : Nat) : decide ((e : Int) % 2 = 1) = decide (e % 2 = 1) := by
  by_cases h : e % 2 = 1
  · rw [decide_eq_true h, decide_eq_true (by omega)]
  · rw [decide_eq_false h, decide_eq_false (by omega)]
theorem powF_go {p k f l e : Nat} (h : e ≤ k) (h0 : 0 < e) : powF p k f l e = powF p (k - 1) (if e % 2 = 1 then f * l % p else f) (l * l % p) (e / 2) := by
  cases k with
  | zero => omega
  | succ k =>
    show (if e = 0 then f else powF p k _ _ _) = _
    rw [if_neg (by omega)]
    rfl
theorem powF_fuel {p : Nat} : ∀ (k j f l e : Nat), e ≤ k → e ≤ j → powF p k f l e = powF p j f l e
  | 0, j, f, l, e, h1, h2 => by
    have : e = 0 := by omega
    subst this
    cases j with
    | zero => rfl
    | succ j => unfold powF; rw [if_pos rfl]
  | k + 1, 0, f, l, e, h1, h2 => by
    have : e = 0 := by omega
    subst this
    unfold powF
    rw [if_pos rfl]
  | k + 1, j + 1, f, l, e, h1, h2 => by
    unfold powF
    by_cases he : e = 0
    · rw [if_pos he, if_pos he]
    · rw [if_neg he, if_neg he]
      exact powF_fuel k j _ _ _ (by omega) (by omega)
theorem cmul_small {i j : Int} (h : -(2 ^ 64) < i ∧ i < 2 ^ 64) : CMul i j := Or.inl h
section
variable {X : Cx} {a b : Expr} {δ : List Slot} {x y : Nat} {pos : Pos}
theorem exn_add (ha : EX X a δ (dI x)) (hb : EX X b δ (dI y)) : EX X (.BinOp a .Add b pos) δ (dI (x + y)) := (ex_add ha hb).is (by simp [dI])
theorem exn_mul (ha : EX X a δ (dI x)) (hb : EX X b δ (dI y)) (h : x < 2 ^ 64) : EX X (.BinOp a .Mult b pos) δ (dI (x * y)) := (ex_mul ha hb (Or.inl ⟨by omega, by omega⟩)).is (by simp [dI])
theorem exn_sub (ha : EX X a δ (dI x)) (hb : EX X b δ (dI y)) (h : y ≤ x) : EX X (.BinOp a .Sub b pos) δ (dI (x - y)) := (ex_sub ha hb).is (by simp only [dI]; congr 1; omega)
theorem exn_mod (ha : EX X a δ (dI x)) (hb : EX X b δ (dI y)) (h : 0 < y) : EX X (.BinOp a .Mod b pos) δ (dI (x % y)) := (ex_mod ha hb (by omega)).is (by simp [dI])
theorem exn_div (ha : EX X a δ (dI x)) (hb : EX X b δ (dI y)) (h : 0 < y) (h2 : y < 1073741824) : EX X (.BinOp a .FloorDiv b pos) δ (dI (x / y)) := (ex_fdiv ha hb ⟨by omega, by omega⟩).is (by simp [dI])
theorem dec_lt : decide ((x : Int) < (y : Int)) = decide (x < y) := by
  by_cases h : x < y
  · rw [decide_eq_true h, decide_eq_true (by omega)]
  · rw [decide_eq_false h, decide_eq_false (by omega)]
theorem dec_le : decide ((x : Int) ≤ (y : Int)) = decide (x ≤ y) := by
  by_cases h : x ≤ y
  · rw [decide_eq_true h, decide_eq_true (by omega)]
  · rw [decide_eq_false h, decide_eq_false (by omega)]
theorem dec_eq : decide ((x : Int) = (y : Int)) = decide (x = y) := by
  by_cases h : x = y
  · rw [decide_eq_true h, decide_eq_true (by omega)]
  · rw [decide_eq_false h, decide_eq_false (by omega)]
theorem txn_lt (ha : EX X a δ (dI x)) (hb : EX X b δ (dI y)) : TX X (.Compare a [.Lt] [b] pos) δ (decide (x < y)) := (tx_lt ha hb).is dec_lt
theorem txn_gt (ha : EX X a δ (dI x)) (hb : EX X b δ (dI y)) : TX X (.Compare a [.Gt] [b] pos) δ (decide (y < x)) := (tx_gt ha hb).is dec_lt
theorem txn_le (ha : EX X a δ (dI x)) (hb : EX X b δ (dI y)) : TX X (.Compare a [.LtE] [b] pos) δ (decide (x ≤ y)) := (tx_le ha hb).is dec_le
theorem txn_eq (ha : EX X a δ (dI x)) (hb : EX X b δ (dI y)) : TX X (.Compare a [.Eq] [b] pos) δ (decide (x = y)) := (tx_eq ha hb).is dec_eq
theorem txn_ne (ha : EX X a δ (dI x)) (hb : EX X b δ (dI y)) : TX X (.Compare a [.NotEq] [b] pos) δ (!decide (x = y)) := (tx_ne ha hb).is (by rw [dec_eq])
theorem exn_lt (ha : EX X a δ (dI x)) (hb : EX X b δ (dI y)) : EX X (.Compare a [.Lt] [b] pos) δ (.bool (decide (x < y))) := (ex_lt ha hb).is (by rw [dec_lt])
theorem exn_le (ha : EX X a δ (dI x)) (hb : EX X b δ (dI y)) : EX X (.Compare a [.LtE] [b] pos) δ (.bool (decide (x ≤ y))) := (ex_le ha hb).is (by rw [dec_le])
theorem exn_gt (ha : EX X a δ (dI x)) (hb : EX X b δ (dI y)) : EX X (.Compare a [.Gt] [b] pos) δ (.bool (decide (y < x))) := (ex_gt ha hb).is (by rw [dec_lt])
theorem exn_ge (ha : EX X a δ (dI x)) (hb : EX X b δ (dI y)) : EX X (.Compare a [.GtE] [b] pos) δ (.bool (decide (y ≤ x))) := (ex_ge ha hb).is (by rw [dec_le])
theorem exn_eq (ha : EX X a δ (dI x)) (hb : EX X b δ (dI y)) : EX X (.Compare a [.Eq] [b] pos) δ (.bool (decide (x = y))) := (ex_eq ha hb).is (by rw [dec_eq])
theorem exn_ne (ha : EX X a δ (dI x)) (hb : EX X b δ (dI y)) : EX X (.Compare a [.NotEq] [b] pos) δ (.bool (!decide (x = y))) := (ex_ne ha hb).is (by rw [dec_eq])
end
theorem mulmod_lt {x y p : Nat} (hp : 0 < p) : x * y % p < p := Nat.mod_lt _ hp
theorem has_power_at (T : Txt K mg) : Has P w K mg base 1 "power_at" P_power_at [] gPow := by
  refine has_mk T.d_power_at sc_power_at (fun ds d ⟨p, n, e, h, _⟩ => by rw [h]; rfl) fun f cdv A outer s H E hr ds d hG => ?_
  obtain ⟨p, n, e, rfl, hp, hp2, hn, rfl⟩ := hG
  -- found, late = 1, number
  refine sxs_step [.d (dI p), .d (dI n), .d (dI e), .d (dI 1), .d (dI n)] (fun N hN => sx_par 3 4 rfl sc_power_at.nd ex_int (ex_var 1 rfl) (by decide) hN) ?_
  -- while exponent > 0
  refine sxs_cons (fun δ' => ∃ l, δ' = [.d (dI p), .d (dI n), .d (dI 0), .d (dI (powN p n e)), .d (dI l)]) ?_ (fun δ' ⟨l, h⟩ => by subst h; exact sxs_last (sx_ret (ex_var 3 rfl) rfl))
  refine sx_while PassesOwn.never (fun m δ' => ∃ f l, δ' = [.d (dI p), .d (dI n), .d (dI m), .d (dI f), .d (dI l)] ∧ powF p m f l m = powN p n e ∧ f < p ∧ l < p) e ⟨1, n, rfl, rfl, hp, hn⟩ fun m δ' ⟨f, l, hδ, hv, hf, hl⟩ => ?_
  subst hδ
  refine ⟨decide (0 < m), txn_gt (ex_var 2 rfl) ex_int, fun hm => ?_, fun hm => ?_⟩
  · have hm0 : 0 < m := of_decide_eq_true hm
    refine sxs_step [.d (dI p), .d (dI n), .d (dI m), .d (dI (if m % 2 = 1 then f * l % p else f)), .d (dI l)] (fun N hN => ?_) ?_
    · refine sx_if (k := decide (m % 2 = 1)) (txn_eq (y := 1) (exn_mod (y := 2) (ex_var 2 rfl) ex_int (by decide)) ex_int) (fun h => ?_) fun h => ?_
      · have h1 : m % 2 = 1 := of_decide_eq_true h
        rw [if_pos h1] at hN
        exact sxs_last (sx_set 3 (exn_mod (exn_mul (ex_var 3 rfl) (ex_var 4 rfl) (by omega)) (ex_var 0 rfl) (by omega)) hN sc_power_at.nd)
      · have h1 : ¬ m % 2 = 1 := of_decide_eq_false h
        rw [if_neg h1] at hN
        exact sxs_nil hN
    refine sxs_step [.d (dI p), .d (dI n), .d (dI m), .d (dI (if m % 2 = 1 then f * l % p else f)), .d (dI (l * l % p))] (fun N hN => sx_set 4 (exn_mod (exn_mul (ex_var 4 rfl) (ex_var 4 rfl) (by omega)) (ex_var 0 rfl) (by omega)) hN sc_power_at.nd) ?_
    refine sxs_last (sx_set 2 (exn_div (y := 2) (ex_var 2 rfl) ex_int (by decide) (by decide)) ?_ sc_power_at.nd)
    refine ⟨m / 2, by omega, _, _, rfl, ?_, ?_, mulmod_lt (by omega)⟩
    · rw [← hv, powF_go (Nat.le_refl m) hm0]
      exact powF_fuel _ _ _ _ _ (Nat.le_refl _) (by omega)
    · split
      · exact mulmod_lt (by omega)
      · exact hf
  · have hm0 : m = 0 := by
      have := of_decide_eq_false hm
      omega
    subst hm0
    exact ⟨l, by rw [← hv]; rfl⟩
end
end DL
set_option Elab.async false
set_option linter.all false
set_option maxRecDepth 100000
set_option maxHeartbeats 4000000
/-! DL8: comprehensions over embedded lists. -/
namespace DL
open PySem PySem.Spec PyProof.Rows L2
section
variable {α β : Type}
def Inj (f : α → PyData) : Prop := ∀ a b, f a = f b → a = b
open Classical in
noncomputable def viaE (emb : α → PyData) (res : α → β) (z : β) (d : PyData) : β := if h : ∃ a, emb a = d then res h.choose else z
theorem viaE_at {emb : α → PyData} {res : α → β} {z : β} (inj : Inj emb) (a : α) : viaE emb res z (emb a) = res a := by
  have h : ∃ b, emb b = emb a := ⟨a, rfl⟩
  unfold viaE
  rw [dif_pos h]
  exact congrArg res (inj _ _ h.choose_spec)
theorem viaE_map {emb : α → PyData} {res : α → β} {z : β} (inj : Inj emb) (xs : List α) : (xs.map emb).map (viaE emb res z) = xs.map res := by
  rw [List.map_map]
  exact List.map_congr_left fun a _ => viaE_at inj a
theorem viaE_fil {emb : α → PyData} {f : α → Bool} {res : α → β} {z : β} (inj : Inj emb) (xs : List α) : ((xs.map emb).filter (viaE emb f false)).map (viaE emb res z) = (xs.filter f).map res := by
  rw [List.filter_map]
  have : (viaE emb f false ∘ emb) = f := funext fun a => viaE_at inj a
  rw [this]
  exact viaE_map inj _
theorem inj_dI : Inj dI := fun a b h => by
  have := PyData.int.inj h
  omega
theorem inj_map {f : α → PyData} (h : Inj f) : ∀ {xs ys : List α}, xs.map f = ys.map f → xs = ys
  | [], [], _ => rfl
  | [], _ :: _, e => by simp at e
  | _ :: _, [], e => by simp at e
  | x :: xs, y :: ys, e => by
    rw [List.map_cons, List.map_cons] at e
    injection e with e1 e2
    rw [h _ _ e1, inj_map h e2]
theorem inj_dR : Inj dR := fun a b h => inj_map inj_dI (PyData.tuple.inj h)
theorem inj_dL : Inj dL := fun a b h => inj_map inj_dI (PyData.list.inj h)
theorem inj_pair {γ : Type} {f : α → PyData} {g : γ → PyData} (h1 : Inj f) (h2 : Inj g) : Inj fun ab : α × γ => .tuple [f ab.1, g ab.2] := fun a b h => by
  have h := PyData.tuple.inj h
  injection h with e1 e2
  injection e2 with e2 _
  exact Prod.ext (h1 _ _ e1) (h2 _ _ e2)
theorem inj_fst {f g : α → PyData} (h1 : Inj f) : Inj fun a => .tuple [f a, g a] := fun a b h => by
  have h := PyData.tuple.inj h
  injection h with e1 e2
  exact h1 _ _ e1
theorem zipD_map {γ : Type} {f : α → PyData} {g : γ → PyData} : ∀ (xs : List α) (ys : List γ), zipD (xs.map f) (ys.map g) = (xs.zip ys).map fun ab => .tuple [f ab.1, g ab.2]
  | [], _ => rfl
  | _ :: _, [] => rfl
  | x :: xs, y :: ys => by
    have h := zipD_map (f := f) (g := g) xs ys
    unfold zipD at h
    unfold zipD
    rw [List.map_cons, List.map_cons, List.zipWith_cons_cons, h]
    rfl
theorem rangeD_map (n : Nat) : rangeD 0 n = (List.range n).map dI := by
  unfold rangeD
  exact List.map_congr_left fun k _ => by rw [Int.zero_add]
theorem enumFromD_map {f : α → PyData} : ∀ (xs : List α) (n : Nat), enumFromD n (xs.map f) = (xs.zipIdx n).map fun ak => .tuple [dI ak.2, f ak.1]
  | [], _ => rfl
  | x :: xs, n => by
    rw [List.map_cons, enumFromD, enumFromD_map xs (n + 1)]
    rfl
end
section
variable {X : Cx} {x y : Str} {scope : Scope} {p px py pos : Pos} {iter elt : Expr} {δ : List Slot} {kk : Nat} {α γ : Type} {emb : α → PyData} {xs : List α}
theorem exo_mapA (j : Nat) (res : α → PyData) (inj : Inj emb) (hc : X.calm = true) (hN : X.N.Nodup) (hi : IX X (.Name x px) iter δ (xs.map emb)) (hz : xs.length ≤ sizeLine) (hel : ∀ a ∈ xs, Blk X scope fun Y => EX Y elt (δ.set j (.d (emb a))) (res a))
    (ok : blkC X.N X.env.scope scope [(x, j)] = true := by rfl) (hxj : X.N[j]? = some x := by rfl) (hx : LocS scope x := by first | exact Or.inl rfl | exact Or.inr rfl) (hs : ∀ x, foldedSetIterable iter X.env x = pure x := by intro _; rfl) :
    EXo X (.ListComp elt [⟨.Name x px, iter, [], 0⟩] scope pos) δ (xs.map res) :=
  (exo_map j (viaE emb res .none) hc hN hi (by rw [List.length_map]; exact hz) (fun z hz => by
    obtain ⟨a, ha, rfl⟩ := List.mem_map.mp hz
    rw [viaE_at inj]
    exact hel a ha) ok hxj hx hs).is (viaE_map inj xs)
theorem exo_filA (j : Nat) (f : α → Bool) (res : α → PyData) {c : Expr} (inj : Inj emb) (hc : X.calm = true) (hN : X.N.Nodup) (hi : IX X (.Name x px) iter δ (xs.map emb)) (hz : xs.length ≤ sizeLine) (ht : ∀ a ∈ xs, Blk X scope fun Y => TX Y c (δ.set j (.d (emb a))) (f a))
    (hel : ∀ a ∈ xs, f a = true → Blk X scope fun Y => EX Y elt (δ.set j (.d (emb a))) (res a))
    (ok : blkC X.N X.env.scope scope [(x, j)] = true := by rfl) (hxj : X.N[j]? = some x := by rfl) (hx : LocS scope x := by first | exact Or.inl rfl | exact Or.inr rfl) (hs : ∀ x, foldedSetIterable iter X.env x = pure x := by intro _; rfl) :
    EXo X (.ListComp elt [⟨.Name x px, iter, [c], 0⟩] scope pos) δ ((xs.filter f).map res) :=
  (exo_fil j (viaE emb f false) (viaE emb res .none) hc hN hi (by rw [List.length_map]; exact hz) (fun z hz => by
    obtain ⟨a, ha, rfl⟩ := List.mem_map.mp hz
    rw [viaE_at inj]
    exact ht a ha) (fun z hz => by
    obtain ⟨a, ha, rfl⟩ := List.mem_map.mp hz
    rw [viaE_at inj, viaE_at inj]
    exact hel a ha) ok hxj hx hs).is (viaE_fil inj xs)
theorem exo_mapA2 (i j : Nat) {e1 e2 : α → PyData} (res : α → PyData) (inj : Inj emb) (hem : ∀ a, emb a = .tuple [e1 a, e2 a]) (hc : X.calm = true) (hN : X.N.Nodup) (hij : i ≠ j) (hi : IX X (.Tuple [.Name x px, .Name y py] kk p) iter δ (xs.map emb)) (hz : xs.length ≤ sizeLine) (hel : ∀ a ∈ xs, Blk X scope fun Y => EX Y elt ((δ.set i (.d (e1 a))).set j (.d (e2 a))) (res a))
    (ok : blkC X.N X.env.scope scope [(x, i), (y, j)] = true := by rfl) (hxi : X.N[i]? = some x := by rfl) (hyj : X.N[j]? = some y := by rfl) (hx : LocS scope x := by first | exact Or.inl rfl | exact Or.inr rfl) (hy : LocS scope y := by first | exact Or.inl rfl | exact Or.inr rfl) (hs : ∀ x, foldedSetIterable iter X.env x = pure x := by intro _; rfl) :
    EXo X (.ListComp elt [⟨.Tuple [.Name x px, .Name y py] kk p, iter, [], 0⟩] scope pos) δ (xs.map res) :=
  (exo_map2 i j (viaE emb res .none) hc hN hij hi (by rw [List.length_map]; exact hz) (fun z hz => by
    obtain ⟨a, ha, rfl⟩ := List.mem_map.mp hz
    refine ⟨e1 a, e2 a, hem a, ?_⟩
    rw [viaE_at inj]
    exact hel a ha) ok hxi hyj hx hy hs).is (viaE_map inj xs)
theorem exo_filA2 (i j : Nat) {e1 e2 : α → PyData} (f : α → Bool) (res : α → PyData) {c : Expr} (inj : Inj emb) (hem : ∀ a, emb a = .tuple [e1 a, e2 a]) (hc : X.calm = true) (hN : X.N.Nodup) (hij : i ≠ j) (hi : IX X (.Tuple [.Name x px, .Name y py] kk p) iter δ (xs.map emb)) (hz : xs.length ≤ sizeLine)
    (ht : ∀ a ∈ xs, Blk X scope fun Y => TX Y c ((δ.set i (.d (e1 a))).set j (.d (e2 a))) (f a)) (hel : ∀ a ∈ xs, f a = true → Blk X scope fun Y => EX Y elt ((δ.set i (.d (e1 a))).set j (.d (e2 a))) (res a))
    (ok : blkC X.N X.env.scope scope [(x, i), (y, j)] = true := by rfl) (hxi : X.N[i]? = some x := by rfl) (hyj : X.N[j]? = some y := by rfl) (hx : LocS scope x := by first | exact Or.inl rfl | exact Or.inr rfl) (hy : LocS scope y := by first | exact Or.inl rfl | exact Or.inr rfl) (hs : ∀ x, foldedSetIterable iter X.env x = pure x := by intro _; rfl) :
    EXo X (.ListComp elt [⟨.Tuple [.Name x px, .Name y py] kk p, iter, [c], 0⟩] scope pos) δ ((xs.filter f).map res) :=
  (exo_fil2 i j (viaE emb f false) (viaE emb res .none) hc hN hij hi (by rw [List.length_map]; exact hz) (fun z hz => by
    obtain ⟨a, ha, rfl⟩ := List.mem_map.mp hz
    refine ⟨e1 a, e2 a, hem a, ?_⟩
    rw [viaE_at inj, viaE_at inj]
    exact ⟨ht a ha, hel a ha⟩) ok hxi hyj hx hy hs).is (viaE_fil inj xs)
/-- name = [..] on one line, frozen -/
theorem sx_mapA {E : DE} {z : Str} {p' : Pos} (i j : Nat) (f : α → Bool) (res : α → PyData) {ifs : List Expr} (inj : Inj emb) (hc : X.calm = true) (hN : X.N.Nodup) (hi : IX X (.Name x px) iter δ (xs.map emb)) (hz : xs.length ≤ sizeLine) (ht : ∀ a ∈ xs, Blk X scope fun Y => TXs Y ifs (δ.set j (.d (emb a))) (f a))
    (hel : ∀ a ∈ xs, f a = true → Blk X scope fun Y => EX Y elt (δ.set j (.d (emb a))) (res a)) (k : E.nx (δ.set i (.d (.list ((xs.filter f).map res)))))
    (hzl : X.env.scope.names.lookup z = some .local := by rfl) (hsw : swapsWith (.ListComp elt [⟨.Name x px, iter, ifs, 0⟩] scope pos) (some (.Name z p')) p.line X.env = pure true := by rfl)
    (ok : blkC X.N X.env.scope scope [(x, j)] = true := by rfl) (hxj : X.N[j]? = some x := by rfl) (hx : LocS scope x := by first | exact Or.inl rfl | exact Or.inr rfl) (hzi : X.N[i]? = some z := by rfl) (hs : ∀ x, foldedSetIterable iter X.env x = pure x := by intro _; rfl) :
    SX X (.Assign [.Name z p'] (.ListComp elt [⟨.Name x px, iter, ifs, 0⟩] scope pos) p) δ E :=
  sx_setLc i (t := .nm j) (f := viaE emb f false) (h := viaE emb res .none) (own := [(x, j)]) hc hN hzl hsw (blkOk_by ok) (pgb j hN hxj hx) hi (fun k h => h) (by rw [List.length_map]; exact hz) (hel1 fun z hz => by
    obtain ⟨a, ha, rfl⟩ := List.mem_map.mp hz
    unfold OneOk
    rw [viaE_at inj, viaE_at inj]
    exact ⟨ht a ha, hel a ha⟩) (by rw [viaE_fil inj]; exact k) hzi hs
/-- .. owned -/
theorem sx_mapAO {E : DE} {z : Str} {p' : Pos} (i j : Nat) (f : α → Bool) (res : α → PyData) {ifs : List Expr} (inj : Inj emb) (hc : X.calm = true) (hN : X.N.Nodup) (hi : IX X (.Name x px) iter δ (xs.map emb)) (hz : xs.length ≤ sizeLine) (ht : ∀ a ∈ xs, Blk X scope fun Y => TXs Y ifs (δ.set j (.d (emb a))) (f a))
    (hel : ∀ a ∈ xs, f a = true → Blk X scope fun Y => EX Y elt (δ.set j (.d (emb a))) (res a)) (k : E.nx (δ.set i (.own ((xs.filter f).map res))))
    (hzl : X.env.scope.names.lookup z = some .local := by rfl) (hsw : swapsWith (.ListComp elt [⟨.Name x px, iter, ifs, 0⟩] scope pos) (some (.Name z p')) p.line X.env = pure true := by rfl)
    (ok : blkC X.N X.env.scope scope [(x, j)] = true := by rfl) (hxj : X.N[j]? = some x := by rfl) (hx : LocS scope x := by first | exact Or.inl rfl | exact Or.inr rfl) (hzi : X.N[i]? = some z := by rfl) (hs : ∀ x, foldedSetIterable iter X.env x = pure x := by intro _; rfl) :
    SX X (.Assign [.Name z p'] (.ListComp elt [⟨.Name x px, iter, ifs, 0⟩] scope pos) p) δ E :=
  sx_setLcO i (t := .nm j) (f := viaE emb f false) (h := viaE emb res .none) (own := [(x, j)]) hc hN hzl hsw (blkOk_by ok) (pgb j hN hxj hx) hi (fun k h => h) (by rw [List.length_map]; exact hz) (hel1 fun z hz => by
    obtain ⟨a, ha, rfl⟩ := List.mem_map.mp hz
    unfold OneOk
    rw [viaE_at inj, viaE_at inj]
    exact ⟨ht a ha, hel a ha⟩) (by rw [viaE_fil inj]; exact k) hzi hs
theorem blk_nil {P : α → Prop} {δf : α → List Slot} : ∀ a ∈ xs, Blk X scope fun Y => TXs Y [] (δf a) ((fun _ : α => true) a) := fun _ _ _ _ _ _ _ => txs_nil
end
end DL
set_option Elab.async false
set_option linter.all false
set_option maxRecDepth 100000
set_option maxHeartbeats 4000000
/-! TX3: reduced rows. -/
namespace DL
open PySem PySem.Spec PyProof.Rows L2 MI
theorem ir {r : List Nat} {k : Nat} (h : k < r.length) : (dIs r)[k]? = some (dI (r.getD k 0)) := by
  rw [List.getElem?_map, List.getD_eq_getElem?_getD, List.getElem?_eq_getElem h]
  rfl
theorem zw_map {α β γ : Type} {f : α → β → γ} : ∀ (xs : List α) (ys : List β), List.zipWith f xs ys = (xs.zip ys).map fun ab => f ab.1 ab.2
  | [], _ => by simp
  | _ :: _, [] => by simp
  | x :: xs, y :: ys => by rw [List.zipWith_cons_cons, zw_map xs ys]; rfl
section
variable {X : Cx} {a b : Expr} {δ : List Slot} {pos : Pos} {d : PyData} {ds : List PyData}
theorem rx_at {r : List Nat} {k : Nat} (ha : EX X a δ d) (hs : isSeq d (dIs r)) (hb : EX X b δ (dI k)) (h : k < r.length) (hp : PlainIx b := by intro _ _; rfl) : EX X (.Subscript a b pos) δ (dI (r.getD k 0)) := ex_ix ha hs hb (ir h) hp
theorem ex_at {k : Nat} {da : PyData} (ha : EX X a δ d) (hs : isSeq d ds) (hb : EX X b δ (.int (k : Int))) (hk : ds[k]? = some da) (hp : PlainIx b := by intro _ _; rfl) : EX X (.Subscript a b pos) δ da := ex_ix ha hs hb hk hp
end
section
variable {P : Program} {w : World} {K : PySem.W.Frag} {mg : Str → Option Value} {base : Heap}
def gLess : List PyData → PyData → Prop := fun ds d => ∃ (p : Nat) (row first : MI.Row) (spot : Nat), ds = [dI p, dR row, dR first, dI spot] ∧ 1 < p ∧ p < 100000 ∧ spot < row.length ∧ row.length = first.length ∧ row.length ≤ 1000 ∧ (∀ x ∈ row, x < p) ∧ d = dR (lessen p row first spot)
theorem has_lessened_row (T : Txt K mg) : Has P w K mg base 2 "lessened_row" P_lessened_row [] gLess := by
  refine has_mk T.d_lessened_row sc_lessened_row (fun ds d ⟨p, row, first, spot, h, _⟩ => by rw [h]; rfl) fun f cdv A outer s H E hr ds d hG => ?_
  obtain ⟨p, row, first, spot, rfl, hp, hp2, hsp, hl, hl2, hlt, rfl⟩ := hG
  refine sxs_last (sx_ret (d := dR (lessen p row first spot)) ?_ rfl)
  refine ex_tupleOf (EXo.ex ?_) (.inl rfl) T.b_tuple
  have hrs := getD_lt (k := spot) (by omega) hlt
  refine (exo_mapA2 4 5 (xs := row.zip first) (emb := fun ab => .tuple [dI ab.1, dI ab.2]) (fun ab => dI (subm p ab.1 (row.getD spot 0) ab.2)) (inj_pair inj_dI inj_dI) (fun _ => rfl) rfl sc_lessened_row.nd (by decide) ((zipD_map row first) ▸ ix_zip (ex_var 1 rfl) (.inr rfl) (ex_var 2 rfl) (.inr rfl) T.b_zip) (by rw [List.length_zip, sizeLine_eq]; omega) fun ab hab s' H' C cl fp => ?_).is ?_
  · refine (ex_mod (j := (p : Int)) (ex_sub (ex_var 4 rfl) (ex_mul (rx_at (ex_var 1 rfl) (.inr rfl) (ex_var 3 rfl) hsp) (ex_var 5 rfl) (Or.inl ⟨by omega, by omega⟩))) (ex_var 0 rfl) (by omega)).is ?_
    rw [subm_int (by omega)]
  · unfold lessen
    rw [zw_map, dIs, List.map_map]; rfl
def gLed : List PyData → PyData → Prop := fun ds d => ∃ (p : Nat) (row : MI.Row) (spot : Nat), ds = [dI p, dR row, dI spot] ∧ 1 < p ∧ p < 100000 ∧ spot < row.length ∧ row.length ≤ 1000 ∧ (∀ x ∈ row, x < p) ∧ d = dR (led p row spot)
theorem has_led_row (T : Txt K mg) : Has P w K mg base 2 "led_row" P_led_row [] gLed := by
  refine has_mk T.d_led_row sc_led_row (fun ds d ⟨p, row, spot, h, _⟩ => by rw [h]; rfl) fun f cdv A outer s H E hr ds d hG => ?_
  obtain ⟨p, row, spot, rfl, hp, hp2, hsp, hl2, hlt, rfl⟩ := hG
  have hrs := getD_lt (k := spot) (by omega) hlt
  refine sxs_step [.d (dI p), .d (dR row), .d (dI spot), .d (dI (powN p (row.getD spot 0) (p - 2))), .un] (fun N hN => sx_set 3 (ex_has (has_power_at T) hr (ax_cons (ex_var 0 rfl) (ax_cons (rx_at (ex_var 1 rfl) (.inr rfl) (ex_var 2 rfl) hsp) (ax_cons (exn_sub (y := 2) (ex_var 0 rfl) ex_int (by omega)) ax_nil))) ⟨p, _, _, rfl, hp, hp2, hrs, rfl⟩) hN sc_led_row.nd) ?_
  refine sxs_last (sx_ret (d := dR (led p row spot)) ?_ rfl)
  refine ex_tupleOf (EXo.ex ?_) (.inl rfl) T.b_tuple
  refine (exo_mapA 4 (xs := row) (emb := dI) (fun a => dI (a * powN p (row.getD spot 0) (p - 2) % p)) inj_dI rfl sc_led_row.nd (ix_seq (ex_var 1 rfl) (.inr rfl)) (by rw [sizeLine_eq]; omega) fun a ha s' H' C cl fp => ?_).is (by unfold led; rw [dIs, List.map_map]; rfl)
  have := hlt a ha
  exact exn_mod (exn_mul (ex_var 4 rfl) (ex_var 3 rfl) (by omega)) (ex_var 0 rfl) (by omega)
end
end DL
set_option Elab.async false
set_option linter.all false
set_option maxRecDepth 100000
set_option maxHeartbeats 4000000
/-! TX4: rows cleared. -/
namespace DL
open PySem PySem.Spec PyProof.Rows L2 MI
abbrev dRs (rows : List MI.Row) : List PyData := rows.map dR
theorem stepR_nil {p spot : Nat} {s : List MI.Row × List MI.Row} (h : s.1.filter (fun row => decide (0 < row.getD spot 0)) = []) : stepR p s spot = s := by
  unfold stepR
  rw [h]
theorem stepR_cons {p spot : Nat} {s : List MI.Row × List MI.Row} {r : MI.Row} {t : List MI.Row} (h : s.1.filter (fun row => decide (0 < row.getD spot 0)) = r :: t) :
    stepR p s spot = (s.1.map fun row => lessen p row (led p r spot) spot, (s.2.map fun row => lessen p row (led p r spot) spot) ++ [led p r spot]) := by
  unfold stepR
  rw [h]
theorem redTo_at {p wide n : Nat} {rows : List MI.Row} (hp : 0 < p) (h : Wf p rows wide) (hn : n < wide) {r : MI.Row} {t : List MI.Row} (hf : (redTo p rows n).1.filter (fun row => decide (0 < row.getD n 0)) = r :: t) : r ∈ (redTo p rows n).1 :=
  (List.mem_filter.mp (by rw [hf]; exact List.mem_cons_self ..)).1
section
variable {P : Program} {w : World} {K : PySem.W.Frag} {mg : Str → Option Value} {base : Heap}
def gRed : List PyData → PyData → Prop := fun ds d => ∃ (p : Nat) (rows : List MI.Row) (wide : Nat) (dr : PyData), ds = [dI p, dr, dI wide] ∧ isSeq dr (dRs rows) ∧ 1 < p ∧ p < 100000 ∧ Wf p rows wide ∧ rows.length ≤ 1000 ∧ wide ≤ 1000 ∧ d = .tuple (dRs (reduced p rows wide))
theorem has_reduced_by (T : Txt K mg) : Has P w K mg base 3 "reduced_by" P_reduced_by [] gRed := by
  refine has_mk T.d_reduced_by sc_reduced_by (fun ds d ⟨p, row, wide, dr, h, _⟩ => by rw [h]; rfl) fun f cdv A outer s H E hr ds d hG => ?_
  obtain ⟨p, rows, wide, dr, rfl, hs, hp, hp2, wf, hl, hw, rfl⟩ := hG
  refine sxs_step [.d (dI p), .d dr, .d (dI wide), .d (.list (dRs rows)), .d (.list (dRs [])), .un, .un, .un, .un] (fun N hN => sx_par 3 4 rfl sc_reduced_by.nd ?_ (exo_lst ax_nil (by decide)).ex (by decide) hN) ?_
  · exact (exo_mapA 8 (xs := rows) (emb := dR) dR inj_dR rfl sc_reduced_by.nd (ix_seq (ex_var 1 rfl) hs) (by rw [sizeLine_eq]; omega) fun r hr s' H' C cl fp => ex_tupleOf (ex_var 8 rfl) (.inr rfl) T.b_tuple).ex
  refine sxs_cons (fun δ' => ∃ s5 s6 s7, δ' = [.d (dI p), .d dr, .d (dI wide), .d (.list (dRs (redTo p rows wide).1)), .d (.list (dRs (redTo p rows wide).2)), s5, s6, s7, .un]) ?_ (fun δ' ⟨s5, s6, s7, h⟩ => by
    subst h
    exact sxs_last (sx_ret (ex_tupleOf (ex_var 4 rfl) (.inl rfl) T.b_tuple) rfl))
  refine sx_for PassesOwn.never rfl (ix_range1 (n := wide) (ex_var 2 rfl) (by omega) T.b_range) (pg1 5 sc_reduced_by.nd) (fun i δ' => ∃ s5 s6 s7, δ' = [.d (dI p), .d dr, .d (dI wide), .d (.list (dRs (redTo p rows i).1)), .d (.list (dRs (redTo p rows i).2)), s5, s6, s7, .un]) ⟨_, _, _, rfl⟩ (fun i x δ' hx ⟨s5, s6, s7, hδ⟩ => ?_) (fun δ' h => by rw [rangeD_len] at h; exact h)
  subst hδ
  obtain ⟨hi, rfl⟩ : i < wide ∧ x = dI i := by
    rw [rangeD_map, List.getElem?_map] at hx
    cases e : (List.range wide)[i]? with
    | none => rw [e] at hx; cases hx
    | some k =>
      rw [e] at hx
      obtain ⟨h1, h2⟩ := List.getElem?_eq_some_iff.mp e
      rw [List.getElem_range] at h2
      subst h2
      exact ⟨by simpa using h1, (Option.some.inj hx).symm⟩
  refine ⟨_, rfl, ?_⟩
  have wl := redTo_wf (n := i) (by omega : 0 < p) wf
  have ll := redTo_len (p := p) (rows := rows) i
  generalize hst : redTo p rows i = st at wl ll
  have hsucc : redTo p rows (i + 1) = stepR p st i := by rw [redTo_succ, hst]
  rw [hsucc]
  obtain ⟨left, found⟩ := st
  dsimp only at wl ll ⊢
  -- firsts
  refine sxs_step [.d (dI p), .d dr, .d (dI wide), .d (.list (dRs left)), .d (.list (dRs found)), .d (dI i), .d (.list (dRs (left.filter fun r => decide (0 < r.getD i 0)))), s7, .un] (fun N hN => ?_) ?_
  · refine sx_mapA 6 8 (xs := left) (emb := dR) (fun r => decide (0 < r.getD i 0)) dR inj_dR rfl sc_reduced_by.nd (ix_seq (ex_var 3 rfl) (.inl rfl)) (by rw [sizeLine_eq]; omega) (fun r hr s' H' C cl fp => txs_one ?_) (fun r hr _ s' H' C cl fp => ex_var 8 rfl) hN
    exact txn_gt (x := r.getD i 0) (y := 0) (rx_at (ex_var 8 rfl) (.inr rfl) (ex_var 5 rfl) (by rw [wl.1.len r hr]; exact hi)) ex_int
  -- if len(firsts) > 0
  refine sxs_last (sx_if (k := decide (0 < (left.filter fun r => decide (0 < r.getD i 0)).length)) (txn_gt (y := 0) ((ex_len (ex_var 6 rfl) (.inl rfl) T.b_len).is (by rw [List.length_map])) ex_int) (fun hk => ?_) fun hk => ?_)
  · have hk := of_decide_eq_true hk
    cases hf : left.filter (fun r => decide (0 < r.getD i 0)) with
    | nil => rw [hf] at hk; exact absurd hk (by decide)
    | cons r t =>
      have hm : r ∈ left := (List.mem_filter.mp (by rw [hf]; exact List.mem_cons_self ..)).1
      have hrl : r.length = wide := wl.1.len r hm
      have e1 : stepR p (left, found) i = (left.map fun row => lessen p row (led p r i) i, (found.map fun row => lessen p row (led p r i) i) ++ [led p r i]) := stepR_cons (s := (left, found)) hf
      rw [e1]
      dsimp only
      have lless : ∀ q : MI.Row, q.length = wide → (∀ x ∈ q, x < p) → gLess [dI p, dR q, dR (led p r i), dI i] (dR (lessen p q (led p r i) i)) := fun q h1 h2 =>
        ⟨p, q, led p r i, i, rfl, hp, hp2, by omega, by rw [led_len, hrl, h1], by omega, h2, rfl⟩
      refine sxs_step [.d (dI p), .d dr, .d (dI wide), .d (.list (dRs left)), .d (.list (dRs found)), .d (dI i), .d (.list (dRs (r :: t))), .d (dR (led p r i)), .un] (fun N hN => sx_set 7 (ex_has (has_led_row T) hr (ax_cons (ex_var 0 rfl) (ax_cons (ex_at (k := 0) (ex_var 6 rfl) (.inl rfl) ex_int rfl) (ax_cons (ex_var 5 rfl) ax_nil))) ⟨p, r, i, rfl, hp, hp2, by omega, by omega, wl.1.lt r hm, rfl⟩) hN sc_reduced_by.nd) ?_
      refine sxs_step [.d (dI p), .d dr, .d (dI wide), .d (.list (dRs (left.map fun row => lessen p row (led p r i) i))), .d (.list (dRs found)), .d (dI i), .d (.list (dRs (r :: t))), .d (dR (led p r i)), .un] (fun N hN => ?_) ?_
      · refine sx_mapA 3 8 (xs := left) (emb := dR) (fun _ => true) (fun row => dR (lessen p row (led p r i) i)) inj_dR rfl sc_reduced_by.nd (ix_seq (ex_var 3 rfl) (.inl rfl)) (by rw [sizeLine_eq]; omega) (fun _ _ _ _ _ _ _ => txs_nil) (fun q hq _ s' H' C cl fp => ?_) ?_
        · exact ex_has (has_lessened_row T) hr (ax_cons (ex_var 0 rfl) (ax_cons (ex_var 8 rfl) (ax_cons (ex_var 7 rfl) (ax_cons (ex_var 5 rfl) ax_nil)))) (lless q (wl.1.len q hq) (wl.1.lt q hq))
        · rw [List.filter_eq_self.mpr fun _ _ => rfl]
          rw [dRs, List.map_map] at hN
          exact hN
      refine sxs_last (sx_set 4 (d := .list (dRs ((found.map fun row => lessen p row (led p r i) i) ++ [led p r i]))) ((exo_lst (ax_starL (xs := dRs (found.map fun row => lessen p row (led p r i) i)) ?_ (ax_cons (ex_var 7 rfl) ax_nil)) ?_).ex.is (by rw [dRs, dRs, List.map_append]; rfl)) ⟨_, _, _, rfl⟩ sc_reduced_by.nd)
      · refine (exo_mapA 8 (xs := found) (emb := dR) (fun row => dR (lessen p row (led p r i) i)) inj_dR rfl sc_reduced_by.nd (ix_seq (ex_var 4 rfl) (.inl rfl)) (by rw [sizeLine_eq]; omega) fun q hq s' H' C cl fp => ?_).ex.is (by rw [dRs, List.map_map]; rfl)
        exact ex_has (has_lessened_row T) hr (ax_cons (ex_var 0 rfl) (ax_cons (ex_var 8 rfl) (ax_cons (ex_var 7 rfl) (ax_cons (ex_var 5 rfl) ax_nil)))) (lless q (wl.2.len q hq) (wl.2.lt q hq))
      · rw [List.length_append, dRs, List.length_map, List.length_map, sizeLine_eq]
        show _ + 1 ≤ _
        omega
  · have hk := of_decide_eq_false hk
    have hf : left.filter (fun r => decide (0 < r.getD i 0)) = [] := List.eq_nil_of_length_eq_zero (by omega)
    have e1 : stepR p (left, found) i = (left, found) := stepR_nil (s := (left, found)) hf
    rw [e1]
    exact sxs_nil ⟨_, _, _, rfl⟩
end
end DL
set_option Elab.async false
set_option linter.all false
set_option maxRecDepth 100000
set_option maxHeartbeats 4000000
/-! TX5: null rows, ranks. -/
namespace DL
open PySem PySem.Spec PyProof.Rows L2 MI
theorem range_at {n i : Nat} {x : PyData} (h : (rangeD 0 n)[i]? = some x) : i < n ∧ x = dI i := by
  rw [rangeD_map, List.getElem?_map] at h
  cases e : (List.range n)[i]? with
  | none => rw [e] at h; cases h
  | some k =>
    rw [e] at h
    obtain ⟨h1, h2⟩ := List.getElem?_eq_some_iff.mp e
    rw [List.getElem_range] at h2
    subst h2
    exact ⟨by simpa using h1, (Option.some.inj h).symm⟩
theorem zipIdx_range {α : Type} (z : α) (xs : List α) : xs.zipIdx = (List.range xs.length).map fun k => (xs.getD k z, k) := by
  apply List.ext_getElem
  · simp
  · intro i h1 h2
    simp at h1
    simp [List.getD_eq_getElem?_getD, List.getElem?_eq_getElem h1]
theorem enumD_ints (row : MI.Row) : enumD (dIs row) = (List.range row.length).map fun k => .tuple [dI k, dI (row.getD k 0)] := by
  unfold enumD dIs
  rw [enumFromD_map, zipIdx_range 0, List.map_map]
  rfl
section
variable {P : Program} {w : World} {K : PySem.W.Frag} {mg : Str → Option Value} {base : Heap}
def gLead : List PyData → PyData → Prop := fun ds d => ∃ (row : MI.Row), ds = [dR row] ∧ row.length ≤ 1000 ∧ (∃ k, k < row.length ∧ 0 < row.getD k 0) ∧ d = dI (leadOf row)
theorem has_lead_of (T : Txt K mg) : Has P w K mg base 1 "lead_of" P_lead_of [] gLead := by
  refine has_mk T.d_lead_of sc_lead_of (fun ds d ⟨row, h, _⟩ => by rw [h]; rfl) fun f cdv A outer s H E hr ds d hG => ?_
  obtain ⟨row, rfl, hl, hk, rfl⟩ := hG
  refine sxs_last (sx_ret (d := dI (leadOf row)) ?_ rfl)
  refine ex_at (k := 0) (ds := (spotsOf row).map dI) (EXo.ex ?_) (.inl rfl) ex_int ?_
  · refine (exo_filA2 1 2 (xs := List.range row.length) (emb := fun k => .tuple [dI k, dI (row.getD k 0)]) (fun k => decide (0 < row.getD k 0)) (fun k => dI k) (inj_fst inj_dI) (fun _ => rfl) rfl sc_lead_of.nd (by decide) ((enumD_ints row) ▸ ix_enum (ex_var 0 rfl) (.inr rfl) T.b_enumerate) (by rw [List.length_range, sizeLine_eq]; omega) (fun k hk s' H' C cl fp => ?_) fun k hk _ s' H' C cl fp => ex_var 1 rfl).is rfl
    exact txn_gt (y := 0) (ex_var 2 rfl) ex_int
  · rw [List.getElem?_map]
    have h2 := (leadOf_lt hk).2
    unfold leadOf
    cases e : spotsOf row with
    | nil => exact absurd e h2
    | cons x t => rfl
def gKept : List PyData → PyData → Prop := fun ds d => ∃ (p : Nat) (red : List MI.Row) (leads : List Nat) (wide free : Nat), ds = [dI p, .tuple (dRs red), .list (dIs leads), dI wide, dI free] ∧ 1 < p ∧ p < 100000 ∧ Wf p red wide ∧ wide ≤ 1000 ∧ free < wide ∧ (∀ l ∈ leads, l < wide) ∧ leads.length ≤ 1000 ∧ d = dR (kept p red leads wide free)
theorem fold_take_succ {α β : Type} (g : β → α → β) (z : β) (xs : List α) {i : Nat} {x : α} (h : xs[i]? = some x) : (xs.take (i + 1)).foldl g z = g ((xs.take i).foldl g z) x := by
  rw [List.take_add_one, h, List.foldl_append]
  rfl
theorem has_kept_row (T : Txt K mg) : Has P w K mg base 1 "kept_row" P_kept_row [] gKept := by
  refine has_mk T.d_kept_row sc_kept_row (fun ds d ⟨p, red, leads, wide, free, h, _⟩ => by rw [h]; rfl) fun f cdv A outer s H E hr ds d hG => ?_
  obtain ⟨p, red, leads, wide, free, rfl, hp, hp2, wf, hw, hf, hls, hll, rfl⟩ := hG
  have k0len : (kept0 wide free).length = wide := by simp [kept0]
  refine sxs_step [.d (dI p), .d (.tuple (dRs red)), .d (.list (dIs leads)), .d (dI wide), .d (dI free), .own (dIs (kept0 wide free)), .un, .un, .un] (fun N hN => ?_) ?_
  · refine sx_mapAO 5 8 (xs := List.range wide) (emb := dI) (fun _ => true) (fun k => dI (if k = free then 1 else 0)) inj_dI rfl sc_kept_row.nd ((rangeD_map wide) ▸ ix_range1 (n := wide) (ex_var 3 rfl) (by omega) T.b_range) (by rw [List.length_range, sizeLine_eq]; omega) (fun _ _ _ _ _ _ _ => txs_nil) (fun q hq _ s' H' C cl fp => ?_) ?_
    · refine ex_if (k := decide (q = free)) (txn_eq (ex_var 8 rfl) (ex_var 4 rfl)) (fun h => ?_) fun h => ?_
      · rw [if_pos (of_decide_eq_true h)]
        exact ex_int
      · rw [if_neg (of_decide_eq_false h)]
        exact ex_int
    · rw [List.filter_eq_self.mpr fun _ _ => rfl]
      have e0 : dIs (kept0 wide free) = (List.range wide).map fun k => dI (if k = free then 1 else 0) := by
        rw [kept0, dIs, List.map_map]
        rfl
      rw [e0] at hN
      exact hN
  let g := fun (f : MI.Row) (lr : Nat × MI.Row) => f.set lr.1 (negm p (lr.2.getD free 0))
  let st := fun i => ((leads.zip red).take i).foldl g (kept0 wide free)
  refine sxs_cons (fun δ' => ∃ s6 s7, δ' = [.d (dI p), .d (.tuple (dRs red)), .d (.list (dIs leads)), .d (dI wide), .d (dI free), .own (dIs (kept p red leads wide free)), s6, s7, .un]) ?_ (fun δ' ⟨s6, s7, h⟩ => by
    subst h
    refine sxs_freeze 5 rfl ?_
    exact sxs_last (sx_ret (ex_tupleOf (ex_var 5 rfl) (.inl rfl) T.b_tuple) rfl))
  refine sx_for PassesOwn.never rfl (ix_zip (ex_var 2 rfl) (.inl rfl) (ex_var 1 rfl) (.inr rfl) T.b_zip) (pg2 6 7 rfl sc_kept_row.nd) (fun i δ' => ∃ s6 s7, δ' = [.d (dI p), .d (.tuple (dRs red)), .d (.list (dIs leads)), .d (dI wide), .d (dI free), .own (dIs (st i)), s6, s7, .un]) ⟨_, _, rfl⟩ (fun i x δ' hx ⟨s6, s7, hδ⟩ => ?_) (fun δ' ⟨s6, s7, h⟩ => ⟨s6, s7, by
    rw [h]
    have : st (zipD (dIs leads) (dRs red)).length = kept p red leads wide free := by
      show ((leads.zip red).take _).foldl g _ = _
      rw [List.take_of_length_le (by rw [zipD_len]; simp [dIs])]
      rfl
    rw [this]⟩)
  subst hδ
  rw [dIs, dRs, zipD_map, List.getElem?_map] at hx
  cases e : (leads.zip red)[i]? with
  | none => rw [e] at hx; cases hx
  | some lr =>
    rw [e] at hx
    obtain rfl := (Option.some.inj hx).symm
    obtain ⟨l, r⟩ := lr
    have hm := List.mem_of_getElem? e
    have hl1 : l < wide := hls l (List.of_mem_zip hm).1
    have hr1 : r ∈ red := (List.of_mem_zip hm).2
    have hst : st (i + 1) = (st i).set l (negm p (r.getD free 0)) := fold_take_succ g _ _ e
    have hsl : (st i).length = wide := by
      show (List.foldl g (kept0 wide free) ((leads.zip red).take i)).length = _
      rw [kept_fold_len, k0len]
    refine ⟨_, ⟨_, _, rfl, rfl⟩, ?_⟩
    refine sxs_last (sx_setItem 5 (d := dI (negm p (r.getD free 0))) (j := l) rfl ?_ (ex_var 6 rfl) (by rw [dIs, List.length_map, hsl]; exact hl1) ⟨_, _, by rw [hst, show dIs ((st i).set l (negm p (r.getD free 0))) = (dIs (st i)).set l (dI (negm p (r.getD free 0))) from List.map_set ..]; rfl⟩)
    refine (ex_mod (j := (p : Int)) (ex_neg (rx_at (ex_var 7 rfl) (.inr rfl) (ex_var 4 rfl) (by rw [wf.len r hr1]; exact hf))) (ex_var 0 rfl) (by omega)).is ?_
    rw [negm_int (by omega)]
def gNull : List PyData → PyData → Prop := fun ds d => ∃ (p : Nat) (rows : List MI.Row) (wide : Nat) (dr : PyData), ds = [dI p, dr, dI wide] ∧ isSeq dr (dRs rows) ∧ 1 < p ∧ p < 100000 ∧ Wf p rows wide ∧ rows.length ≤ 1000 ∧ wide ≤ 1000 ∧ nz (reduced p rows wide) ∧ d = .tuple (dRs (nullN p rows wide))
theorem has_null_by (T : Txt K mg) : Has P w K mg base 4 "null_by" P_null_by [] gNull := by
  refine has_mk T.d_null_by sc_null_by (fun ds d ⟨p, rows, wide, dr, h, _⟩ => by rw [h]; rfl) fun f cdv A outer s H E hr ds d hG => ?_
  obtain ⟨p, rows, wide, dr, rfl, hs, hp, hp2, wf, hl, hw, hnz, rfl⟩ := hG
  have rwf := reduced_wf (by omega : 0 < p) wf
  have rlen := reduced_len (p := p) (rows := rows) (wide := wide)
  have nlen : (nullRows p (reduced p rows wide) wide).length ≤ wide := by
    unfold nullRows freesOf
    rw [List.length_map]
    exact Nat.le_trans (List.length_filter_le _ _) (by simp)
  refine sxs_step [.d (dI p), .d dr, .d (dI wide), .d (.tuple (dRs (reduced p rows wide))), .un, .un, .un, .un, .un] (fun N hN => sx_set 3 (ex_has (has_reduced_by T) hr (ax_cons (ex_var 0 rfl) (ax_cons (ex_var 1 rfl) (ax_cons (ex_var 2 rfl) ax_nil))) ⟨p, rows, wide, dr, rfl, hs, hp, hp2, wf, hl, hw, rfl⟩) hN sc_null_by.nd) ?_
  generalize hred : reduced p rows wide = red at rwf rlen nlen hnz
  have hnull : nullN p rows wide = reduced p (nullRows p red wide) wide := by unfold nullN; rw [hred]
  rw [hnull]
  have hled : ∀ l ∈ red.map leadOf, l < wide := fun l hl => by
    obtain ⟨r, hr, rfl⟩ := List.mem_map.mp hl
    have := (leadOf_lt (hnz r hr)).1
    rwa [rwf.len r hr] at this
  refine sxs_step [.d (dI p), .d dr, .d (dI wide), .d (.tuple (dRs red)), .d (.list (dIs (red.map leadOf))), .un, .un, .un, .un] (fun N hN => ?_) ?_
  · refine sx_set 4 ((exo_mapA 6 (xs := red) (emb := dR) (fun r => dI (leadOf r)) inj_dR rfl sc_null_by.nd (ix_seq (ex_var 3 rfl) (.inr rfl)) (by rw [sizeLine_eq]; omega) fun r hr2 s' H' C cl fp => ?_).ex.is (by rw [dIs, List.map_map]; rfl)) hN sc_null_by.nd
    exact ex_has (has_lead_of T) hr (ax_cons (ex_var 6 rfl) ax_nil) ⟨r, rfl, by rw [rwf.len r hr2]; omega, hnz r hr2, rfl⟩
  refine sxs_step [.d (dI p), .d dr, .d (dI wide), .d (.tuple (dRs red)), .d (.list (dIs (red.map leadOf))), .d (.list (dIs (freesOf (red.map leadOf) wide))), .un, .un, .un] (fun N hN => ?_) ?_
  · refine sx_mapA 5 7 (xs := List.range wide) (emb := dI) (fun k => decide (k ∉ red.map leadOf)) dI inj_dI rfl sc_null_by.nd ((rangeD_map wide) ▸ ix_range1 (n := wide) (ex_var 2 rfl) (by omega) T.b_range) (by rw [List.length_range, sizeLine_eq]; omega) (fun k hk s' H' C cl fp => txs_one ?_) (fun q hq _ s' H' C cl fp => ex_var 7 rfl) hN
    refine (tx_notInL (ns := (red.map leadOf).map fun (n : Nat) => (n : Int)) (ex_var 7 rfl) ((ex_var 4 rfl).is (by rw [dIs, List.map_map, List.map_map, List.map_map]; rfl))).is ?_
    by_cases h : k ∈ red.map leadOf
    · rw [decide_eq_true (List.mem_map.mpr ⟨k, h, rfl⟩), decide_eq_false (fun z => z h)]
      rfl
    · rw [decide_eq_false (fun z => by
        obtain ⟨j, hj, e⟩ := List.mem_map.mp z
        exact h (by have : j = k := by omega
                    rw [← this]; exact hj)), decide_eq_true h]
      rfl
  refine sxs_last (sx_ret (ex_has (has_reduced_by T) hr (ax_cons (ex_var 0 rfl) (ax_cons (EXo.ex (ds := dRs (nullRows p red wide)) ?_) (ax_cons (ex_var 2 rfl) ax_nil))) ⟨p, nullRows p red wide, wide, _, rfl, .inl rfl, hp, hp2, nullRows_wf hp, by omega, hw, rfl⟩) rfl)
  refine (exo_mapA 8 (xs := freesOf (red.map leadOf) wide) (emb := dI) (fun k => dR (kept p red (red.map leadOf) wide k)) inj_dI rfl sc_null_by.nd (ix_seq (ex_var 5 rfl) (.inl rfl)) ?_ fun k hk s' H' C cl fp => ?_).is (by unfold nullRows; rw [dRs, List.map_map]; rfl)
  · have : (freesOf (red.map leadOf) wide).length ≤ wide := by
      unfold freesOf
      exact Nat.le_trans (List.length_filter_le _ _) (by simp)
    rw [sizeLine_eq]
    omega
  · exact ex_has (has_kept_row T) hr (ax_cons (ex_var 0 rfl) (ax_cons (ex_var 3 rfl) (ax_cons (ex_var 4 rfl) (ax_cons (ex_var 2 rfl) (ax_cons (ex_var 8 rfl) ax_nil))))) ⟨p, red, _, wide, k, rfl, hp, hp2, rwf, hw, List.mem_range.mp (List.mem_filter.mp hk).1, hled, by rw [List.length_map]; omega, rfl⟩
/-! ### cut_rows, rank_by -/
def gCut : List PyData → PyData → Prop := fun ds d => ∃ (rows : List MI.Row) (places : List Nat) (dr : PyData), ds = [dr, dR places] ∧ isSeq dr (dRs rows) ∧ rows.length ≤ 1000 ∧ places.length ≤ 1000 ∧ (∀ r ∈ rows, ∀ k ∈ places, k < r.length) ∧ d = .list (dRs (cut rows places))
theorem has_cut_rows (T : Txt K mg) : Has P w K mg base 1 "cut_rows" P_cut_rows [] gCut := by
  refine has_mk T.d_cut_rows sc_cut_rows (fun ds d ⟨rows, places, dr, h, _⟩ => by rw [h]; rfl) fun f cdv A outer s H E hr ds d hG => ?_
  obtain ⟨rows, places, dr, rfl, hs, hl, hpl, hk, rfl⟩ := hG
  refine sxs_last (sx_ret (d := .list (dRs (cut rows places))) (EXo.ex ?_) rfl)
  refine (exo_mapA 2 (xs := rows) (emb := dR) (fun r => dR (places.map fun k => r.getD k 0)) inj_dR rfl sc_cut_rows.nd (ix_seq (ex_var 0 rfl) hs) (by rw [sizeLine_eq]; omega) fun r hr2 s' H' C cl fp => ?_).is (by unfold cut; rw [dRs, List.map_map]; rfl)
  refine ex_tupleOf (EXo.ex ?_) (.inl rfl) T.b_tuple
  refine (exo_mapA 3 (xs := places) (emb := dI) (fun k => dI (r.getD k 0)) inj_dI rfl sc_cut_rows.nd (ix_seq (ex_var 1 rfl) (.inr rfl)) (by rw [sizeLine_eq]; omega) fun k hk2 s' H' C cl fp => ?_).is (by rw [dIs, List.map_map]; rfl)
  exact rx_at (ex_var 2 rfl) (.inr rfl) (ex_var 3 rfl) (hk r hr2 k hk2)
def gRank : List PyData → PyData → Prop := fun ds d => ∃ (p : Nat) (rows : List MI.Row) (wide : Nat) (dr : PyData), ds = [dI p, dr, dI wide] ∧ isSeq dr (dRs rows) ∧ 1 < p ∧ p < 100000 ∧ Wf p rows wide ∧ rows.length ≤ 1000 ∧ wide ≤ 1000 ∧ d = dI (reduced p rows wide).length
theorem has_rank_by (T : Txt K mg) : Has P w K mg base 4 "rank_by" P_rank_by [] gRank := by
  refine has_mk T.d_rank_by sc_rank_by (fun ds d ⟨p, rows, wide, dr, h, _⟩ => by rw [h]; rfl) fun f cdv A outer s H E hr ds d hG => ?_
  obtain ⟨p, rows, wide, dr, rfl, hs, hp, hp2, wf, hl, hw, rfl⟩ := hG
  refine sxs_last (sx_ret ((ex_len (ex_has (has_reduced_by T) hr (ax_cons (ex_var 0 rfl) (ax_cons (ex_var 1 rfl) (ax_cons (ex_var 2 rfl) ax_nil))) ⟨p, rows, wide, dr, rfl, hs, hp, hp2, wf, hl, hw, rfl⟩) (.inr rfl) T.b_len).is (by rw [List.length_map])) rfl)
end
end DL
set_option Elab.async false
set_option linter.all false
set_option maxRecDepth 100000
set_option maxHeartbeats 4000000
/-! TX6: kinds, faults, wants. -/
namespace DL
open PySem PySem.Spec PyProof.Rows L2 MI
abbrev dBk (p size : Nat) (rows : List MI.Row) : PyData := .tuple [dI p, dI size, .tuple (dRs rows)]
theorem all_true {α : Type} {f : α → Bool} {xs : List α} (h : ∀ a ∈ xs, f a = true) : (xs.map f).all id = true := List.all_eq_true.mpr fun b hb => by
  obtain ⟨a, ha, rfl⟩ := List.mem_map.mp hb
  exact h a ha
section
variable {P : Program} {w : World} {K : PySem.W.Frag} {mg : Str → Option Value} {base : Heap}
theorem fn_dataD {x qual : Str} {params : Arguments} {bd : List Stmt} {scope : Scope} {dvs : List V} {kws : List (Str × V)} {f : Addr} {fd : FuncData} {N ps : List Str} {k : Nat} {G : List PyData → PyData → Prop} (F : FunD K x qual params bd scope dvs kws f fd) (S : FnScope N ps scope)
    (hl : ∀ ds d, G ds d → ds.length = ps.length)
    (body : ∀ (X : Cx), (∃ cdv A outer s H E, X = cxOf CX0 P w K mg base N qual scope f cdv A outer s H E) → Room k X.A → ∀ ds d, G ds d → SXs X bd (startD N ds) { nx := fun _ => d = .none, rt := fun r _ => r = d }) :
    FnOk P w K mg base CX0 (k + 1) f fd ps (spD K G) := by
  refine F.ok S (fun vs H Q E h => ?_) fun cdv A outer s H vs Q E hr h => ?_
  · obtain ⟨S', ds, d, _, h1, h2, _⟩ := h
    rw [dps_len h1]
    exact hl ds d h2
  · obtain ⟨S', ds, d, sh, h1, h2, q⟩ := h
    refine ⟨_, pss_c, startD N ds, _, S', H, S', body _ ⟨cdv, A, outer, s, H, E, rfl⟩ hr ds d h2, Gr.refl sh, start_ok sh h1, ?_⟩
    refine ⟨fun σ' δ' S1 H1 e g so => ?_, fun v r σ' δ' S1 H1 e g so dv => ?_, fun _ _ _ _ e => e.elim, fun _ _ _ _ e => e.elim⟩
    · subst e
      exact q .non S1 H1 g .non
    · subst e
      exact q v S1 H1 g dv
theorem has_mkD {x : Str} {st : Stmt} {N ps : List Str} {k : Nat} {dvs : List V} {dds : List PyData} {G : List PyData → PyData → Prop} (D : DfnD K mg x st ps dvs) (S : FnScope N ps (defScope st)) (hdd : ∀ S, DpAll K S dvs dds) (hl : ∀ ds d, G ds d → ds.length = ps.length)
    (body : ∀ f cdv A outer s H E, Room k (cxOf CX0 P w K mg base N x (defScope st) f cdv A outer s H E).A → ∀ ds d, G ds d → SXs (cxOf CX0 P w K mg base N x (defScope st) f cdv A outer s H E) (defBody st) (startD N ds) { nx := fun _ => d = .none, rt := fun r _ => r = d }) :
    Has P w K mg base (k + 1) x ps dds G := by
  obtain ⟨f, fd, us, F, b, v, m⟩ := D.ex
  exact ⟨f, fd, us, dvs, fn_dataD F S hl (fun X ⟨cdv, A, outer, s, H, E, e⟩ hr ds d hG => by subst e; exact body f cdv A outer s H E hr ds d hG), b, v, hdd, m, F.kp⟩
def gPrime : List PyData → PyData → Prop := fun ds d => ∃ p : Nat, ds = [dI p] ∧ 1 < p ∧ p < 100000 ∧ (∀ k, 2 ≤ k → k * k ≤ p → p % k ≠ 0) ∧ d = .bool true
theorem has_is_prime (T : Txt K mg) : Has P w K mg base 3 "is_prime" P_is_prime [] gPrime := by
  refine has_mk T.d_is_prime sc_is_prime (fun ds d ⟨p, h, _⟩ => by rw [h]; rfl) fun f cdv A outer s H E hr ds d hG => ?_
  obtain ⟨p, rfl, hp, hp2, hpr, rfl⟩ := hG
  obtain ⟨tt, hT⟩ := T.c_TOP
  have tn : TX (cxOf CX0 P w K mg base N_is_prime "is_prime" (defScope (topS 5)) f cdv A outer s H E).nox (.UnaryOp .Not (.Call (.Name "is_number" ⟨9, 11, 9, 20⟩) [.Name "thing" ⟨9, 21, 9, 26⟩] [] ⟨9, 11, 9, 27⟩) ⟨9, 7, 9, 27⟩) [.d (dI p), .un] (!decide ((0 : Int) ≤ (p : Int))) :=
    tx_not (tx_val (ex_has (has_is_number T) hr (ax_cons (ex_var 0 rfl) ax_nil) ⟨_, rfl, rfl⟩))
  refine sxs_step [.d (dI p), .un] (fun N hN => sx_if (k := (!decide ((0 : Int) ≤ (p : Int))) || !(decide ((1 : Int) < (p : Int)) && decide ((p : Int) < 1000000))) (wx_or tn fun _ => wx_or1 (tx_not (tx_chain op_lt op_lt ex_int (ex_var 0 rfl) (ex_globI (i := 1000000) (by rfl) hT)))).tx (fun h => ?_) fun h => sxs_nil hN) ?_
  · rw [decide_eq_true (by omega), decide_eq_true (by omega), decide_eq_true (by omega)] at h
    exact absurd h (by decide)
  refine sxs_step [.d (dI p), .d (dI 2)] (fun N hN => sx_set 1 ex_int hN sc_is_prime.nd) ?_
  refine sxs_cons (fun _ => True) ?_ (fun δ' _ => sxs_last (sx_ret ex_bool rfl))
  refine sx_while PassesOwn.never (fun m δ' => ∃ k, δ' = [.d (dI p), .d (dI k)] ∧ 2 ≤ k ∧ k ≤ p + 1 ∧ m = p + 1 - k) (p + 1 - 2) ⟨2, rfl, by omega, by omega, rfl⟩ fun m δ' ⟨k, hδ, h1, h2, hm⟩ => ?_
  subst hδ
  refine ⟨decide (k * k ≤ p), txn_le (exn_mul (ex_var 1 rfl) (ex_var 1 rfl) (by omega)) (ex_var 0 rfl), fun hk => ?_, fun _ => trivial⟩
  have hk := of_decide_eq_true hk
  have hkp : k ≤ p := Nat.le_trans (by have := Nat.mul_le_mul_left k (show 1 ≤ k by omega); omega) hk
  refine sxs_step [.d (dI p), .d (dI k)] (fun N hN => sx_if (k := decide (p % k = 0)) (txn_eq (y := 0) (exn_mod (ex_var 0 rfl) (ex_var 1 rfl) (by omega)) ex_int) (fun h => absurd (of_decide_eq_true h) (hpr k h1 hk)) fun h => sxs_nil hN) ?_
  exact sxs_last (sx_set 1 (exn_add (y := 1) (ex_var 1 rfl) ex_int) ⟨p + 1 - (k + 1), by omega, k + 1, rfl, by omega, by omega, rfl⟩ sc_is_prime.nd)
def gIndex : List PyData → PyData → Prop := fun ds d => ∃ m n : Nat, ds = [dI m, dI n] ∧ d = .bool (decide (n < m))
theorem has_is_index (T : Txt K mg) : Has P w K mg base 3 "is_index" P_is_index [] gIndex := by
  refine has_mk T.d_is_index sc_is_index (fun ds d ⟨p, n, h, _⟩ => by rw [h]; rfl) fun f cdv A outer s H E hr ds d hG => ?_
  obtain ⟨m, n, rfl, rfl⟩ := hG
  refine sxs_last (sx_ret (d := .bool (decide ((0 : Int) ≤ (n : Int)) && decide (n < m))) ?_ (by rw [decide_eq_true (show (0 : Int) ≤ (n : Int) by omega), Bool.true_and]))
  exact ex_and (ex_has (has_is_number T) hr (ax_cons (ex_var 1 rfl) ax_nil) ⟨_, rfl, rfl⟩) fun _ => ex_one (exn_lt (ex_var 1 rfl) (ex_var 0 rfl))
def gTupOf : List PyData → PyData → Prop := fun ds d => ∃ (es : List PyData) (n : Nat), ds = [.tuple es, dI n] ∧ d = .bool (decide (es.length = n))
theorem has_is_tuple_of (T : Txt K mg) : Has P w K mg base 1 "is_tuple_of" P_is_tuple_of [] gTupOf := by
  refine has_mk T.d_is_tuple_of sc_is_tuple_of (fun ds d ⟨p, n, h, _⟩ => by rw [h]; rfl) fun f cdv A outer s H E hr ds d hG => ?_
  obtain ⟨es, n, rfl, rfl⟩ := hG
  refine sxs_last (sx_ret (d := .bool (true && decide (es.length = n))) ?_ (by rw [Bool.true_and]))
  refine ex_and (ex_isi (tn := "tuple") (d := .tuple es) (ex_var 0 rfl) kit_tt T.b_isinstance T.b_tuple PyProof.Rows.boot_tuple) fun _ => ex_one (exn_eq (ex_len (ex_var 0 rfl) (.inr rfl) T.b_len) (ex_var 1 rfl))
def gRests : List PyData → PyData → Prop := fun ds d => ∃ (p n : Nat) (row : MI.Row), ds = [dI p, dI n, dR row] ∧ row.length = n ∧ n ≤ 1000 ∧ (∀ x ∈ row, x < p) ∧ d = .bool true
theorem has_are_rests (T : Txt K mg) : Has P w K mg base 4 "are_rests" P_are_rests [] gRests := by
  refine has_mk T.d_are_rests sc_are_rests (fun ds d ⟨p, n, r, h, _⟩ => by rw [h]; rfl) fun f cdv A outer s H E hr ds d hG => ?_
  obtain ⟨p, n, row, rfl, hl, hn, hlt, rfl⟩ := hG
  refine sxs_last (sx_ret (d := .bool (decide ((dIs row).length = n) && ((row.map fun x => decide (x < p)).all id))) ?_ ?_)
  · refine ex_and (ex_has (has_is_tuple_of T) hr (ax_cons (ex_var 2 rfl) (ax_cons (ex_var 1 rfl) ax_nil)) ⟨_, _, rfl, rfl⟩) fun _ => ex_one (ex_all rfl (EXo.ex ?_) T.b_all)
    refine (exo_mapA 3 (xs := row) (emb := dI) (fun x => .bool (decide (x < p))) inj_dI rfl sc_are_rests.nd (ix_seq (ex_var 2 rfl) (.inr rfl)) (by rw [sizeLine_eq]; omega) fun x hx s' H' C cl fp => ?_).is (by rw [List.map_map]; rfl)
    exact ex_has (has_is_index T) hr (ax_cons (ex_var 0 rfl) (ax_cons (ex_var 3 rfl) ax_nil)) ⟨_, _, rfl, rfl⟩
  · rw [all_true fun x hx => decide_eq_true (hlt x hx), decide_eq_true (by rw [List.length_map]; exact hl)]
    rfl
def gSum : List PyData → PyData → Prop := fun ds d => ∃ (p n : Nat) (row : MI.Row), ds = [dI p, dI n, dR row] ∧ row.length = n ∧ n ≤ 1000 ∧ (∀ x ∈ row, x < p) ∧ (∃ k, k < row.length ∧ 0 < row.getD k 0) ∧ d = .bool true
theorem any_nz {row : MI.Row} (h : ∃ k, k < row.length ∧ 0 < row.getD k 0) : ((row.map fun x => decide (0 < x)).any id) = true := by
  obtain ⟨k, h1, h2⟩ := h
  rw [List.any_eq_true]
  refine ⟨true, List.mem_map.mpr ⟨row.getD k 0, ?_, decide_eq_true h2⟩, rfl⟩
  rw [List.getD_eq_getElem?_getD, List.getElem?_eq_getElem h1]
  exact List.getElem_mem h1
theorem has_is_sum_of (T : Txt K mg) : Has P w K mg base 5 "is_sum_of" P_is_sum_of [] gSum := by
  refine has_mk T.d_is_sum_of sc_is_sum_of (fun ds d ⟨p, n, r, h, _⟩ => by rw [h]; rfl) fun f cdv A outer s H E hr ds d hG => ?_
  obtain ⟨p, n, row, rfl, hl, hn, hlt, hk, rfl⟩ := hG
  refine sxs_last (sx_ret (d := .bool (true && ((row.map fun x => decide (0 < x)).any id))) ?_ (by rw [any_nz hk]; rfl))
  refine ex_and (ex_has (has_are_rests T) hr (ax_cons (ex_var 0 rfl) (ax_cons (ex_var 1 rfl) (ax_cons (ex_var 2 rfl) ax_nil))) ⟨_, _, _, rfl, hl, hn, hlt, rfl⟩) fun _ => ex_one (ex_any rfl (EXo.ex ?_) T.b_any)
  exact (exo_mapA 3 (xs := row) (emb := dI) (fun x => .bool (decide (0 < x))) inj_dI rfl sc_is_sum_of.nd (ix_seq (ex_var 2 rfl) (.inr rfl)) (by rw [sizeLine_eq]; omega) fun x hx s' H' C cl fp => exn_gt (y := 0) (ex_var 3 rfl) ex_int).is (by rw [List.map_map]; rfl)
def gSize : List PyData → PyData → Prop := fun ds d => ∃ n : Nat, ds = [dI n] ∧ 0 < n ∧ n ≤ 100 ∧ d = .bool true
theorem has_is_size (T : Txt K mg) : Has P w K mg base 3 "is_size" P_is_size [] gSize := by
  refine has_mk T.d_is_size sc_is_size (fun ds d ⟨n, h, _⟩ => by rw [h]; rfl) fun f cdv A outer s H E hr ds d hG => ?_
  obtain ⟨n, rfl, h0, h1, rfl⟩ := hG
  obtain ⟨tt, hT⟩ := T.c_MOST
  refine sxs_last (sx_ret (d := .bool (decide ((0 : Int) ≤ (n : Int)) && (decide ((0 : Int) < (n : Int)) && decide ((n : Int) ≤ 100)))) ?_ (by rw [decide_eq_true (by omega), decide_eq_true (by omega), decide_eq_true (by omega)]; rfl))
  exact ex_and (ex_has (has_is_number T) hr (ax_cons (ex_var 0 rfl) ax_nil) ⟨_, rfl, rfl⟩) fun _ => ex_one (ex_chain op_lt op_le ex_int (ex_var 0 rfl) (ex_globI (i := 100) rfl hT))
def asc (row : MI.Row) : Prop := ∀ ab ∈ row.zip (row.drop 1), ab.1 < ab.2
def gAsc : List PyData → PyData → Prop := fun ds d => ∃ row : MI.Row, ds = [dR row] ∧ row.length ≤ 1000 ∧ asc row ∧ d = .bool true
theorem has_are_ascending (T : Txt K mg) : Has P w K mg base 1 "are_ascending" P_are_ascending [] gAsc := by
  refine has_mk T.d_are_ascending sc_are_ascending (fun ds d ⟨n, h, _⟩ => by rw [h]; rfl) fun f cdv A outer s H E hr ds d hG => ?_
  obtain ⟨row, rfl, hl, ha, rfl⟩ := hG
  refine sxs_last (sx_ret (d := .bool (((row.zip (row.drop 1)).map fun ab => decide (ab.1 < ab.2)).all id)) ?_ (by rw [all_true fun ab h => decide_eq_true (ha ab h)]))
  refine ex_all rfl (EXo.ex ?_) T.b_all
  have e1 : zipD (dIs row) ((dIs row).drop 1) = (row.zip (row.drop 1)).map fun ab => .tuple [dI ab.1, dI ab.2] := by
    rw [show (dIs row).drop 1 = dIs (row.drop 1) from (List.map_drop ..).symm]
    exact zipD_map _ _
  refine (exo_mapA2 1 2 (xs := row.zip (row.drop 1)) (emb := fun ab => .tuple [dI ab.1, dI ab.2]) (fun ab => .bool (decide (ab.1 < ab.2))) (inj_pair inj_dI inj_dI) (fun _ => rfl) rfl sc_are_ascending.nd (by decide) (e1 ▸ ix_zip (ex_var 0 rfl) (.inr rfl) (ex_sliceLoT (k := 1) (ex_var 0 rfl) ex_int) (.inr rfl) T.b_zip) (by rw [List.length_zip, sizeLine_eq]; omega) fun ab hab s' H' C cl fp => exn_lt (ex_var 1 rfl) (ex_var 2 rfl)).is (by rw [List.map_map]; rfl)
def gSums : List PyData → PyData → Prop := fun ds d => ∃ (p n : Nat) (rows : List MI.Row), ds = [dI p, dI n, .tuple (dRs rows)] ∧ n ≤ 1000 ∧ Wf p rows n ∧ nz rows ∧ d = .none
theorem has_sums_fault (T : Txt K mg) : Has P w K mg base 6 "sums_fault" P_sums_fault [] gSums := by
  refine has_mk T.d_sums_fault sc_sums_fault (fun ds d ⟨p, n, r, h, _⟩ => by rw [h]; rfl) fun f cdv A outer s H E hr ds d hG => ?_
  obtain ⟨p, n, rows, rfl, hn, wf, hnz, rfl⟩ := hG
  refine sxs_step [.d (dI p), .d (dI n), .d (.tuple (dRs rows)), .un, .un] (fun N hN => sx_if (k := !true) (tx_not (tx_val (ex_isi (tn := "tuple") (d := .tuple (dRs rows)) (ex_var 2 rfl) kit_tt T.b_isinstance T.b_tuple PyProof.Rows.boot_tuple))) (fun h => absurd h (by decide)) fun h => sxs_nil hN) ?_
  refine sxs_cons (fun _ => True) ?_ (fun δ' _ => sxs_last (sx_ret ex_none rfl))
  refine sx_for PassesOwn.never rfl (ix_enum (ex_var 2 rfl) (.inr rfl) T.b_enumerate) (pg2 3 4 rfl sc_sums_fault.nd) (fun i δ' => ∃ s3 s4, δ' = [.d (dI p), .d (dI n), .d (.tuple (dRs rows)), s3, s4]) ⟨_, _, rfl⟩ (fun i x δ' hx ⟨s3, s4, hδ⟩ => ?_) (fun δ' _ => trivial)
  subst hδ
  rw [enumD, dRs, enumFromD_map, List.getElem?_map] at hx
  cases e : (rows.zipIdx 0)[i]? with
  | none => rw [e] at hx; cases hx
  | some rk =>
    rw [e] at hx
    obtain rfl := (Option.some.inj hx).symm
    have hm : rk.1 ∈ rows := by
      have := List.mem_of_getElem? e
      obtain ⟨r, k⟩ := rk
      exact List.fst_mem_of_mem_zipIdx this
    refine ⟨_, ⟨_, _, rfl, rfl⟩, ?_⟩
    refine sxs_step [.d (dI p), .d (dI n), .d (.tuple (dRs rows)), .d (dI rk.2), .d (dR rk.1)] (fun N hN => sx_if (k := !true) (tx_not (tx_val (ex_has (has_are_rests T) hr (ax_cons (ex_var 0 rfl) (ax_cons (ex_var 1 rfl) (ax_cons (ex_var 4 rfl) ax_nil))) ⟨_, _, _, rfl, wf.len _ hm, hn, wf.lt _ hm, rfl⟩))) (fun h => absurd h (by decide)) fun h => sxs_nil hN) ?_
    exact sxs_last (sx_if (k := !true) (tx_not (tx_val (ex_has (has_is_sum_of T) hr (ax_cons (ex_var 0 rfl) (ax_cons (ex_var 1 rfl) (ax_cons (ex_var 4 rfl) ax_nil))) ⟨_, _, _, rfl, wf.len _ hm, hn, wf.lt _ hm, hnz _ hm, rfl⟩))) (fun h => absurd h (by decide)) fun h => sxs_nil ⟨_, _, rfl⟩)
/-- a good book -/
structure Bk (p n : Nat) (rows : List MI.Row) : Prop where
  p1 : 1 < p
  p2 : p < 100000
  pr : ∀ k, 2 ≤ k → k * k ≤ p → p % k ≠ 0
  n0 : 0 < n
  n1 : n ≤ 100
  wf : Wf p rows n
  nz : nz rows
  rl : rows.length ≤ 1000
  r2 : MI.nz (reduced p rows n)
def gBookF : List PyData → PyData → Prop := fun ds d => ∃ (p n : Nat) (rows : List MI.Row), ds = [dBk p n rows] ∧ Bk p n rows ∧ d = .none
theorem has_book_fault (T : Txt K mg) : Has P w K mg base 7 "book_fault" P_book_fault [] gBookF := by
  refine has_mk T.d_book_fault sc_book_fault (fun ds d ⟨p, n, r, h, _⟩ => by rw [h]; rfl) fun f cdv A outer s H E hr ds d hG => ?_
  obtain ⟨p, n, rows, rfl, hb, rfl⟩ := hG
  refine sxs_step [.d (dBk p n rows)] (fun N hN => sx_if (k := !decide ([dI p, dI n, .tuple (dRs rows)].length = 3)) (tx_not (tx_val (ex_has (has_is_tuple_of T) hr (ax_cons (ex_var 0 rfl) (ax_cons ex_int ax_nil)) ⟨_, 3, rfl, rfl⟩))) (fun h => absurd h (by simp)) fun h => sxs_nil hN) ?_
  refine sxs_step [.d (dBk p n rows)] (fun N hN => sx_if (k := !true) (tx_not (tx_val (ex_has (has_is_prime T) hr (ax_cons (ex_at (k := 0) (ex_var 0 rfl) (.inr rfl) ex_int rfl) ax_nil) ⟨_, rfl, hb.p1, hb.p2, hb.pr, rfl⟩))) (fun h => absurd h (by decide)) fun h => sxs_nil hN) ?_
  refine sxs_last (sx_ret (d := .none) (ex_if (k := true) (tx_val (ex_has (has_is_size T) hr (ax_cons (ex_at (k := 1) (ex_var 0 rfl) (.inr rfl) ex_int rfl) ax_nil) ⟨_, rfl, hb.n0, hb.n1, rfl⟩)) (fun _ => ?_) fun h => absurd h (by decide)) rfl)
  exact ex_has (has_sums_fault T) hr (ax_cons (ex_at (k := 0) (ex_var 0 rfl) (.inr rfl) ex_int rfl) (ax_cons (ex_at (k := 1) (ex_var 0 rfl) (.inr rfl) ex_int rfl) (ax_cons (ex_at (k := 2) (ex_var 0 rfl) (.inr rfl) ex_int rfl) ax_nil))) ⟨p, n, rows, rfl, by have := hb.n1; omega, hb.wf, hb.nz, rfl⟩
def gLot : List PyData → PyData → Prop := fun ds d => ∃ (p n : Nat) (rows : List MI.Row) (lot : List Nat), ds = [dBk p n rows, dR lot] ∧ lot.length ≤ 1000 ∧ (∀ x ∈ lot, x < n) ∧ asc lot ∧ d = .bool true
theorem has_is_lot_of (T : Txt K mg) : Has P w K mg base 4 "is_lot_of" P_is_lot_of [] gLot := by
  refine has_mk T.d_is_lot_of sc_is_lot_of (fun ds d ⟨p, n, r, l, h, _⟩ => by rw [h]; rfl) fun f cdv A outer s H E hr ds d hG => ?_
  obtain ⟨p, n, rows, lot, rfl, hl, hlt, ha, rfl⟩ := hG
  refine sxs_last (sx_ret (d := .bool (true && (((lot.map fun x => decide (x < n)).all id) && true))) ?_ (by rw [all_true fun x hx => decide_eq_true (hlt x hx)]; rfl))
  refine ex_and (ex_isi (tn := "tuple") (d := dR lot) (ex_var 1 rfl) kit_tt T.b_isinstance T.b_tuple PyProof.Rows.boot_tuple) fun _ => ex_and (ex_all rfl (EXo.ex ?_) T.b_all) fun _ => ex_one (ex_has (has_are_ascending T) hr (ax_cons (ex_var 1 rfl) ax_nil) ⟨_, rfl, hl, ha, rfl⟩)
  refine (exo_mapA 2 (xs := lot) (emb := dI) (fun x => .bool (decide (x < n))) inj_dI rfl sc_is_lot_of.nd (ix_seq (ex_var 1 rfl) (.inr rfl)) (by rw [sizeLine_eq]; omega) fun x hx s' H' C cl fp => ?_).is (by rw [List.map_map]; rfl)
  exact ex_has (has_is_index T) hr (ax_cons (ex_at (k := 1) (ex_var 0 rfl) (.inr rfl) ex_int rfl) (ax_cons (ex_var 2 rfl) ax_nil)) ⟨_, _, rfl, rfl⟩
def dotN (p : Nat) (a b : MI.Row) : Nat := ((a.zip b).map fun ab => ab.1 * ab.2).sum % p
def gRest : List PyData → PyData → Prop := fun ds d => ∃ (p : Nat) (a b : MI.Row), ds = [dI p, dR a, dR b] ∧ 0 < p ∧ p < 100000 ∧ a.length ≤ 1000 ∧ (∀ x ∈ a, x < p) ∧ d = dI (dotN p a b)
theorem sum_cast : ∀ ns : List Nat, (ns.map fun (n : Nat) => (n : Int)).sum = ((ns.sum : Nat) : Int)
  | [] => rfl
  | n :: r => by rw [List.map_cons, List.sum_cons, List.sum_cons, sum_cast r]; omega
theorem has_rest_of (T : Txt K mg) : Has P w K mg base 1 "rest_of" P_rest_of [] gRest := by
  refine has_mk T.d_rest_of sc_rest_of (fun ds d ⟨p, a, b, h, _⟩ => by rw [h]; rfl) fun f cdv A outer s H E hr ds d hG => ?_
  obtain ⟨p, a, b, rfl, hp, hp2, hl, hlt, rfl⟩ := hG
  refine sxs_last (sx_ret (d := dI (dotN p a b)) ?_ rfl)
  refine exn_mod (x := ((a.zip b).map fun ab => ab.1 * ab.2).sum) ((ex_sum (ns := ((a.zip b).map fun ab => ab.1 * ab.2).map fun (n : Nat) => (n : Int)) rfl (EXo.ex ?_) T.b_sum).is (by rw [sum_cast])) (ex_var 0 rfl) hp
  refine (exo_mapA2 3 4 (xs := a.zip b) (emb := fun ab => .tuple [dI ab.1, dI ab.2]) (fun ab => dI (ab.1 * ab.2)) (inj_pair inj_dI inj_dI) (fun _ => rfl) rfl sc_rest_of.nd (by decide) ((zipD_map a b) ▸ ix_zip (ex_var 1 rfl) (.inr rfl) (ex_var 2 rfl) (.inr rfl) T.b_zip) (by rw [List.length_zip, sizeLine_eq]; omega) fun ab hab s' H' C cl fp => ?_).is (by rw [List.map_map, List.map_map]; rfl)
  have := hlt ab.1 (List.of_mem_zip (show (ab.1, ab.2) ∈ a.zip b from hab)).1
  exact exn_mul (ex_var 3 rfl) (ex_var 4 rfl) (by omega)
/-! ### wants -/
def gWant : List PyData → PyData → Prop := fun ds d => ∃ x : Str, ds = [.bool true, .str x] ++ [.int (-1)] ∧ d = .none
theorem has_want (T : Txt K mg) : Has P w K mg base 1 "want" P_want [.int (-1)] gWant := by
  refine has_mkD T.d_want sc_want (fun S => .cons (.int _) .nil) (fun ds d ⟨x, h, _⟩ => by rw [h]; rfl) fun f cdv A outer s H E hr ds d hG => ?_
  obtain ⟨x, rfl, rfl⟩ := hG
  exact sxs_last (sx_if (k := !true) (tx_not (tx_val (ex_var 0 rfl))) (fun h => absurd h (by decide)) fun h => sxs_nil rfl)
def gWantBook : List PyData → PyData → Prop := fun ds d => ∃ (p n : Nat) (rows : List MI.Row), ds = [dBk p n rows] ++ [.str "book"] ∧ Bk p n rows ∧ d = .none
theorem has_want_book (T : Txt K mg) : Has P w K mg base 8 "want_book" P_want_book [.str "book"] gWantBook := by
  refine has_mkD T.d_want_book sc_want_book (fun S => .cons (.str _) .nil) (fun ds d ⟨p, n, x, h, _⟩ => by rw [h]; rfl) fun f cdv A outer s H E hr ds d hG => ?_
  obtain ⟨p, n, rows, rfl, hb, rfl⟩ := hG
  refine sxs_last (sx_drop (d := .none) (ex_has (has_want T) hr (ax_cons (ex_isNn (ex_has (has_book_fault T) hr (ax_cons (ex_var 0 rfl) ax_nil) ⟨p, n, rows, rfl, hb, rfl⟩)) (ax_cons (ex_var 1 rfl) ax_nil)) ⟨_, rfl, rfl⟩) rfl)
def gWantLot : List PyData → PyData → Prop := fun ds d => ∃ (p n : Nat) (rows : List MI.Row) (lot : List Nat), ds = [dBk p n rows, dR lot] ++ [.str "lot"] ∧ lot.length ≤ 1000 ∧ (∀ x ∈ lot, x < n) ∧ asc lot ∧ d = .none
theorem has_want_lot (T : Txt K mg) : Has P w K mg base 5 "want_lot" P_want_lot [.str "lot"] gWantLot := by
  refine has_mkD T.d_want_lot sc_want_lot (fun S => .cons (.str _) .nil) (fun ds d ⟨p, n, x, l, h, _⟩ => by rw [h]; rfl) fun f cdv A outer s H E hr ds d hG => ?_
  obtain ⟨p, n, rows, lot, rfl, h1, h2, h3, rfl⟩ := hG
  refine sxs_last (sx_drop (d := .none) (ex_has (has_want T) hr (ax_cons (ex_has (has_is_lot_of T) hr (ax_cons (ex_var 0 rfl) (ax_cons (ex_var 1 rfl) ax_nil)) ⟨p, n, rows, lot, rfl, h1, h2, h3, rfl⟩) (ax_cons (ex_var 2 rfl) ax_nil)) ⟨_, rfl, rfl⟩) rfl)
def gWantSum : List PyData → PyData → Prop := fun ds d => ∃ (p n : Nat) (rows : List MI.Row) (row : MI.Row), ds = [dBk p n rows, dR row] ++ [.str "numbers"] ∧ row.length = n ∧ n ≤ 1000 ∧ (∀ x ∈ row, x < p) ∧ (∃ k, k < row.length ∧ 0 < row.getD k 0) ∧ d = .none
theorem has_want_sum (T : Txt K mg) : Has P w K mg base 6 "want_sum" P_want_sum [.str "numbers"] gWantSum := by
  refine has_mkD T.d_want_sum sc_want_sum (fun S => .cons (.str _) .nil) (fun ds d ⟨p, n, x, l, h, _⟩ => by rw [h]; rfl) fun f cdv A outer s H E hr ds d hG => ?_
  obtain ⟨p, n, rows, row, rfl, h1, h2, h3, h4, rfl⟩ := hG
  refine sxs_last (sx_drop (d := .none) (ex_has (has_want T) hr (ax_cons (ex_has (has_is_sum_of T) hr (ax_cons (ex_at (k := 0) (ex_var 0 rfl) (.inr rfl) ex_int rfl) (ax_cons (ex_at (k := 1) (ex_var 0 rfl) (.inr rfl) ex_int rfl) (ax_cons (ex_var 1 rfl) ax_nil))) ⟨p, n, row, rfl, h1, h2, h3, h4, rfl⟩) (ax_cons (ex_var 2 rfl) ax_nil)) ⟨_, rfl, rfl⟩) rfl)
def gFrom : List PyData → PyData → Prop := fun ds d => ∃ m n : Nat, ds = [dI m, dI n] ∧ d = .bool (decide (m ≤ n))
theorem has_is_from (T : Txt K mg) : Has P w K mg base 3 "is_from" P_is_from [] gFrom := by
  refine has_mk T.d_is_from sc_is_from (fun ds d ⟨m, n, h, _⟩ => by rw [h]; rfl) fun f cdv A outer s H E hr ds d hG => ?_
  obtain ⟨m, n, rfl, rfl⟩ := hG
  refine sxs_last (sx_ret (d := .bool (decide ((0 : Int) ≤ (n : Int)) && decide (m ≤ n))) ?_ (by rw [decide_eq_true (show (0 : Int) ≤ (n : Int) by omega), Bool.true_and]))
  exact ex_and (ex_has (has_is_number T) hr (ax_cons (ex_var 1 rfl) ax_nil) ⟨_, rfl, rfl⟩) fun _ => ex_one (exn_ge (ex_var 1 rfl) (ex_var 0 rfl))
def isP (p : Nat) : Prop := 1 < p ∧ p < 100000 ∧ ∀ k, 2 ≤ k → k * k ≤ p → p % k ≠ 0
def gWPrime : List PyData → PyData → Prop := fun ds d => ∃ p : Nat, ds = [dI p] ∧ isP p ∧ d = .none
theorem has_want_prime (T : Txt K mg) : Has P w K mg base 4 "want_prime" P_want_prime [] gWPrime := by
  refine has_mk T.d_want_prime sc_want_prime (fun ds d ⟨m, h, _⟩ => by rw [h]; rfl) fun f cdv A outer s H E hr ds d hG => ?_
  obtain ⟨p, rfl, ⟨h1, h2, h3⟩, rfl⟩ := hG
  exact sxs_last (sx_drop (d := .none) (ex_has (has_want T) hr (ax_cons (ex_has (has_is_prime T) hr (ax_cons (ex_var 0 rfl) ax_nil) ⟨_, rfl, h1, h2, h3, rfl⟩) (ax_cons ex_str ax_nil)) ⟨_, rfl, rfl⟩) rfl)
def gWFrom : List PyData → PyData → Prop := fun ds d => ∃ (m n : Nat) (x : Str), ds = [dI m, dI n, .str x] ∧ m ≤ n ∧ d = .none
theorem has_want_from (T : Txt K mg) : Has P w K mg base 4 "want_from" P_want_from [] gWFrom := by
  refine has_mk T.d_want_from sc_want_from (fun ds d ⟨m, n, x, h, _⟩ => by rw [h]; rfl) fun f cdv A outer s H E hr ds d hG => ?_
  obtain ⟨m, n, x, rfl, h1, rfl⟩ := hG
  exact sxs_last (sx_drop (d := .none) (ex_has (has_want T) hr (ax_cons ((ex_has (has_is_from T) hr (ax_cons (ex_var 0 rfl) (ax_cons (ex_var 1 rfl) ax_nil)) ⟨_, _, rfl, rfl⟩).is (by rw [decide_eq_true h1])) (ax_cons (ex_var 2 rfl) ax_nil)) ⟨_, rfl, rfl⟩) rfl)
def gWMany : List PyData → PyData → Prop := fun ds d => ∃ (p wide many : Nat), ds = [dI p, dI wide, dI many] ∧ 1 ≤ many ∧ many < 100000 ∧ many * wide < p ∧ d = .none
theorem has_want_many (T : Txt K mg) : Has P w K mg base 4 "want_many" P_want_many [] gWMany := by
  refine has_mk T.d_want_many sc_want_many (fun ds d ⟨m, n, x, h, _⟩ => by rw [h]; rfl) fun f cdv A outer s H E hr ds d hG => ?_
  obtain ⟨p, wide, many, rfl, h1, h2, h3, rfl⟩ := hG
  refine sxs_last (sx_drop (d := .none) (ex_has (has_want T) hr (ax_cons ((ex_and (k := decide (1 ≤ many)) (l := decide (many * wide < p)) (ex_has (has_is_from T) hr (ax_cons ex_int (ax_cons (ex_var 2 rfl) ax_nil)) ⟨1, many, rfl, rfl⟩) fun _ => ex_one (exn_lt (exn_mul (ex_var 2 rfl) (ex_var 1 rfl) (by omega)) (ex_var 0 rfl))).is (by rw [decide_eq_true h1, decide_eq_true h3]; rfl)) (ax_cons ex_str ax_nil)) ⟨_, rfl, rfl⟩) rfl)
def gWTold : List PyData → PyData → Prop := fun ds d => ∃ (most told : Nat), ds = [dI most, dI told] ∧ 1 ≤ told ∧ told ≤ most ∧ d = .none
theorem has_want_told (T : Txt K mg) : Has P w K mg base 4 "want_told" P_want_told [] gWTold := by
  refine has_mk T.d_want_told sc_want_told (fun ds d ⟨m, n, h, _⟩ => by rw [h]; rfl) fun f cdv A outer s H E hr ds d hG => ?_
  obtain ⟨most, told, rfl, h1, h2, rfl⟩ := hG
  refine sxs_last (sx_drop (d := .none) (ex_has (has_want T) hr (ax_cons ((ex_and (k := decide (1 ≤ told)) (l := decide (told ≤ most)) (ex_has (has_is_from T) hr (ax_cons ex_int (ax_cons (ex_var 1 rfl) ax_nil)) ⟨1, told, rfl, rfl⟩) fun _ => ex_one (exn_le (ex_var 1 rfl) (ex_var 0 rfl))).is (by rw [decide_eq_true h1, decide_eq_true h2]; rfl)) (ax_cons ex_str ax_nil)) ⟨_, rfl, rfl⟩) rfl)
end
end DL
set_option Elab.async false
set_option linter.all false
set_option maxRecDepth 100000
set_option maxHeartbeats 4000000
/-! TX7: books. -/
namespace DL
open PySem PySem.Spec PyProof.Rows L2 MI
section
variable {X : Cx} {x y : Str} {scope : Scope} {p px py pos pt : Pos} {iter elt e : Expr} {δ : List Slot} {kt : Nat} {α γ : Type} {emb : α → PyData} {emb1 : γ → PyData} {xs : List α} {ys : List γ} {E : DE} {da db : PyData}
/-- x, y = a pair, any names -/
theorem sx_parG (i j : Nat) (hc : X.calm = true) (hN : X.N.Nodup) (he : EX X e δ (.tuple [da, db])) (k : E.nx ((δ.set i (.d da)).set j (.d db))) (hs : swapsWithSole [.Tuple [.Name x px, .Name y py] kt pt] e pos.line X.env = pure false := by rfl) (hw : swappedStores [.Tuple [.Name x px, .Name y py] kt pt] e X.env = pure none := by rfl)
    (h1 : (assignEach [.Tuple [.Name x px, .Name y py] kt pt] X.env).map (·.2) = [assign (.Tuple [.Name x px, .Name y py] kt pt) X.env] := by rfl) (hi : X.N[i]? = some x := by rfl) (hj : X.N[j]? = some y := by rfl) (hx : Loc X.env.scope x := by first | exact Or.inl rfl | exact Or.inr rfl) (hy : Loc X.env.scope y := by first | exact Or.inl rfl | exact Or.inr rfl)
    (hf : X.fn x = true ∨ X.env.scope.names.lookup x = some .local := by first | exact .inl rfl | exact .inr rfl) (hf2 : X.fn y = true ∨ X.env.scope.names.lookup y = some .local := by first | exact .inl rfl | exact .inr rfl) : SX X (.Assign [.Tuple [.Name x px, .Name y py] kt pt] e pos) δ E :=
  SX.of (ps_asg pe_c (pg2 i j hc hN hi hj hx hy hf hf2) hs hw h1) fun σ S0 H0 S H D g so q => rd_c he σ H0 S H _ so fun v S' H' g1 dv =>
    Tg.run (t := .tp i j) ⟨da, db, rfl, rfl⟩ (so.grow g1) dv _ fun σ' hso hl hk => q.nx _ _ S' H' k (g.trans g1) (hso S' H' (Same.refl _) (so.grow g1))
theorem exo_map12A (i j : Nat) (res : α → γ → PyData) (inj : Inj emb) (inj1 : Inj emb1) {iter1 : Expr} (hc : X.calm = true) (hN : X.N.Nodup) (hij : i ≠ j) (hi : IX X (.Name x px) iter δ (xs.map emb)) (hz : xs.length * ys.length ≤ sizeLine)
    (hi1 : ∀ a ∈ xs, Blk X scope fun Y => IX Y (.Name y py) iter1 ((δ.set i (.d (emb a))).set j .un) (ys.map emb1)) (hel : ∀ a ∈ xs, ∀ b ∈ ys, Blk X scope fun Y => EX Y elt ((δ.set i (.d (emb a))).set j (.d (emb1 b))) (res a b))
    (ok : blkC X.N X.env.scope scope [(x, i), (y, j)] = true := by rfl) (hxi : X.N[i]? = some x := by rfl) (hyj : X.N[j]? = some y := by rfl) (hx : LocS scope x := by first | exact Or.inl rfl | exact Or.inr rfl) (hy : LocS scope y := by first | exact Or.inl rfl | exact Or.inr rfl) (hs : ∀ x, foldedSetIterable iter X.env x = pure x := by intro _; rfl) (hs1 : ∀ env x, foldedSetIterable iter1 env x = pure x := by intro _ _; rfl) :
    EXo X (.ListComp elt [⟨.Name x px, iter, [], 0⟩, ⟨.Name y py, iter1, [], 0⟩] scope pos) δ (xs.flatMap fun a => ys.map (res a)) := by
  refine (exo_map12 (items1 := ys.map emb1) i j (viaE emb (fun a => viaE emb1 (res a) .none) fun _ => .none) hc hN hij hi (by rw [List.length_map, List.length_map]; exact hz) (fun z hz => ?_) (fun z hz w hw => ?_) ok hxi hyj hx hy hs hs1).is ?_
  · obtain ⟨a, ha, rfl⟩ := List.mem_map.mp hz
    exact hi1 a ha
  · obtain ⟨a, ha, rfl⟩ := List.mem_map.mp hz
    obtain ⟨b, hb, rfl⟩ := List.mem_map.mp hw
    rw [viaE_at inj, viaE_at inj1]
    exact hel a ha b hb
  · rw [List.flatMap_map]
    congr 1
    funext a
    show (ys.map emb1).map (viaE emb (fun a => viaE emb1 (res a) .none) (fun _ => .none) (emb a)) = _
    rw [viaE_at inj, viaE_map inj1]
end
section
variable {P : Program} {w : World} {K : PySem.W.Frag} {mg : Str → Option Value} {base : Heap}
/-! ### words -/
def gWords : List PyData → PyData → Prop := fun ds d => ∃ (p n : Nat) (rows : List MI.Row), ds = [dBk p n rows] ∧ Bk p n rows ∧ d = .tuple (dRs (nullN p rows n))
theorem has_words_in (T : Txt K mg) : Has P w K mg base 5 "words_in" P_words_in [] gWords := by
  refine has_mk T.d_words_in sc_words_in (fun ds d ⟨p, n, x, h, _⟩ => by rw [h]; rfl) fun f cdv A outer s H E hr ds d hG => ?_
  obtain ⟨p, n, rows, rfl, hb, rfl⟩ := hG
  exact sxs_last (sx_ret (ex_has (has_null_by T) hr (ax_cons (ex_at (k := 0) (ex_var 0 rfl) (.inr rfl) ex_int rfl) (ax_cons (ex_at (k := 2) (ex_var 0 rfl) (.inr rfl) ex_int rfl) (ax_cons (ex_at (k := 1) (ex_var 0 rfl) (.inr rfl) ex_int rfl) ax_nil))) ⟨p, rows, n, _, rfl, .inr rfl, hb.p1, hb.p2, hb.wf, hb.rl, by have := hb.n1; omega, hb.r2, rfl⟩) rfl)
theorem cut_wf {p n : Nat} {rows : List MI.Row} {lot : List Nat} (wf : Wf p rows n) (h : ∀ x ∈ lot, x < n) : Wf p (cut rows lot) lot.length := by
  refine ⟨fun r hr => ?_, fun r hr x hx => ?_⟩
  · obtain ⟨q, hq, rfl⟩ := List.mem_map.mp hr
    rw [List.length_map]
  · obtain ⟨q, hq, rfl⟩ := List.mem_map.mp hr
    obtain ⟨k, hk, rfl⟩ := List.mem_map.mp hx
    have hkl : k < q.length := by rw [wf.len q hq]; exact h k hk
    rw [List.getD_eq_getElem?_getD, List.getElem?_eq_getElem hkl]
    exact wf.lt q hq _ (List.getElem_mem hkl)
def rankN (p : Nat) (rows : List MI.Row) (lot : List Nat) : Nat := (reduced p (cut rows lot) lot.length).length
def gTold : List PyData → PyData → Prop := fun ds d => ∃ (p n : Nat) (rows : List MI.Row) (lot : List Nat), ds = [dBk p n rows, dR lot] ∧ Bk p n rows ∧ lot.length ≤ 1000 ∧ (∀ x ∈ lot, x < n) ∧ d = dI (rankN p (nullN p rows n) lot)
theorem has_told_in (T : Txt K mg) : Has P w K mg base 6 "told_in" P_told_in [] gTold := by
  refine has_mk T.d_told_in sc_told_in (fun ds d ⟨p, n, x, l, h, _⟩ => by rw [h]; rfl) fun f cdv A outer s H E hr ds d hG => ?_
  obtain ⟨p, n, rows, lot, rfl, hb, hl, hlt, rfl⟩ := hG
  have nwf := nullN_wf (wide := n) (rows := rows) hb.p1
  have nl := nullN_len (p := p) (wide := n) (rows := rows)
  have hn1 := hb.n1
  have hcl : (cut (nullN p rows n) lot).length ≤ 1000 := by unfold cut; rw [List.length_map]; omega
  refine sxs_last (sx_ret (d := dI (rankN p (nullN p rows n) lot)) (ex_has (has_rank_by T) hr (ax_cons (ex_at (k := 0) (ex_var 0 rfl) (.inr rfl) ex_int rfl) (ax_cons (d := .list (dRs (cut (nullN p rows n) lot))) ?_ (ax_cons ((ex_len (ex_var 1 rfl) (.inr rfl) T.b_len).is (by rw [List.length_map])) ax_nil))) ⟨p, cut (nullN p rows n) lot, lot.length, _, rfl, .inl rfl, hb.p1, hb.p2, cut_wf nwf hlt, hcl, hl, rfl⟩) rfl)
  exact ex_has (has_cut_rows T) hr (ax_cons (ex_has (has_words_in T) hr (ax_cons (ex_var 0 rfl) ax_nil) ⟨p, n, rows, rfl, hb, rfl⟩) (ax_cons (ex_var 1 rfl) ax_nil)) ⟨nullN p rows n, lot, _, rfl, .inr rfl, by omega, hl, fun r hr k hk => by rw [nwf.len r hr]; exact hlt k hk, rfl⟩
def keepsN (p : Nat) (rows : List MI.Row) (numbers : MI.Row) : Bool := (rows.map fun word => decide (dotN p numbers word = 0)).all id
def gKeepsIn : List PyData → PyData → Prop := fun ds d => ∃ (p n : Nat) (rows : List MI.Row) (row : MI.Row), ds = [dBk p n rows, dR row] ∧ Bk p n rows ∧ row.length ≤ 1000 ∧ (∀ x ∈ row, x < p) ∧ d = .bool (keepsN p (nullN p rows n) row)
theorem has_keeps_in (T : Txt K mg) : Has P w K mg base 6 "keeps_in" P_keeps_in [] gKeepsIn := by
  refine has_mk T.d_keeps_in sc_keeps_in (fun ds d ⟨p, n, x, l, h, _⟩ => by rw [h]; rfl) fun f cdv A outer s H E hr ds d hG => ?_
  obtain ⟨p, n, rows, row, rfl, hb, hl, hlt, rfl⟩ := hG
  have nl := nullN_len (p := p) (wide := n) (rows := rows)
  have hn1 := hb.n1
  have hp1 := hb.p1
  refine sxs_last (sx_ret (d := .bool (keepsN p (nullN p rows n) row)) (ex_all rfl (EXo.ex ?_) T.b_all) rfl)
  refine (exo_mapA 2 (xs := nullN p rows n) (emb := dR) (fun wd => .bool (decide (dotN p row wd = 0))) inj_dR rfl sc_keeps_in.nd (ix_seq (ex_has (has_words_in T) hr (ax_cons (ex_var 0 rfl) ax_nil) ⟨p, n, rows, rfl, hb, rfl⟩) (.inr rfl)) (by rw [sizeLine_eq]; omega) fun x hx s' H' C cl fp => ?_).is (by rw [List.map_map]; rfl)
  exact exn_eq (y := 0) (ex_has (has_rest_of T) hr (ax_cons (ex_at (k := 0) (ex_var 0 rfl) (.inr rfl) ex_int rfl) (ax_cons (ex_var 1 rfl) (ax_cons (ex_var 2 rfl) ax_nil))) ⟨p, row, x, rfl, by omega, hb.p2, hl, hlt, rfl⟩) ex_int
def gBoW : List PyData → PyData → Prop := fun ds d => ∃ (p n : Nat) (rows : List MI.Row) (dr : PyData), ds = [dI p, dI n, dr] ∧ isSeq dr (dRs rows) ∧ 1 < p ∧ p < 100000 ∧ Wf p rows n ∧ rows.length ≤ 1000 ∧ n ≤ 1000 ∧ nz (reduced p rows n) ∧ d = dBk p n (nullN p rows n)
theorem has_book_of_words (T : Txt K mg) : Has P w K mg base 5 "book_of_words" P_book_of_words [] gBoW := by
  refine has_mk T.d_book_of_words sc_book_of_words (fun ds d ⟨p, n, x, l, h, _⟩ => by rw [h]; rfl) fun f cdv A outer s H E hr ds d hG => ?_
  obtain ⟨p, n, rows, dr, rfl, hs, hp, hp2, wf, hl, hn, hnz, rfl⟩ := hG
  refine sxs_last (sx_ret (ex_tup (ax_cons (ex_var 0 rfl) (ax_cons (ex_var 1 rfl) (ax_cons ?_ ax_nil))) (by show 3 ≤ sizeLine; decide)) rfl)
  exact ex_has (has_null_by T) hr (ax_cons (ex_var 0 rfl) (ax_cons (ex_var 2 rfl) (ax_cons (ex_var 1 rfl) ax_nil))) ⟨p, rows, n, dr, rfl, hs, hp, hp2, wf, hl, hn, hnz, rfl⟩
/-! ### books asked -/
def gTS : List PyData → PyData → Prop := fun ds d => ∃ (p n : Nat) (rows : List MI.Row), ds = [dBk p n rows] ∧ Bk p n rows ∧ d = dI (nullN p rows n).length
theorem has_told_signs (T : Txt K mg) : Has P w K mg base 9 "told_signs" P_told_signs [] gTS := by
  refine has_mk T.d_told_signs sc_told_signs (fun ds d ⟨p, n, x, h, _⟩ => by rw [h]; rfl) fun f cdv A outer s H E hr ds d hG => ?_
  obtain ⟨p, n, rows, rfl, hb, rfl⟩ := hG
  refine sxs_step [.d (dBk p n rows)] (fun N hN => sx_drop (d := .none) (ex_has (has_want_book T) hr (ax_cons (ex_var 0 rfl) ax_nil) ⟨p, n, rows, rfl, hb, rfl⟩) hN) ?_
  exact sxs_last (sx_ret ((ex_len (ex_has (has_words_in T) hr (ax_cons (ex_var 0 rfl) ax_nil) ⟨p, n, rows, rfl, hb, rfl⟩) (.inr rfl) T.b_len).is (by rw [List.length_map])) rfl)
def gTO : List PyData → PyData → Prop := fun ds d => ∃ (p n : Nat) (rows : List MI.Row) (lot : List Nat), ds = [dBk p n rows, dR lot] ∧ Bk p n rows ∧ lot.length ≤ 1000 ∧ (∀ x ∈ lot, x < n) ∧ asc lot ∧ d = dI (rankN p (nullN p rows n) lot)
theorem has_told_on (T : Txt K mg) : Has P w K mg base 9 "told_on" P_told_on [] gTO := by
  refine has_mk T.d_told_on sc_told_on (fun ds d ⟨p, n, x, l, h, _⟩ => by rw [h]; rfl) fun f cdv A outer s H E hr ds d hG => ?_
  obtain ⟨p, n, rows, lot, rfl, hb, hl, hlt, ha, rfl⟩ := hG
  refine sxs_step [.d (dBk p n rows), .d (dR lot)] (fun N hN => sx_drop (d := .none) (ex_has (has_want_book T) hr (ax_cons (ex_var 0 rfl) ax_nil) ⟨p, n, rows, rfl, hb, rfl⟩) hN) ?_
  refine sxs_step [.d (dBk p n rows), .d (dR lot)] (fun N hN => sx_drop (d := .none) (ex_has (has_want_lot T) hr (ax_cons (ex_var 0 rfl) (ax_cons (ex_var 1 rfl) ax_nil)) ⟨p, n, rows, lot, rfl, hl, hlt, ha, rfl⟩) hN) ?_
  exact sxs_last (sx_ret (ex_has (has_told_in T) hr (ax_cons (ex_var 0 rfl) (ax_cons (ex_var 1 rfl) ax_nil)) ⟨p, n, rows, lot, rfl, hb, hl, hlt, rfl⟩) rfl)
def gKeeps : List PyData → PyData → Prop := fun ds d => ∃ (p n : Nat) (rows : List MI.Row) (row : MI.Row), ds = [dBk p n rows, dR row] ∧ Bk p n rows ∧ row.length = n ∧ (∀ x ∈ row, x < p) ∧ (∃ k, k < row.length ∧ 0 < row.getD k 0) ∧ d = .bool (keepsN p (nullN p rows n) row)
theorem has_keeps (T : Txt K mg) : Has P w K mg base 9 "keeps" P_keeps [] gKeeps := by
  refine has_mk T.d_keeps sc_keeps (fun ds d ⟨p, n, x, l, h, _⟩ => by rw [h]; rfl) fun f cdv A outer s H E hr ds d hG => ?_
  obtain ⟨p, n, rows, row, rfl, hb, hl, hlt, hk, rfl⟩ := hG
  have hn1 := hb.n1
  refine sxs_step [.d (dBk p n rows), .d (dR row)] (fun N hN => sx_drop (d := .none) (ex_has (has_want_book T) hr (ax_cons (ex_var 0 rfl) ax_nil) ⟨p, n, rows, rfl, hb, rfl⟩) hN) ?_
  refine sxs_step [.d (dBk p n rows), .d (dR row)] (fun N hN => sx_drop (d := .none) (ex_has (has_want_sum T) hr (ax_cons (ex_var 0 rfl) (ax_cons (ex_var 1 rfl) ax_nil)) ⟨p, n, rows, row, rfl, hl, by omega, hlt, hk, rfl⟩) hN) ?_
  exact sxs_last (sx_ret (ex_has (has_keeps_in T) hr (ax_cons (ex_var 0 rfl) (ax_cons (ex_var 1 rfl) ax_nil)) ⟨p, n, rows, row, rfl, hb, by omega, hlt, rfl⟩) rfl)
theorem has_base_words (T : Txt K mg) : Has P w K mg base 9 "base_words" P_base_words [] gWords := by
  refine has_mk T.d_base_words sc_base_words (fun ds d ⟨p, n, x, h, _⟩ => by rw [h]; rfl) fun f cdv A outer s H E hr ds d hG => ?_
  obtain ⟨p, n, rows, rfl, hb, rfl⟩ := hG
  refine sxs_step [.d (dBk p n rows)] (fun N hN => sx_drop (d := .none) (ex_has (has_want_book T) hr (ax_cons (ex_var 0 rfl) ax_nil) ⟨p, n, rows, rfl, hb, rfl⟩) hN) ?_
  exact sxs_last (sx_ret (ex_has (has_words_in T) hr (ax_cons (ex_var 0 rfl) ax_nil) ⟨p, n, rows, rfl, hb, rfl⟩) rfl)
end
end DL
set_option Elab.async false
set_option linter.all false
set_option maxRecDepth 100000
set_option maxHeartbeats 4000000
/-! TX8: numbers, powers, parts. -/
namespace DL
open PySem PySem.Spec PyProof.Rows L2 MI
def divOut : Nat → Nat → Nat → Nat
  | 0, _, l => l
  | k + 1, q, l => if l % q = 0 then divOut k q (l / q) else l
def partsF : Nat → List Nat → Nat → Nat → List Nat × Nat
  | 0, f, _, l => (f, l)
  | k + 1, f, q, l => if q * q ≤ l then (if l % q = 0 then partsF k (f ++ [q]) (q + 1) (divOut l q l) else partsF k f (q + 1) l) else (f, l)
def partsN (n : Nat) : List Nat := if 1 < (partsF (n + 1) [] 2 n).2 then (partsF (n + 1) [] 2 n).1 ++ [(partsF (n + 1) [] 2 n).2] else (partsF (n + 1) [] 2 n).1
def good (p h : Nat) : Bool := ((partsN (p - 1)).map fun q => !decide (powN p h ((p - 1) / q) = 1)).all id
def primR (p g : Nat) : Prop := 1 ≤ g ∧ g < p ∧ (∀ q ∈ partsN (p - 1), 0 < q ∧ q < 100000) ∧ (partsN (p - 1)).length ≤ 1000 ∧ good p g = true ∧ ∀ h, h < g → 1 ≤ h → good p h = false
def fitN (few wide inner many : Nat) : List Nat := (List.range (wide * many)).filter fun e => (!decide (e % (few + 1) = few)) && decide (e % wide < inner)
def classRow (wide j : Nat) : MI.Row := (List.range wide).map fun m => j * wide + m
def classesN (wide many : Nat) : List MI.Row := (List.range many).map (classRow wide)
def partRow (wide step q j i : Nat) : MI.Row := (List.range q).map fun m => j * wide + i + m * step
def partedN (wide step q many : Nat) : List MI.Row := (List.range many).flatMap fun j => (List.range step).map (partRow wide step q j)
theorem divOut_le : ∀ (k q l : Nat), divOut k q l ≤ l
  | 0, _, _ => Nat.le_refl _
  | k + 1, q, l => by
    unfold divOut
    split
    · exact Nat.le_trans (divOut_le k q _) (Nat.div_le_self _ _)
    · exact Nat.le_refl _
theorem dIs_app (a b : List Nat) : dIs (a ++ b) = dIs a ++ dIs b := List.map_append
theorem divOut_succ (k q l : Nat) : divOut (k + 1) q l = if l % q = 0 then divOut k q (l / q) else l := rfl
theorem partsF_succ (k : Nat) (f : List Nat) (q l : Nat) : partsF (k + 1) f q l = if q * q ≤ l then (if l % q = 0 then partsF k (f ++ [q]) (q + 1) (divOut l q l) else partsF k f (q + 1) l) else (f, l) := rfl
theorem sum_const {α : Type} (c : Nat) : ∀ xs : List α, (xs.map fun _ => c).sum = xs.length * c
  | [] => by simp
  | x :: r => by rw [List.map_cons, List.sum_cons, sum_const c r, List.length_cons, Nat.succ_mul]; omega
section
variable {P : Program} {w : World} {K : PySem.W.Frag} {mg : Str → Option Value} {base : Heap}
def gParts : List PyData → PyData → Prop := fun ds d => ∃ n : Nat, ds = [dI n] ∧ 0 < n ∧ n < 100000 ∧ d = .list (dIs (partsN n))
theorem has_prime_parts (T : Txt K mg) : Has P w K mg base 1 "prime_parts" P_prime_parts [] gParts := by
  refine has_mk T.d_prime_parts sc_prime_parts (fun ds d ⟨p, h, _⟩ => by rw [h]; rfl) fun f cdv A outer s H E hr ds d hG => ?_
  obtain ⟨n, rfl, h0, h1, rfl⟩ := hG
  refine sxs_step [.d (dI n), .own (dIs []), .d (dI 2), .d (dI n)] (fun N hN => sx_par3O 1 2 3 rfl sc_prime_parts.nd (exo_lst ax_nil (by decide)) ex_int (ex_var 0 rfl) (by decide) (by decide) (by decide) hN) ?_
  refine sxs_cons (fun δ' => ∃ q, δ' = [.d (dI n), .own (dIs (partsF (n + 1) [] 2 n).1), .d (dI q), .d (dI (partsF (n + 1) [] 2 n).2)] ∧ (partsF (n + 1) [] 2 n).1.length ≤ 100000) ?_ (fun δ' ⟨q, h, hl⟩ => by
    subst h
    refine sxs_freeze 1 rfl ?_
    refine sxs_last (sx_ret (d := .list (dIs (partsN n))) (ex_if (k := decide (1 < (partsF (n + 1) [] 2 n).2)) (txn_gt (y := 1) (ex_var 3 rfl) ex_int) (fun h => ?_) fun h => ?_) rfl)
    · have h := of_decide_eq_true h
      refine (exo_lst (ax_starL (xs := dIs (partsF (n + 1) [] 2 n).1) (ex_var 1 rfl) (ax_cons (ex_var 3 rfl) ax_nil)) ?_).ex.is ?_
      · rw [List.length_append, List.length_map, sizeLine_eq]
        show _ + 1 ≤ _
        omega
      · unfold partsN
        rw [if_pos h]
        exact congrArg PyData.list (dIs_app _ [(partsF (n + 1) [] 2 n).2]).symm
    · have h := of_decide_eq_false h
      refine (ex_var 1 rfl).is ?_
      unfold partsN
      rw [if_neg h])
  refine sx_while PassesOwn.never (fun m δ' => ∃ f q l, δ' = [.d (dI n), .own (dIs f), .d (dI q), .d (dI l)] ∧ partsF m f q l = partsF (n + 1) [] 2 n ∧ 2 ≤ q ∧ q ≤ n + 2 ∧ 0 < l ∧ l ≤ n ∧ l + 1 ≤ m + q ∧ f.length + 2 ≤ q) (n + 1) ⟨[], 2, n, rfl, rfl, by omega, by omega, by omega, by omega, by omega, by decide⟩ fun m δ' ⟨f, q, l, hδ, hv, hq, hqn, hl0, hln, hm, hf⟩ => ?_
  subst hδ
  refine ⟨decide (q * q ≤ l), txn_le (exn_mul (ex_var 2 rfl) (ex_var 2 rfl) (by omega)) (ex_var 3 rfl), fun hk => ?_, fun hk => ?_⟩
  · have hk := of_decide_eq_true hk
    have hql : q ≤ l := Nat.le_trans (Nat.le_mul_self q) hk
    obtain ⟨m, rfl⟩ : ∃ m', m = m' + 1 := ⟨m - 1, by omega⟩
    rw [partsF_succ m f q l, if_pos hk] at hv
    refine sxs_cons (fun δ' => ∃ f' l', δ' = [.d (dI n), .own (dIs f'), .d (dI q), .d (dI l')] ∧ partsF m f' (q + 1) l' = partsF (n + 1) [] 2 n ∧ 0 < l' ∧ l' ≤ l ∧ f'.length ≤ f.length + 1) ?_ (fun δ' ⟨f', l', h, hv', h0', hl', hf'⟩ => by
      subst h
      exact sxs_last (sx_augI 2 (n := (q : Int)) (m := 1) rfl ex_int ⟨m, by omega, f', q + 1, l', rfl, hv', by omega, by omega, h0', by omega, by omega, by omega⟩ sc_prime_parts.nd))
    refine sx_if (k := decide (l % q = 0)) (txn_eq (y := 0) (exn_mod (ex_var 3 rfl) (ex_var 2 rfl) (by omega)) ex_int) (fun h => ?_) fun h => ?_
    · have h := of_decide_eq_true h
      rw [if_pos h] at hv
      refine sxs_step [.d (dI n), .own (dIs (f ++ [q])), .d (dI q), .d (dI l)] (fun N hN => sx_append 1 rfl (ex_var 2 rfl) (by rw [List.length_map, sizeLine_eq]; omega) (by
        rw [show dIs (f ++ [q]) = dIs f ++ [dI q] from List.map_append ..] at hN
        exact hN)) ?_
      refine sxs_last (sx_while PassesOwn.never (fun j δ' => ∃ l', δ' = [.d (dI n), .own (dIs (f ++ [q])), .d (dI q), .d (dI l')] ∧ divOut j q l' = divOut l q l ∧ 0 < l' ∧ l' ≤ j ∧ l' ≤ l) l ⟨l, rfl, rfl, hl0, Nat.le_refl _, Nat.le_refl _⟩ fun j δ' ⟨l', hδ, hd, h0', hj, hll⟩ => ?_)
      subst hδ
      obtain ⟨j, rfl⟩ : ∃ j', j = j' + 1 := ⟨j - 1, by omega⟩
      rw [divOut_succ j q l'] at hd
      refine ⟨decide (l' % q = 0), txn_eq (y := 0) (exn_mod (ex_var 3 rfl) (ex_var 2 rfl) (by omega)) ex_int, fun h2 => ?_, fun h2 => ?_⟩
      · have h2 := of_decide_eq_true h2
        rw [if_pos h2] at hd
        have hdv : q ∣ l' := Nat.dvd_of_mod_eq_zero h2
        have hpos : 0 < l' / q := Nat.div_pos (Nat.le_of_dvd h0' hdv) (by omega)
        have hlt : l' / q < l' := Nat.div_lt_self h0' (by omega)
        exact sxs_last (sx_set 3 (exn_div (ex_var 3 rfl) (ex_var 2 rfl) (by omega) (by omega)) ⟨j, by omega, l' / q, rfl, hd, hpos, by omega, by omega⟩ sc_prime_parts.nd)
      · have h2 := of_decide_eq_false h2
        rw [if_neg h2] at hd
        subst hd
        exact ⟨f ++ [q], _, rfl, hv, h0', hll, by simp⟩
    · have h := of_decide_eq_false h
      rw [if_neg h] at hv
      exact sxs_nil ⟨f, l, rfl, hv, hl0, Nat.le_refl _, by omega⟩
  · have hk := of_decide_eq_false hk
    have e1 : partsF m f q l = (f, l) := by
      cases m with
      | zero => rfl
      | succ m => unfold partsF; rw [if_neg hk]
    rw [← hv, e1]
    exact ⟨q, rfl, by show f.length ≤ _; omega⟩
def gPrim : List PyData → PyData → Prop := fun ds d => ∃ p g : Nat, ds = [dI p] ∧ 1 < p ∧ p < 100000 ∧ primR p g ∧ d = dI g
theorem has_primitive_by (T : Txt K mg) : Has P w K mg base 2 "primitive_by" P_primitive_by [] gPrim := by
  refine has_mk T.d_primitive_by sc_primitive_by (fun ds d ⟨p, g, h, _⟩ => by rw [h]; rfl) fun f cdv A outer s H E hr ds d hG => ?_
  obtain ⟨p, g, rfl, hp, hp2, ⟨g1, g2, g3, g4, g5, g6⟩, rfl⟩ := hG
  refine sxs_step [.d (dI p), .d (.list (dIs (partsN (p - 1)))), .d (dI 1), .un] (fun N hN => sx_parG 1 2 rfl sc_primitive_by.nd (ex_tup (ax_cons (ex_has (has_prime_parts T) hr (ax_cons (exn_sub (y := 1) (ex_var 0 rfl) ex_int (by omega)) ax_nil) ⟨p - 1, rfl, by omega, by omega, rfl⟩) (ax_cons ex_int ax_nil)) (by show 2 ≤ sizeLine; decide)) hN) ?_
  refine sxs_cons (fun δ' => δ' = [.d (dI p), .d (.list (dIs (partsN (p - 1)))), .d (dI g), .un]) ?_ (fun δ' h => by
    subst h
    exact sxs_last (sx_ret (ex_var 2 rfl) rfl))
  refine sx_while PassesOwn.never (fun m δ' => ∃ h, δ' = [.d (dI p), .d (.list (dIs (partsN (p - 1)))), .d (dI h), .un] ∧ 1 ≤ h ∧ h ≤ g ∧ m = g - h) (g - 1) ⟨1, rfl, by omega, by omega, rfl⟩ fun m δ' ⟨h, hδ, h1, h2, hm⟩ => ?_
  subst hδ
  refine ⟨!good p h, tx_not (tx_val (ex_all rfl (EXo.ex ?_) T.b_all)), fun hk => ?_, fun hk => ?_⟩
  · refine (exo_mapA 3 (xs := partsN (p - 1)) (emb := dI) (fun q => .bool (!decide (powN p h ((p - 1) / q) = 1))) inj_dI rfl sc_primitive_by.nd (ix_seq (ex_var 1 rfl) (.inl rfl)) (by rw [sizeLine_eq]; omega) fun q hq s' H' C cl fp => ?_).is (by rw [List.map_map]; rfl)
    have hq2 := g3 q hq
    exact exn_ne (y := 1) (ex_has (has_power_at T) hr (ax_cons (ex_var 0 rfl) (ax_cons (ex_var 2 rfl) (ax_cons (exn_div (exn_sub (y := 1) (ex_var 0 rfl) ex_int (by omega)) (ex_var 3 rfl) hq2.1 (by omega)) ax_nil))) ⟨p, h, _, rfl, hp, hp2, by omega, rfl⟩) ex_int
  · have hne : h ≠ g := fun e => by
      subst e
      rw [g5] at hk
      exact absurd hk (by decide)
    exact sxs_last (sx_augI 2 (n := (h : Int)) (m := 1) rfl ex_int ⟨g - (h + 1), by omega, h + 1, rfl, by omega, by omega, rfl⟩ sc_primitive_by.nd)
  · have he : h = g := by
      by_cases e : h = g
      · exact e
      · have := g6 h (by omega) h1
        rw [this] at hk
        exact absurd hk (by decide)
    subst he
    rfl
def gNums : List PyData → PyData → Prop := fun ds d => ∃ p wide many g : Nat, ds = [dI p, dI wide, dI many] ∧ 1 < p ∧ p < 100000 ∧ primR p g ∧ 0 < wide ∧ wide ≤ 1000 ∧ many ≤ 1000 ∧ many * wide ≤ 1000 ∧ d = dR (numsN p g wide many)
theorem has_numbers_by (T : Txt K mg) : Has P w K mg base 3 "numbers_by" P_numbers_by [] gNums := by
  refine has_mk T.d_numbers_by sc_numbers_by (fun ds d ⟨p, wide, many, g, h, _⟩ => by rw [h]; rfl) fun f cdv A outer s H E hr ds d hG => ?_
  obtain ⟨p, wide, many, g, rfl, hp, hp2, hg, w0, w1, m1, mw, rfl⟩ := hG
  have hgp : g < p := hg.2.1
  have rp : powN p g ((p - 1) / wide) < p := powN_lt hp
  refine sxs_step [.d (dI p), .d (dI wide), .d (dI many), .d (dI g), .un, .un, .un, .un, .un, .un, .un] (fun N hN => sx_set 3 (ex_has (has_primitive_by T) hr (ax_cons (ex_var 0 rfl) ax_nil) ⟨p, g, rfl, hp, hp2, hg, rfl⟩) hN sc_numbers_by.nd) ?_
  refine sxs_step [.d (dI p), .d (dI wide), .d (dI many), .d (dI g), .d (dI (powN p g ((p - 1) / wide))), .un, .un, .un, .un, .un, .un] (fun N hN => sx_set 4 (ex_has (has_power_at T) hr (ax_cons (ex_var 0 rfl) (ax_cons (ex_var 3 rfl) (ax_cons (exn_div (exn_sub (y := 1) (ex_var 0 rfl) ex_int (by omega)) (ex_var 1 rfl) w0 (by omega)) ax_nil))) ⟨p, g, _, rfl, hp, hp2, hgp, rfl⟩) hN sc_numbers_by.nd) ?_
  generalize hroot : powN p g ((p - 1) / wide) = root at rp
  let tops := (List.range many).map fun j => powN p g j
  let turns := (List.range wide).map fun i => powN p root i
  refine sxs_step [.d (dI p), .d (dI wide), .d (dI many), .d (dI g), .d (dI root), .d (dL tops), .un, .un, .un, .un, .un] (fun N hN => ?_) ?_
  · refine sx_mapA 5 7 (xs := List.range many) (emb := dI) (fun _ => true) (fun j => dI (powN p g j)) inj_dI rfl sc_numbers_by.nd ((rangeD_map many) ▸ ix_range1 (n := many) (ex_var 2 rfl) (by omega) T.b_range) (by rw [List.length_range, sizeLine_eq]; omega) (fun _ _ _ _ _ _ _ => txs_nil) (fun q hq _ s' H' C cl fp => ?_) ?_
    · exact ex_has (has_power_at T) hr (ax_cons (ex_var 0 rfl) (ax_cons (ex_var 3 rfl) (ax_cons (ex_var 7 rfl) ax_nil))) ⟨p, g, _, rfl, hp, hp2, hgp, rfl⟩
    · rw [List.filter_eq_self.mpr fun _ _ => rfl]
      rw [show dL tops = .list ((List.range many).map fun j => dI (powN p g j)) from congrArg PyData.list (by rw [dIs, List.map_map]; rfl)] at hN
      exact hN
  refine sxs_step [.d (dI p), .d (dI wide), .d (dI many), .d (dI g), .d (dI root), .d (dL tops), .d (dL turns), .un, .un, .un, .un] (fun N hN => ?_) ?_
  · refine sx_set 6 ((exo_mapA 8 (xs := List.range wide) (emb := dI) (fun i => dI (powN p root i)) inj_dI rfl sc_numbers_by.nd ((rangeD_map wide) ▸ ix_range1 (n := wide) (ex_var 1 rfl) (by omega) T.b_range) (by rw [List.length_range, sizeLine_eq]; omega) fun q hq s' H' C cl fp => ?_).ex.is (congrArg PyData.list (by rw [dIs, List.map_map]; rfl))) hN sc_numbers_by.nd
    exact ex_has (has_power_at T) hr (ax_cons (ex_var 0 rfl) (ax_cons (ex_var 4 rfl) (ax_cons (ex_var 8 rfl) ax_nil))) ⟨p, root, _, rfl, hp, hp2, rp, rfl⟩
  refine sxs_last (sx_ret (d := dR (numsN p g wide many)) (ex_tupleOf (EXo.ex ?_) (.inl rfl) T.b_tuple) rfl)
  refine (exo_map12A 9 10 (xs := tops) (ys := turns) (emb := dI) (emb1 := dI) (fun t u => dI (t * u % p)) inj_dI inj_dI rfl sc_numbers_by.nd (by decide) (ix_seq (ex_var 5 rfl) (.inl rfl)) ?_ (fun a ha s' H' C cl fp => ix_seq (ex_var 6 rfl) (.inl rfl)) fun t ht u hu s' H' C cl fp => ?_).is ?_
  · rw [List.length_map, List.length_map, List.length_range, List.length_range, sizeLine_eq]
    omega
  · obtain ⟨j, _, rfl⟩ := List.mem_map.mp ht
    have := powN_lt (n := g) (e := j) hp
    exact exn_mod (exn_mul (ex_var 9 rfl) (ex_var 10 rfl) (by omega)) (ex_var 0 rfl) (by omega)
  · unfold numsN
    rw [hroot, dIs, List.flatMap_map, List.map_flatMap]
    congr 1
    funext j
    rw [List.map_map, List.map_map]
    rfl
theorem numsN_len {p g wide many : Nat} : (numsN p g wide many).length = many * wide := by
  unfold numsN
  rw [List.length_flatMap]
  simp only [List.length_map, List.length_range]
  rw [sum_const, List.length_range]
theorem numsN_lt {p g wide many : Nat} (hp : 0 < p) : ∀ x ∈ numsN p g wide many, x < p := by
  intro x hx
  unfold numsN at hx
  obtain ⟨j, _, hx⟩ := List.mem_flatMap.mp hx
  obtain ⟨i, _, rfl⟩ := List.mem_map.mp hx
  exact Nat.mod_lt _ hp
theorem powRows_wf {p : Nat} {ns es : List Nat} (hp : 1 < p) : Wf p (powRows p ns es) ns.length := by
  refine ⟨fun r hr => ?_, fun r hr x hx => ?_⟩
  · obtain ⟨e, _, rfl⟩ := List.mem_map.mp hr
    rw [List.length_map]
  · obtain ⟨e, _, rfl⟩ := List.mem_map.mp hr
    obtain ⟨n, _, rfl⟩ := List.mem_map.mp hx
    exact powN_lt hp
def gPowRows : List PyData → PyData → Prop := fun ds d => ∃ (p : Nat) (ns es : List Nat), ds = [dI p, dR ns, dR es] ∧ 1 < p ∧ p < 100000 ∧ (∀ x ∈ ns, x < p) ∧ ns.length ≤ 1000 ∧ es.length ≤ 1000 ∧ d = .tuple (dRs (powRows p ns es))
theorem has_power_rows (T : Txt K mg) : Has P w K mg base 2 "power_rows" P_power_rows [] gPowRows := by
  refine has_mk T.d_power_rows sc_power_rows (fun ds d ⟨p, ns, es, h, _⟩ => by rw [h]; rfl) fun f cdv A outer s H E hr ds d hG => ?_
  obtain ⟨p, ns, es, rfl, hp, hp2, hlt, l1, l2, rfl⟩ := hG
  refine sxs_last (sx_ret (ex_tupleOf (EXo.ex (ds := dRs (powRows p ns es)) ?_) (.inl rfl) T.b_tuple) rfl)
  refine (exo_mapA 3 (xs := es) (emb := dI) (fun e => dR (ns.map fun n => powN p n e)) inj_dI rfl sc_power_rows.nd (ix_seq (ex_var 2 rfl) (.inr rfl)) (by rw [sizeLine_eq]; omega) fun e he s' H' C cl fp => ?_).is (by unfold powRows; rw [dRs, List.map_map]; rfl)
  refine ex_tupleOf (EXo.ex ?_) (.inl rfl) T.b_tuple
  refine (exo_mapA 4 (xs := ns) (emb := dI) (fun n => dI (powN p n e)) inj_dI rfl sc_power_rows.nd (ix_seq (ex_var 1 rfl) (.inr rfl)) (by rw [sizeLine_eq]; omega) fun n hn s' H' C cl fp => ?_).is (by rw [dIs, List.map_map]; rfl)
  exact ex_has (has_power_at T) hr (ax_cons (ex_var 0 rfl) (ax_cons (ex_var 4 rfl) (ax_cons (ex_var 3 rfl) ax_nil))) ⟨p, n, e, rfl, hp, hp2, hlt n hn, rfl⟩
def gBBP : List PyData → PyData → Prop := fun ds d => ∃ (p : Nat) (ns es : List Nat), ds = [dI p, dR ns, dR es] ∧ 1 < p ∧ p < 100000 ∧ (∀ x ∈ ns, x < p) ∧ ns.length ≤ 1000 ∧ es.length ≤ 1000 ∧ nz (reduced p (powRows p ns es) ns.length) ∧ d = dBk p ns.length (nullN p (powRows p ns es) ns.length)
theorem has_book_by_powers (T : Txt K mg) : Has P w K mg base 6 "book_by_powers" P_book_by_powers [] gBBP := by
  refine has_mk T.d_book_by_powers sc_book_by_powers (fun ds d ⟨p, ns, es, h, _⟩ => by rw [h]; rfl) fun f cdv A outer s H E hr ds d hG => ?_
  obtain ⟨p, ns, es, rfl, hp, hp2, hlt, l1, l2, hnz, rfl⟩ := hG
  refine sxs_last (sx_ret (ex_has (has_book_of_words T) hr (ax_cons (ex_var 0 rfl) (ax_cons ((ex_len (ex_var 1 rfl) (.inr rfl) T.b_len).is (d' := dI ns.length) (by rw [List.length_map])) (ax_cons (ex_has (has_power_rows T) hr (ax_cons (ex_var 0 rfl) (ax_cons (ex_var 1 rfl) (ax_cons (ex_var 2 rfl) ax_nil))) ⟨p, ns, es, rfl, hp, hp2, hlt, l1, l2, rfl⟩) ax_nil))) ⟨p, ns.length, powRows p ns es, _, rfl, .inr rfl, hp, hp2, powRows_wf hp, by unfold powRows; rw [List.length_map]; exact l2, l1, hnz, rfl⟩) rfl)
def gClasses : List PyData → PyData → Prop := fun ds d => ∃ wide many : Nat, ds = [dI wide, dI many] ∧ wide ≤ 100 ∧ many ≤ 100 ∧ d = .tuple (dRs (classesN wide many))
theorem has_classes_by (T : Txt K mg) : Has P w K mg base 1 "classes_by" P_classes_by [] gClasses := by
  refine has_mk T.d_classes_by sc_classes_by (fun ds d ⟨ns, es, h, _⟩ => by rw [h]; rfl) fun f cdv A outer s H E hr ds d hG => ?_
  obtain ⟨wide, many, rfl, h1, h2, rfl⟩ := hG
  refine sxs_last (sx_ret (ex_tupleOf (EXo.ex (ds := dRs (classesN wide many)) ?_) (.inl rfl) T.b_tuple) rfl)
  refine (exo_mapA 2 (xs := List.range many) (emb := dI) (fun j => dR (classRow wide j)) inj_dI rfl sc_classes_by.nd ((rangeD_map many) ▸ ix_range1 (n := many) (ex_var 1 rfl) (by omega) T.b_range) (by rw [List.length_range, sizeLine_eq]; omega) fun j hj s' H' C cl fp => ?_).is (by unfold classesN; rw [dRs, List.map_map]; rfl)
  have hj := List.mem_range.mp hj
  have hjw : j * wide ≤ 100 * 100 := Nat.mul_le_mul (by omega) h1
  refine (ex_tupRange (m := ((j * wide : Nat) : Int)) (n := wide) rfl (exn_mul (ex_var 2 rfl) (ex_var 0 rfl) (by omega)) ((exn_mul (x := j + 1) (exn_add (y := 1) (ex_var 2 rfl) ex_int) (ex_var 0 rfl) (by omega)).is ?_) (by omega) T.b_tuple T.b_range).is ?_
  · show PyData.int _ = _
    congr 1
    rw [Nat.succ_mul]
    omega
  · unfold rangeD classRow
    rw [dR, dIs, List.map_map]
    rfl
theorem part_size {wide step q j i : Nat} (hw : wide = step * q) (hs : 0 < step) (hq : 0 < q) (hi : i < step) : Builtin.Range.rangeSize ((j * wide + i : Nat) : Int) (((j + 1) * wide : Nat) : Int) (step : Int) = (q : Int) := by
  unfold Builtin.Range.rangeSize
  have e1 : (j + 1) * wide = j * wide + step * q := by rw [Nat.succ_mul, ← hw]
  have hsq : step ≤ step * q := Nat.le_mul_of_pos_right step hq
  rw [if_pos (by omega), if_pos (by omega)]
  have e2 : ((((j + 1) * wide : Nat) : Int) - ((j * wide + i : Nat) : Int) - 1) = ((step * q - i - 1 : Nat) : Int) := by omega
  rw [e2]
  have e3 : (step * q - i - 1) / step = q - 1 := by
    obtain ⟨r, rfl⟩ : ∃ r, q = r + 1 := ⟨q - 1, by omega⟩
    have : step * (r + 1) - i - 1 = (step - i - 1) + step * r := by
      rw [Nat.mul_succ] at hsq ⊢
      omega
    rw [this, Nat.add_mul_div_left _ _ hs, Nat.div_eq_of_lt (by omega)]
    omega
  have e4 : ((step * q - i - 1 : Nat) : Int) / (step : Int) = ((q - 1 : Nat) : Int) := by rw [← e3]; exact (Int.natCast_ediv _ _).symm
  rw [e4]
  omega
theorem part_small {a b : Nat} {k q : Nat} (h1 : a < 2 ^ 40) (h2 : b < 2 ^ 40) (h3 : 0 < k) (h4 : k < 2 ^ 20) (h5 : Builtin.Range.rangeSize (a : Int) (b : Int) (k : Int) = (q : Int)) (h6 : q < 2 ^ 20) : Builtin.Range.small (a : Int) (b : Int) (k : Int) = true := by
  unfold Builtin.Range.small
  rw [h5]
  have hk : (k : Int) > 0 := by omega
  simp only [Builtin.Range.rangeFitsLong, Bool.and_eq_true, Bool.or_eq_true, decide_eq_true_eq, beq_iff_eq, if_pos hk]
  omega
def gParted : List PyData → PyData → Prop := fun ds d => ∃ wide many step q : Nat, ds = [dI wide, dI many, dI step] ∧ wide = step * q ∧ 0 < step ∧ 0 < q ∧ wide ≤ 100 ∧ many ≤ 100 ∧ d = .tuple (dRs (partedN wide step q many))
theorem has_parted_classes (T : Txt K mg) : Has P w K mg base 1 "parted_classes" P_parted_classes [] gParted := by
  refine has_mk T.d_parted_classes sc_parted_classes (fun ds d ⟨ns, es, x, y, h, _⟩ => by rw [h]; rfl) fun f cdv A outer s H E hr ds d hG => ?_
  obtain ⟨wide, many, step, q, rfl, hw, s0, q0, h1, h2, rfl⟩ := hG
  have hsw : step ≤ wide := hw ▸ Nat.le_mul_of_pos_right step q0
  have hqw : q ≤ wide := hw ▸ Nat.le_mul_of_pos_left q s0
  refine sxs_step [.d (dI wide), .d (dI many), .d (dI step), .own (dRs []), .un, .un] (fun N hN => sx_setO 3 (exo_lst ax_nil (by decide)) hN sc_parted_classes.nd) ?_
  refine sxs_cons (fun δ' => ∃ s4, δ' = [.d (dI wide), .d (dI many), .d (dI step), .own (dRs (partedN wide step q many)), s4, .un]) ?_ (fun δ' ⟨s4, h⟩ => by
    subst h
    refine sxs_freeze 3 rfl ?_
    exact sxs_last (sx_ret (ex_tupleOf (ex_var 3 rfl) (.inl rfl) T.b_tuple) rfl))
  refine sx_for PassesOwn.never rfl (ix_range1 (n := many) (ex_var 1 rfl) (by omega) T.b_range) (pg1 4 sc_parted_classes.nd) (fun j δ' => ∃ s4, δ' = [.d (dI wide), .d (dI many), .d (dI step), .own (dRs (partedN wide step q j)), s4, .un]) ⟨_, rfl⟩ (fun j x δ' hx ⟨s4, hδ⟩ => ?_) (fun δ' h => by rw [rangeD_len] at h; exact h)
  subst hδ
  obtain ⟨hj, rfl⟩ := range_at hx
  refine ⟨_, rfl, ?_⟩
  have hpl : ∀ j, (partedN wide step q j).length = j * step := fun j => by
    unfold partedN
    rw [List.length_flatMap]
    simp only [List.length_map, List.length_range]
    rw [sum_const, List.length_range]
  have hjs : j * step ≤ 100 * 100 := Nat.mul_le_mul (by omega) (by omega)
  have hjw : j * wide ≤ 100 * 100 := Nat.mul_le_mul (by omega) h1
  have hsucc : partedN wide step q (j + 1) = partedN wide step q j ++ (List.range step).map (partRow wide step q j) := by
    unfold partedN
    rw [List.range_succ, List.flatMap_append]
    simp
  rw [hsucc]
  refine sxs_last (sx_extend 3 (es := dRs ((List.range step).map (partRow wide step q j))) rfl ?_ ?_ ⟨_, by rw [show dRs (partedN wide step q j ++ (List.range step).map (partRow wide step q j)) = dRs (partedN wide step q j) ++ dRs ((List.range step).map (partRow wide step q j)) from List.map_append ..]; rfl⟩)
  · refine (exo_mapA 5 (xs := List.range step) (emb := dI) (fun i => dR (partRow wide step q j i)) inj_dI rfl sc_parted_classes.nd ((rangeD_map step) ▸ ix_range1 (n := step) (ex_var 2 rfl) (by omega) T.b_range) (by rw [List.length_range, sizeLine_eq]; omega) fun i hi s' H' C cl fp => ?_).is (by rw [dRs, List.map_map]; rfl)
    have hi := List.mem_range.mp hi
    have hjw2 : (j + 1) * wide ≤ 100 * 100 := Nat.mul_le_mul (by omega) h1
    have hsz := part_size (j := j) hw s0 q0 hi
    refine (ex_tupRange3 (i := ((j * wide + i : Nat) : Int)) (j := (((j + 1) * wide : Nat) : Int)) (k := (step : Int)) (n := q) rfl (exn_add (exn_mul (ex_var 4 rfl) (ex_var 0 rfl) (by omega)) (ex_var 5 rfl)) (exn_mul (x := j + 1) (exn_add (y := 1) (ex_var 4 rfl) ex_int) (ex_var 0 rfl) (by omega)) (ex_var 2 rfl) (by omega) (part_small (by omega) (by omega) s0 (by omega) hsz (by omega)) hsz (by omega) T.b_tuple T.b_range).is ?_
    unfold stepD partRow
    rw [dR, dIs, List.map_map]
    refine congrArg PyData.tuple (List.map_congr_left fun m _ => ?_)
    show PyData.int _ = PyData.int _
    congr 1
  · rw [List.length_map, List.length_map, List.length_map, List.length_range, hpl, sizeLine_eq]
    try omega
end
end DL
set_option Elab.async false
set_option linter.all false
set_option maxRecDepth 100000
set_option maxHeartbeats 4000000
/-! TX9: nested. -/
namespace DL
open PySem PySem.Spec PyProof.Rows L2 MI
section
variable {P : Program} {w : World} {K : PySem.W.Frag} {mg : Str → Option Value} {base : Heap}
def gExps : List PyData → PyData → Prop := fun ds d => ∃ few wide inner many : Nat, ds = [dI few, dI wide, dI inner, dI many] ∧ 0 < wide ∧ wide ≤ 100 ∧ many ≤ 100 ∧ d = dR (fitN few wide inner many)
theorem has_nested_exponents (T : Txt K mg) : Has P w K mg base 1 "nested_exponents" P_nested_exponents [] gExps := by
  refine has_mk T.d_nested_exponents sc_nested_exponents (fun ds d ⟨ns, es, x, y, h, _⟩ => by rw [h]; rfl) fun f cdv A outer s H E hr ds d hG => ?_
  obtain ⟨few, wide, inner, many, rfl, h0, h1, h2, rfl⟩ := hG
  have hwm : wide * many ≤ 100 * 100 := Nat.mul_le_mul h1 h2
  refine sxs_last (sx_ret (d := dR (fitN few wide inner many)) (ex_tupleOf (EXo.ex ?_) (.inl rfl) T.b_tuple) rfl)
  refine exo_filA 4 (xs := List.range (wide * many)) (emb := dI) (fun e => (!decide (e % (few + 1) = few)) && decide (e % wide < inner)) dI inj_dI rfl sc_nested_exponents.nd ((rangeD_map (wide * many)) ▸ ix_range1 (n := wide * many) (exn_mul (ex_var 1 rfl) (ex_var 3 rfl) (by omega)) (by omega) T.b_range) (by rw [List.length_range, sizeLine_eq]; omega) (fun e he s' H' C cl fp => ?_) (fun e he _ s' H' C cl fp => ex_var 4 rfl)
  exact (wx_and (txn_ne (exn_mod (ex_var 4 rfl) (exn_add (y := 1) (ex_var 0 rfl) ex_int) (by omega)) (ex_var 0 rfl)) fun _ => wx_and1 (txn_lt (exn_mod (ex_var 4 rfl) (ex_var 1 rfl) h0) (ex_var 2 rfl))).tx
def gWNested : List PyData → PyData → Prop := fun ds d => ∃ few wide : Nat, ds = [dI few, dI wide] ∧ 1 ≤ few ∧ 1 ≤ wide ∧ wide % (few + 1) = 0 ∧ d = .none
theorem has_want_nested (T : Txt K mg) : Has P w K mg base 5 "want_nested" P_want_nested [] gWNested := by
  refine has_mk T.d_want_nested sc_want_nested (fun ds d ⟨ns, es, h, _⟩ => by rw [h]; rfl) fun f cdv A outer s H E hr ds d hG => ?_
  obtain ⟨few, wide, rfl, h1, h2, h3, rfl⟩ := hG
  refine sxs_step [.d (dI few), .d (dI wide)] (fun N hN => sx_drop (d := .none) (ex_has (has_want_from T) hr (ax_cons ex_int (ax_cons (ex_var 0 rfl) (ax_cons ex_str ax_nil))) ⟨1, few, _, rfl, h1, rfl⟩) hN) ?_
  refine sxs_last (sx_drop (d := .none) (ex_has (has_want T) hr (ax_cons ((ex_and (k := decide (1 ≤ wide)) (l := decide (wide % (few + 1) = 0)) (ex_has (has_is_from T) hr (ax_cons ex_int (ax_cons (ex_var 1 rfl) ax_nil)) ⟨1, wide, rfl, rfl⟩) fun _ => ex_one (exn_eq (y := 0) (exn_mod (ex_var 1 rfl) (exn_add (y := 1) (ex_var 0 rfl) ex_int) (by omega)) ex_int)).is (by rw [decide_eq_true h2, decide_eq_true h3]; rfl)) (ax_cons ex_str ax_nil)) ⟨_, rfl, rfl⟩) rfl)
def gWInner : List PyData → PyData → Prop := fun ds d => ∃ wide inner : Nat, ds = [dI wide, dI inner] ∧ 1 ≤ inner ∧ inner ≤ wide ∧ d = .none
theorem has_want_inner (T : Txt K mg) : Has P w K mg base 4 "want_inner" P_want_inner [] gWInner := by
  refine has_mk T.d_want_inner sc_want_inner (fun ds d ⟨ns, es, h, _⟩ => by rw [h]; rfl) fun f cdv A outer s H E hr ds d hG => ?_
  obtain ⟨wide, inner, rfl, h1, h2, rfl⟩ := hG
  refine sxs_last (sx_drop (d := .none) (ex_has (has_want T) hr (ax_cons ((ex_and (k := decide (1 ≤ inner)) (l := decide (inner ≤ wide)) (ex_has (has_is_from T) hr (ax_cons ex_int (ax_cons (ex_var 1 rfl) ax_nil)) ⟨1, inner, rfl, rfl⟩) fun _ => ex_one (exn_le (ex_var 1 rfl) (ex_var 0 rfl))).is (by rw [decide_eq_true h1, decide_eq_true h2]; rfl)) (ax_cons ex_str ax_nil)) ⟨_, rfl, rfl⟩) rfl)
def gUsed : List PyData → PyData → Prop := fun ds d => ∃ few wide inner many : Nat, ds = [dI few, dI wide, dI inner, dI many] ∧ 1 ≤ few ∧ 1 ≤ wide ∧ wide % (few + 1) = 0 ∧ 1 ≤ inner ∧ inner ≤ wide ∧ 1 ≤ many ∧ wide ≤ 100 ∧ many ≤ 100 ∧ d = dR (fitN few wide inner many)
theorem has_nested_used (T : Txt K mg) : Has P w K mg base 6 "nested_used" P_nested_used [] gUsed := by
  refine has_mk T.d_nested_used sc_nested_used (fun ds d ⟨ns, es, x, y, h, _⟩ => by rw [h]; rfl) fun f cdv A outer s H E hr ds d hG => ?_
  obtain ⟨few, wide, inner, many, rfl, h1, h2, h3, h4, h5, h6, h7, h8, rfl⟩ := hG
  refine sxs_step [.d (dI few), .d (dI wide), .d (dI inner), .d (dI many)] (fun N hN => sx_drop (d := .none) (ex_has (has_want_nested T) hr (ax_cons (ex_var 0 rfl) (ax_cons (ex_var 1 rfl) ax_nil)) ⟨few, wide, rfl, h1, h2, h3, rfl⟩) hN) ?_
  refine sxs_step [.d (dI few), .d (dI wide), .d (dI inner), .d (dI many)] (fun N hN => sx_drop (d := .none) (ex_has (has_want_inner T) hr (ax_cons (ex_var 1 rfl) (ax_cons (ex_var 2 rfl) ax_nil)) ⟨wide, inner, rfl, h4, h5, rfl⟩) hN) ?_
  refine sxs_step [.d (dI few), .d (dI wide), .d (dI inner), .d (dI many)] (fun N hN => sx_drop (d := .none) (ex_has (has_want_from T) hr (ax_cons ex_int (ax_cons (ex_var 3 rfl) (ax_cons ex_str ax_nil))) ⟨1, many, _, rfl, h6, rfl⟩) hN) ?_
  exact sxs_last (sx_ret (ex_has (has_nested_exponents T) hr (ax_cons (ex_var 0 rfl) (ax_cons (ex_var 1 rfl) (ax_cons (ex_var 2 rfl) (ax_cons (ex_var 3 rfl) ax_nil)))) ⟨few, wide, inner, many, rfl, by omega, h7, h8, rfl⟩) rfl)
def gWWide : List PyData → PyData → Prop := fun ds d => ∃ p few wide : Nat, ds = [dI p, dI few, dI wide] ∧ isP p ∧ 1 ≤ few ∧ 1 ≤ wide ∧ wide % (few + 1) = 0 ∧ (p - 1) % wide = 0 ∧ d = .none
theorem has_want_wide_classes (T : Txt K mg) : Has P w K mg base 6 "want_wide_classes" P_want_wide_classes [] gWWide := by
  refine has_mk T.d_want_wide_classes sc_want_wide_classes (fun ds d ⟨ns, es, x, h, _⟩ => by rw [h]; rfl) fun f cdv A outer s H E hr ds d hG => ?_
  obtain ⟨p, few, wide, rfl, hp, h1, h2, h3, h4, rfl⟩ := hG
  have hp1 := hp.1
  refine sxs_step [.d (dI p), .d (dI few), .d (dI wide)] (fun N hN => sx_drop (d := .none) (ex_has (has_want_prime T) hr (ax_cons (ex_var 0 rfl) ax_nil) ⟨p, rfl, hp, rfl⟩) hN) ?_
  refine sxs_step [.d (dI p), .d (dI few), .d (dI wide)] (fun N hN => sx_drop (d := .none) (ex_has (has_want_nested T) hr (ax_cons (ex_var 1 rfl) (ax_cons (ex_var 2 rfl) ax_nil)) ⟨few, wide, rfl, h1, h2, h3, rfl⟩) hN) ?_
  refine sxs_last (sx_drop (d := .none) (ex_has (has_want T) hr (ax_cons ((exn_eq (y := 0) (exn_mod (exn_sub (y := 1) (ex_var 0 rfl) ex_int (by omega)) (ex_var 2 rfl) (by omega)) ex_int).is (by rw [decide_eq_true h4])) (ax_cons ex_str ax_nil)) ⟨_, rfl, rfl⟩) rfl)
/-- what the law's menu keeps -/
structure Nst (p few wide many : Nat) : Prop where
  pr : isP p
  f1 : 1 ≤ few
  w1 : 1 ≤ wide
  w2 : wide ≤ 100
  m1 : 1 ≤ many
  m2 : many ≤ 100
  wf : wide % (few + 1) = 0
  pw : (p - 1) % wide = 0
  mp : many * wide < p
def gGroups : List PyData → PyData → Prop := fun ds d => ∃ p few wide many : Nat, ds = [dI p, dI few, dI wide, dI many] ∧ Nst p few wide many ∧ d = .tuple [.tuple (dRs (partedN wide (wide / (few + 1)) (few + 1) many)), .tuple (dRs (classesN wide many))]
theorem Nst.step {p few wide many : Nat} (h : Nst p few wide many) : wide = wide / (few + 1) * (few + 1) ∧ 0 < wide / (few + 1) := by
  have e : wide / (few + 1) * (few + 1) = wide := Nat.div_mul_cancel (Nat.dvd_of_mod_eq_zero h.wf)
  refine ⟨e.symm, Nat.pos_of_ne_zero fun z => ?_⟩
  have hw := h.w1
  rw [z, Nat.zero_mul] at e
  omega
theorem has_nested_groups (T : Txt K mg) : Has P w K mg base 7 "nested_groups" P_nested_groups [] gGroups := by
  refine has_mk T.d_nested_groups sc_nested_groups (fun ds d ⟨ns, es, x, y, h, _⟩ => by rw [h]; rfl) fun f cdv A outer s H E hr ds d hG => ?_
  obtain ⟨p, few, wide, many, rfl, hn, rfl⟩ := hG
  obtain ⟨hs1, hs2⟩ := hn.step
  have hf2 : few + 1 ≤ wide := by rw [hs1]; exact Nat.le_mul_of_pos_left _ hs2
  have hw2 := hn.w2
  have hm2 := hn.m2
  refine sxs_step [.d (dI p), .d (dI few), .d (dI wide), .d (dI many)] (fun N hN => sx_drop (d := .none) (ex_has (has_want_wide_classes T) hr (ax_cons (ex_var 0 rfl) (ax_cons (ex_var 1 rfl) (ax_cons (ex_var 2 rfl) ax_nil))) ⟨p, few, wide, rfl, hn.pr, hn.f1, hn.w1, hn.wf, hn.pw, rfl⟩) hN) ?_
  refine sxs_step [.d (dI p), .d (dI few), .d (dI wide), .d (dI many)] (fun N hN => sx_drop (d := .none) (ex_has (has_want_many T) hr (ax_cons (ex_var 0 rfl) (ax_cons (ex_var 2 rfl) (ax_cons (ex_var 3 rfl) ax_nil))) ⟨p, wide, many, rfl, hn.m1, by omega, hn.mp, rfl⟩) hN) ?_
  refine sxs_last (sx_ret (ex_tup (ax_cons ?_ (ax_cons ?_ ax_nil)) (by show 2 ≤ sizeLine; decide)) rfl)
  · exact ex_has (has_parted_classes T) hr (ax_cons (ex_var 2 rfl) (ax_cons (ex_var 3 rfl) (ax_cons (exn_div (ex_var 2 rfl) (exn_add (y := 1) (ex_var 1 rfl) ex_int) (by omega) (by omega)) ax_nil))) ⟨wide, many, _, few + 1, rfl, hs1, hs2, by omega, hw2, hm2, rfl⟩
  · exact ex_has (has_classes_by T) hr (ax_cons (ex_var 2 rfl) (ax_cons (ex_var 3 rfl) ax_nil)) ⟨wide, many, rfl, hw2, hm2, rfl⟩
/-- the book's rows of powers -/
abbrev bandsN (p g few wide inner many told : Nat) : List MI.Row := powRows p (numsN p g wide many) ((fitN few wide inner many).take told)
def gNBook : List PyData → PyData → Prop := fun ds d => ∃ p few wide inner many told g : Nat, ds = [dI p, dI few, dI wide, dI inner, dI many, dI told] ∧ Nst p few wide many ∧ primR p g ∧ 1 ≤ inner ∧ inner ≤ wide ∧ 1 ≤ told ∧ told ≤ (fitN few wide inner many).length ∧ many * wide ≤ 1000 ∧
  nz (reduced p (bandsN p g few wide inner many told) (many * wide)) ∧ d = dBk p (many * wide) (nullN p (bandsN p g few wide inner many told) (many * wide))
theorem has_nested_book (T : Txt K mg) : Has P w K mg base 7 "nested_book" P_nested_book [] gNBook := by
  refine has_mk T.d_nested_book sc_nested_book (fun ds d ⟨ns, es, x, y, z, u, v, h, _⟩ => by rw [h]; rfl) fun f cdv A outer s H E hr ds d hG => ?_
  obtain ⟨p, few, wide, inner, many, told, g, rfl, hn, hg, i1, i2, t1, t2, mw, hnz, rfl⟩ := hG
  have hw2 := hn.w2
  have hm2 := hn.m2
  have hw1 := hn.w1
  have nl := numsN_len (p := p) (g := g) (wide := wide) (many := many)
  have hfl : (fitN few wide inner many).length ≤ 1000 := by
    unfold fitN
    refine Nat.le_trans (List.length_filter_le _ _) ?_
    rw [List.length_range, Nat.mul_comm]
    exact mw
  rw [← nl] at hnz ⊢
  refine sxs_step [.d (dI p), .d (dI few), .d (dI wide), .d (dI inner), .d (dI many), .d (dI told), .un] (fun N hN => sx_drop (d := .none) (ex_has (has_want_wide_classes T) hr (ax_cons (ex_var 0 rfl) (ax_cons (ex_var 1 rfl) (ax_cons (ex_var 2 rfl) ax_nil))) ⟨p, few, wide, rfl, hn.pr, hn.f1, hn.w1, hn.wf, hn.pw, rfl⟩) hN) ?_
  refine sxs_step [.d (dI p), .d (dI few), .d (dI wide), .d (dI inner), .d (dI many), .d (dI told), .un] (fun N hN => sx_drop (d := .none) (ex_has (has_want_inner T) hr (ax_cons (ex_var 2 rfl) (ax_cons (ex_var 3 rfl) ax_nil)) ⟨wide, inner, rfl, i1, i2, rfl⟩) hN) ?_
  refine sxs_step [.d (dI p), .d (dI few), .d (dI wide), .d (dI inner), .d (dI many), .d (dI told), .un] (fun N hN => sx_drop (d := .none) (ex_has (has_want_many T) hr (ax_cons (ex_var 0 rfl) (ax_cons (ex_var 2 rfl) (ax_cons (ex_var 4 rfl) ax_nil))) ⟨p, wide, many, rfl, hn.m1, by omega, hn.mp, rfl⟩) hN) ?_
  refine sxs_step [.d (dI p), .d (dI few), .d (dI wide), .d (dI inner), .d (dI many), .d (dI told), .d (dR (fitN few wide inner many))] (fun N hN => sx_set 6 (ex_has (has_nested_exponents T) hr (ax_cons (ex_var 1 rfl) (ax_cons (ex_var 2 rfl) (ax_cons (ex_var 3 rfl) (ax_cons (ex_var 4 rfl) ax_nil)))) ⟨few, wide, inner, many, rfl, by omega, hw2, hm2, rfl⟩) hN sc_nested_book.nd) ?_
  refine sxs_step [.d (dI p), .d (dI few), .d (dI wide), .d (dI inner), .d (dI many), .d (dI told), .d (dR (fitN few wide inner many))] (fun N hN => sx_drop (d := .none) (ex_has (has_want_told T) hr (ax_cons ((ex_len (ex_var 6 rfl) (.inr rfl) T.b_len).is (d' := dI (fitN few wide inner many).length) (by rw [List.length_map])) (ax_cons (ex_var 5 rfl) ax_nil)) ⟨_, told, rfl, t1, t2, rfl⟩) hN) ?_
  refine sxs_last (sx_ret (ex_has (has_book_by_powers T) hr (ax_cons (ex_var 0 rfl) (ax_cons (ex_has (has_numbers_by T) hr (ax_cons (ex_var 0 rfl) (ax_cons (ex_var 2 rfl) (ax_cons (ex_var 4 rfl) ax_nil))) ⟨p, wide, many, g, rfl, hn.pr.1, hn.pr.2.1, hg, by omega, by omega, by omega, mw, rfl⟩) (ax_cons ((ex_sliceHiT (k := told) (ex_var 6 rfl) (ex_var 5 rfl)).is (d' := dR ((fitN few wide inner many).take told)) (by rw [dR, dIs, dIs, List.map_take])) ax_nil))) ⟨p, _, _, rfl, hn.pr.1, hn.pr.2.1, numsN_lt (by have := hn.pr.1; omega), by rw [nl]; exact mw, Nat.le_trans (List.length_take_le' ..) hfl, hnz, rfl⟩) rfl)
end
end DL
set_option Elab.async false
set_option linter.all false
set_option maxRecDepth 100000
set_option maxHeartbeats 4000000
/-! TX10: the law's own rows. -/
namespace DL
open PySem PySem.Spec PyProof.Rows L2 MI
/-! ### lists that are not empty -/
theorem dIs_lay : ∀ r : List Nat, PyData.canLayAll0 (dIs r) = true
  | [] => by simp [PyData.canLayAll0]
  | x :: r => by
    have := dIs_lay r
    simp only [dIs, List.map_cons, PyData.canLayAll0, PyData.canLay0] at this ⊢
    simpa using this
theorem dIs_depth : ∀ r : List Nat, PyData.depthAll (dIs r) ≤ 1
  | [] => by simp [PyData.depthAll]
  | x :: r => by
    have := dIs_depth r
    simp only [dIs, List.map_cons, PyData.depthAll, PyData.depth] at this ⊢
    omega
def isRw (f : MI.Row → PyData) : Prop := f = dR ∨ f = dL
theorem rws_lay {f : MI.Row → PyData} (hf : isRw f) : ∀ rs : List MI.Row, PyData.canLayAll0 (rs.map f) = true
  | [] => by simp [PyData.canLayAll0]
  | r :: rs => by
    have h1 := rws_lay hf rs
    have h2 := dIs_lay r
    simp only [List.map_cons, PyData.canLayAll0, Bool.and_eq_true]
    refine ⟨?_, h1⟩
    rcases hf with rfl | rfl
    · simpa only [PyData.canLay0] using h2
    · simpa only [PyData.canLay0] using h2
theorem rws_depth {f : MI.Row → PyData} (hf : isRw f) : ∀ rs : List MI.Row, PyData.depthAll (rs.map f) ≤ 3
  | [] => by simp [PyData.depthAll]
  | r :: rs => by
    have h1 := rws_depth hf rs
    have h2 := dIs_depth r
    simp only [List.map_cons, PyData.depthAll]
    rcases hf with rfl | rfl
    · simp only [PyData.depth] at h1 ⊢
      omega
    · simp only [PyData.depth] at h1 ⊢
      omega
theorem rws_shaped {f : MI.Row → PyData} (hf : isRw f) (rs : List MI.Row) : SeqAt.shaped (.list (rs.map f)) = true := by
  have h1 := rws_depth hf rs
  have h2 : PyData.depth (.list (rs.map f)) ≤ 64 := by
    simp only [PyData.depth]
    omega
  show (PyData.canLay0 (.list (rs.map f)) && decide (PyData.depth (.list (rs.map f)) ≤ 64)) = true
  rw [Bool.and_eq_true]
  exact ⟨by simp only [PyData.canLay0]; exact rws_lay hf rs, decide_eq_true h2⟩
theorem eqv_nil (ds : List PyData) : (!PyData.eqv (.list ds) (.list [])) = decide (0 < ds.length) := by
  cases ds with
  | nil => simp [PyData.eqv, PyData.eqvAll]
  | cons x r => simp [PyData.eqv, PyData.eqvAll]
theorem nil_shaped : SeqAt.shaped (.list []) = true := rws_shaped (.inl rfl) []
theorem tx_neNil {X : Cx} {a b : Expr} {δ : List Slot} {pos : Pos} {ds : List PyData} {k : Nat} (hr : Room k X.A) (ha : EX X a δ (.list ds)) (hs : SeqAt.shaped (.list ds) = true) (hb : EX X b δ (.list [])) : TX X (.Compare a [.NotEq] [b] pos) δ (decide (0 < ds.length)) :=
  (tx_neD (by have := hr.un; omega) ha hb hs nil_shaped).is (eqv_nil ds)
theorem isRw.inj {f : MI.Row → PyData} (h : isRw f) : Inj f := by
  rcases h with rfl | rfl
  · exact inj_dR
  · exact inj_dL
theorem isRw.seq {f : MI.Row → PyData} (h : isRw f) (r : MI.Row) : isSeq (f r) (dIs r) := by
  rcases h with rfl | rfl
  · exact .inr rfl
  · exact .inl rfl
abbrev dLs (rows : List MI.Row) : List PyData := rows.map dL
section
variable {P : Program} {w : World} {K : PySem.W.Frag} {mg : Str → Option Value} {base : Heap}
/-! ### powers -/
def gInv : List PyData → PyData → Prop := fun ds d => ∃ p n : Nat, ds = [dI p, dI n] ∧ 1 < p ∧ p < 100000 ∧ n < p ∧ d = dI (powN p n (p - 2))
theorem has_l_inverse (T : Txt K mg) : Has P w K mg base 1 "_law_inverse" P_l_inverse [] gInv := by
  refine has_mk T.d_l_inverse sc_l_inverse (fun ds d ⟨p, n, h, _⟩ => by rw [h]; rfl) fun f cdv A outer s H E hr ds d hG => ?_
  obtain ⟨p, n, rfl, hp, hp2, hn, rfl⟩ := hG
  refine sxs_step [.d (dI p), .d (dI n), .d (dI 1), .d (dI n), .un] (fun N hN => sx_par 2 3 rfl sc_l_inverse.nd ex_int ((exn_mod (ex_intOf (i := (n : Int)) (ex_var 1 rfl) T.b_int) (ex_var 0 rfl) (by omega)).is (by rw [Nat.mod_eq_of_lt hn])) (by decide) hN) ?_
  refine sxs_step [.d (dI p), .d (dI n), .d (dI 1), .d (dI n), .d (dI (p - 2))] (fun N hN => sx_set 4 (exn_sub (y := 2) (ex_var 0 rfl) ex_int (by omega)) hN sc_l_inverse.nd) ?_
  refine sxs_cons (fun δ' => ∃ l e, δ' = [.d (dI p), .d (dI n), .d (dI (powN p n (p - 2))), .d (dI l), .d (dI e)]) ?_ (fun δ' ⟨l, e, h⟩ => by subst h; exact sxs_last (sx_ret (ex_var 2 rfl) rfl))
  refine sx_while PassesOwn.never (fun m δ' => ∃ f l, δ' = [.d (dI p), .d (dI n), .d (dI f), .d (dI l), .d (dI m)] ∧ powF p m f l m = powN p n (p - 2) ∧ f < p ∧ l < p) (p - 2) ⟨1, n, rfl, rfl, hp, hn⟩ fun m δ' ⟨f, l, hδ, hv, hf, hl⟩ => ?_
  subst hδ
  refine ⟨decide (0 < m), txn_gt (y := 0) (ex_var 4 rfl) ex_int, fun hm => ?_, fun hm => ?_⟩
  · have hm0 : 0 < m := of_decide_eq_true hm
    refine sxs_step [.d (dI p), .d (dI n), .d (dI (if m % 2 = 1 then f * l % p else f)), .d (dI l), .d (dI m)] (fun N hN => ?_) ?_
    · refine sx_if (k := decide (m % 2 = 1)) (txn_eq (y := 1) (exn_mod (y := 2) (ex_intOf (i := (m : Int)) (ex_var 4 rfl) T.b_int) ex_int (by decide)) ex_int) (fun h => ?_) fun h => ?_
      · have h1 : m % 2 = 1 := of_decide_eq_true h
        rw [if_pos h1] at hN
        exact sxs_last (sx_set 2 (exn_mod (x := f * l) (ex_intOf (i := ((f * l : Nat) : Int)) (exn_mul (ex_var 2 rfl) (ex_var 3 rfl) (by omega)) T.b_int) (ex_var 0 rfl) (by omega)) hN sc_l_inverse.nd)
      · have h1 : ¬ m % 2 = 1 := of_decide_eq_false h
        rw [if_neg h1] at hN
        exact sxs_nil hN
    refine sxs_last (sx_par 3 4 rfl sc_l_inverse.nd (exn_mod (x := l * l) (ex_intOf (i := ((l * l : Nat) : Int)) (exn_mul (ex_var 3 rfl) (ex_var 3 rfl) (by omega)) T.b_int) (ex_var 0 rfl) (by omega)) (exn_div (y := 2) (ex_var 4 rfl) ex_int (by decide) (by decide)) (by decide) ?_)
    refine ⟨m / 2, by omega, _, _, rfl, ?_, ?_, mulmod_lt (by omega)⟩
    · rw [← hv, powF_go (Nat.le_refl m) hm0]
      exact powF_fuel _ _ _ _ _ (Nat.le_refl _) (by omega)
    · split
      · exact mulmod_lt (by omega)
      · exact hf
  · have hm0 : m = 0 := by
      have := of_decide_eq_false hm
      omega
    subst hm0
    exact ⟨l, 0, by rw [← hv]; rfl⟩
theorem has_l_power (T : Txt K mg) : Has P w K mg base 1 "_law_power" P_l_power [] gPow := by
  refine has_mk T.d_l_power sc_l_power (fun ds d ⟨p, n, e, h, _⟩ => by rw [h]; rfl) fun f cdv A outer s H E hr ds d hG => ?_
  obtain ⟨p, n, e, rfl, hp, hp2, hn, rfl⟩ := hG
  refine sxs_step [.d (dI p), .d (dI n), .d (dI e), .d (dI 1), .d (dI n), .d (dI e)] (fun N hN => sx_par3 3 4 5 rfl sc_l_power.nd ex_int ((exn_mod (ex_intOf (i := (n : Int)) (ex_var 1 rfl) T.b_int) (ex_var 0 rfl) (by omega)).is (by rw [Nat.mod_eq_of_lt hn])) (ex_var 2 rfl) (by decide) (by decide) (by decide) hN) ?_
  refine sxs_cons (fun δ' => ∃ l e', δ' = [.d (dI p), .d (dI n), .d (dI e), .d (dI (powN p n e)), .d (dI l), .d (dI e')]) ?_ (fun δ' ⟨l, e', h⟩ => by
    subst h
    refine sxs_last (sx_ret ((exn_mod (ex_intOf (i := ((powN p n e : Nat) : Int)) (ex_var 3 rfl) T.b_int) (ex_var 0 rfl) (by omega)).is (d' := dI (powN p n e)) ?_) rfl)
    rw [Nat.mod_eq_of_lt (powN_lt hp)])
  refine sx_while PassesOwn.never (fun m δ' => ∃ f l, δ' = [.d (dI p), .d (dI n), .d (dI e), .d (dI f), .d (dI l), .d (dI m)] ∧ powF p m f l m = powN p n e ∧ f < p ∧ l < p) e ⟨1, n, rfl, rfl, hp, hn⟩ fun m δ' ⟨f, l, hδ, hv, hf, hl⟩ => ?_
  subst hδ
  refine ⟨decide (0 < m), txn_gt (y := 0) (ex_var 5 rfl) ex_int, fun hm => ?_, fun hm => ?_⟩
  · have hm0 : 0 < m := of_decide_eq_true hm
    refine sxs_step [.d (dI p), .d (dI n), .d (dI e), .d (dI (if m % 2 = 1 then f * l % p else f)), .d (dI l), .d (dI m)] (fun N hN => ?_) ?_
    · refine sx_if (k := decide (m % 2 = 1)) (txn_eq (y := 1) (exn_mod (y := 2) (ex_intOf (i := (m : Int)) (ex_var 5 rfl) T.b_int) ex_int (by decide)) ex_int) (fun h => ?_) fun h => ?_
      · have h1 : m % 2 = 1 := of_decide_eq_true h
        rw [if_pos h1] at hN
        exact sxs_last (sx_set 3 (exn_mod (x := f * l) (ex_intOf (i := ((f * l : Nat) : Int)) (exn_mul (ex_var 3 rfl) (ex_var 4 rfl) (by omega)) T.b_int) (ex_var 0 rfl) (by omega)) hN sc_l_power.nd)
      · have h1 : ¬ m % 2 = 1 := of_decide_eq_false h
        rw [if_neg h1] at hN
        exact sxs_nil hN
    refine sxs_last (sx_par 4 5 rfl sc_l_power.nd (exn_mod (x := l * l) (ex_intOf (i := ((l * l : Nat) : Int)) (exn_mul (ex_var 4 rfl) (ex_var 4 rfl) (by omega)) T.b_int) (ex_var 0 rfl) (by omega)) (exn_div (y := 2) (ex_var 5 rfl) ex_int (by decide) (by decide)) (by decide) ?_)
    refine ⟨m / 2, by omega, _, _, rfl, ?_, ?_, mulmod_lt (by omega)⟩
    · rw [← hv, powF_go (Nat.le_refl m) hm0]
      exact powF_fuel _ _ _ _ _ (Nat.le_refl _) (by omega)
    · split
      · exact mulmod_lt (by omega)
      · exact hf
  · have hm0 : m = 0 := by
      have := of_decide_eq_false hm
      omega
    subst hm0
    exact ⟨l, 0, by rw [← hv]; rfl⟩
/-! ### rows -/
def gCleared : List PyData → PyData → Prop := fun ds d => ∃ (p : Nat) (row first : MI.Row) (spot : Nat) (dr df : PyData), ds = [dI p, dr, df, dI spot] ∧ isSeq dr (dIs row) ∧ isSeq df (dIs first) ∧ 1 < p ∧ p < 100000 ∧ spot < row.length ∧ row.length = first.length ∧ row.length ≤ 1000 ∧ (∀ x ∈ row, x < p) ∧ d = dL (lessen p row first spot)
theorem has_l_cleared (T : Txt K mg) : Has P w K mg base 1 "_law_cleared" P_l_cleared [] gCleared := by
  refine has_mk T.d_l_cleared sc_l_cleared (fun ds d ⟨p, row, first, spot, _, _, h, _⟩ => by rw [h]; rfl) fun f cdv A outer s H E hr ds d hG => ?_
  obtain ⟨p, row, first, spot, dr, df, rfl, hs1, hs2, hp, hp2, hsp, hl, hl2, hlt, rfl⟩ := hG
  refine sxs_last (sx_ret (d := dL (lessen p row first spot)) (EXo.ex ?_) rfl)
  have hrs := getD_lt (k := spot) (by omega) hlt
  refine (exo_mapA2 4 5 (xs := row.zip first) (emb := fun ab => .tuple [dI ab.1, dI ab.2]) (fun ab => dI (subm p ab.1 (row.getD spot 0) ab.2)) (inj_pair inj_dI inj_dI) (fun _ => rfl) rfl sc_l_cleared.nd (by decide) ((zipD_map row first) ▸ ix_zip (ex_var 1 rfl) hs1 (ex_var 2 rfl) hs2 T.b_zip) (by rw [List.length_zip, sizeLine_eq]; omega) fun ab hab s' H' C cl fp => ?_).is ?_
  · refine (ex_mod (j := (p : Int)) (ex_intOf (ex_sub (ex_var 4 rfl) (ex_mul (rx_at (ex_var 1 rfl) hs1 (ex_var 3 rfl) hsp) (ex_var 5 rfl) (Or.inl ⟨by omega, by omega⟩))) T.b_int) (ex_var 0 rfl) (by omega)).is ?_
    rw [subm_int (by omega)]
  · unfold lessen
    rw [zw_map, dIs, List.map_map]; rfl
def gStairs : List PyData → PyData → Prop := fun ds d => ∃ (p : Nat) (rows : List MI.Row) (wide : Nat) (dr : PyData) (rw : MI.Row → PyData), ds = [dI p, dr, dI wide] ∧ isRw rw ∧ isSeq dr (rows.map rw) ∧ 1 < p ∧ p < 100000 ∧ Wf p rows wide ∧ rows.length ≤ 1000 ∧ wide ≤ 1000 ∧ d = .tuple (dRs (reduced p rows wide))
theorem has_l_stairs (T : Txt K mg) : Has P w K mg base 2 "_law_stairs" P_l_stairs [] gStairs := by
  refine has_mk T.d_l_stairs sc_l_stairs (fun ds d ⟨p, row, wide, dr, _, h, _⟩ => by rw [h]; rfl) fun f cdv A outer s H E hr ds d hG => ?_
  obtain ⟨p, rows, wide, dr, rw0, rfl, hrw, hs, hp, hp2, wf, hl, hw, rfl⟩ := hG
  refine sxs_step [.d (dI p), .d dr, .d (dI wide), .d (.list (dLs [])), .d (.list (dLs rows)), .un, .un, .un, .un, .un, .un] (fun N hN => sx_par 3 4 rfl sc_l_stairs.nd (exo_lst ax_nil (by decide)).ex ?_ (by decide) hN) ?_
  · exact (exo_mapA 9 (xs := rows) (emb := rw0) dL hrw.inj rfl sc_l_stairs.nd (ix_seq (ex_var 1 rfl) hs) (by rw [sizeLine_eq]; omega) fun r hr s' H' C cl fp => (exo_listOf (ex_var 9 rfl) (hrw.seq r) T.b_list).ex).ex
  refine sxs_cons (fun δ' => ∃ s5 s6 s7 s8, δ' = [.d (dI p), .d dr, .d (dI wide), .d (.list (dLs (redTo p rows wide).2)), .d (.list (dLs (redTo p rows wide).1)), s5, s6, s7, s8, .un, .un]) ?_ (fun δ' ⟨s5, s6, s7, s8, h⟩ => by
    subst h
    refine sxs_last (sx_ret (d := .tuple (dRs (reduced p rows wide))) (ex_tupleOf (EXo.ex ?_) (.inl rfl) T.b_tuple) rfl)
    have := (redTo_len (p := p) (rows := rows) wide).2
    refine exo_mapA 9 (xs := (redTo p rows wide).2) (emb := dL) dR inj_dL rfl sc_l_stairs.nd (ix_seq (ex_var 3 rfl) (.inl rfl)) (by rw [sizeLine_eq]; omega) fun r hr s' H' C cl fp => ?_
    exact ex_tupleOf (ex_var 9 rfl) (.inl rfl) T.b_tuple)
  refine sx_for PassesOwn.never rfl (ix_range1 (n := wide) (ex_var 2 rfl) (by omega) T.b_range) (pg1 5 sc_l_stairs.nd) (fun i δ' => ∃ s5 s6 s7 s8, δ' = [.d (dI p), .d dr, .d (dI wide), .d (.list (dLs (redTo p rows i).2)), .d (.list (dLs (redTo p rows i).1)), s5, s6, s7, s8, .un, .un]) ⟨_, _, _, _, rfl⟩ (fun i x δ' hx ⟨s5, s6, s7, s8, hδ⟩ => ?_) (fun δ' h => by rw [rangeD_len] at h; exact h)
  subst hδ
  obtain ⟨hi, rfl⟩ := range_at hx
  refine ⟨_, rfl, ?_⟩
  have wl := redTo_wf (n := i) (by omega : 0 < p) wf
  have ll := redTo_len (p := p) (rows := rows) i
  generalize hst : redTo p rows i = st at wl ll
  have hsucc : redTo p rows (i + 1) = stepR p st i := by rw [redTo_succ, hst]
  rw [hsucc]
  obtain ⟨left, found⟩ := st
  dsimp only at wl ll ⊢
  refine sxs_step [.d (dI p), .d dr, .d (dI wide), .d (.list (dLs found)), .d (.list (dLs left)), .d (dI i), .d (.list (dLs (left.filter fun r => decide (0 < r.getD i 0)))), s7, s8, .un, .un] (fun N hN => ?_) ?_
  · refine sx_mapA 6 9 (xs := left) (emb := dL) (fun r => decide (0 < r.getD i 0)) dL inj_dL rfl sc_l_stairs.nd (ix_seq (ex_var 4 rfl) (.inl rfl)) (by rw [sizeLine_eq]; omega) (fun r hr s' H' C cl fp => txs_one ?_) (fun r hr _ s' H' C cl fp => ex_var 9 rfl) hN
    refine (txn_ne (x := r.getD i 0) (y := 0) (rx_at (ex_var 9 rfl) (.inl rfl) (ex_var 5 rfl) (by rw [wl.1.len r hr]; exact hi)) ex_int).is ?_
    by_cases h : r.getD i 0 = 0
    · rw [decide_eq_true h, decide_eq_false (by omega)]
      rfl
    · rw [decide_eq_false h, decide_eq_true (by omega)]
      rfl
  refine sxs_last (sx_if (k := decide (0 < (dLs (left.filter fun r => decide (0 < r.getD i 0))).length)) (tx_neNil hr (ex_var 6 rfl) (rws_shaped (.inr rfl) _) (exo_lst ax_nil (by decide)).ex) (fun hk => ?_) fun hk => ?_)
  · have hk := of_decide_eq_true hk
    rw [List.length_map] at hk
    cases hf : left.filter (fun r => decide (0 < r.getD i 0)) with
    | nil => rw [hf] at hk; exact absurd hk (by decide)
    | cons r t =>
      have hm : r ∈ left := (List.mem_filter.mp (by rw [hf]; exact List.mem_cons_self ..)).1
      have hrl : r.length = wide := wl.1.len r hm
      have hri : r.getD i 0 < p := getD_lt (by omega) (wl.1.lt r hm)
      have e1 : stepR p (left, found) i = (left.map fun row => lessen p row (led p r i) i, (found.map fun row => lessen p row (led p r i) i) ++ [led p r i]) := stepR_cons (s := (left, found)) hf
      rw [e1]
      dsimp only
      have lless : ∀ q : MI.Row, q.length = wide → (∀ x ∈ q, x < p) → gCleared [dI p, dL q, dL (led p r i), dI i] (dL (lessen p q (led p r i) i)) := fun q h1 h2 =>
        ⟨p, q, led p r i, i, _, _, rfl, .inl rfl, .inl rfl, hp, hp2, by omega, by rw [led_len, hrl, h1], by omega, h2, rfl⟩
      have etop : ∀ {X : Cx} {δ : List Slot} {a : Expr} {pos : Pos} {j : Nat} {pc : Pos}, EX X a δ (.list (dLs (r :: t))) → EX X (.Subscript a (.Constant (.int 0) j pc) pos) δ (dL r) := fun h => ex_at (k := 0) h (.inl rfl) ex_int rfl
      refine sxs_step [.d (dI p), .d dr, .d (dI wide), .d (.list (dLs found)), .d (.list (dLs left)), .d (dI i), .d (.list (dLs (r :: t))), .d (dI (powN p (r.getD i 0) (p - 2))), s8, .un, .un] (fun N hN => sx_set 7 (ex_has (has_l_inverse T) hr (ax_cons (ex_var 0 rfl) (ax_cons (rx_at (etop (ex_var 6 rfl)) (.inl rfl) (ex_var 5 rfl) (by omega)) ax_nil)) ⟨p, _, rfl, hp, hp2, hri, rfl⟩) hN sc_l_stairs.nd) ?_
      refine sxs_step [.d (dI p), .d dr, .d (dI wide), .d (.list (dLs found)), .d (.list (dLs left)), .d (dI i), .d (.list (dLs (r :: t))), .d (dI (powN p (r.getD i 0) (p - 2))), .d (dL (led p r i)), .un, .un] (fun N hN => sx_set 8 ((exo_mapA 10 (xs := r) (emb := dI) (fun a => dI (a * powN p (r.getD i 0) (p - 2) % p)) inj_dI rfl sc_l_stairs.nd (ix_seq (etop (ex_var 6 rfl)) (.inl rfl)) (by rw [sizeLine_eq]; omega) fun a ha s' H' C cl fp => ?_).ex.is (congrArg PyData.list (by unfold led; rw [dIs, List.map_map]; rfl))) hN sc_l_stairs.nd) ?_
      · have := wl.1.lt r hm a ha
        exact exn_mod (x := a * powN p (r.getD i 0) (p - 2)) (ex_intOf (i := ((a * powN p (r.getD i 0) (p - 2) : Nat) : Int)) (exn_mul (ex_var 10 rfl) (ex_var 7 rfl) (by omega)) T.b_int) (ex_var 0 rfl) (by omega)
      refine sxs_step [.d (dI p), .d dr, .d (dI wide), .d (.list (dLs found)), .d (.list (dLs (left.map fun row => lessen p row (led p r i) i))), .d (dI i), .d (.list (dLs (r :: t))), .d (dI (powN p (r.getD i 0) (p - 2))), .d (dL (led p r i)), .un, .un] (fun N hN => ?_) ?_
      · refine sx_mapA 4 9 (xs := left) (emb := dL) (fun _ => true) (fun row => dL (lessen p row (led p r i) i)) inj_dL rfl sc_l_stairs.nd (ix_seq (ex_var 4 rfl) (.inl rfl)) (by rw [sizeLine_eq]; omega) (fun _ _ _ _ _ _ _ => txs_nil) (fun q hq _ s' H' C cl fp => ?_) ?_
        · exact ex_has (has_l_cleared T) hr (ax_cons (ex_var 0 rfl) (ax_cons (ex_var 9 rfl) (ax_cons (ex_var 8 rfl) (ax_cons (ex_var 5 rfl) ax_nil)))) (lless q (wl.1.len q hq) (wl.1.lt q hq))
        · rw [List.filter_eq_self.mpr fun _ _ => rfl]
          rw [show dLs (left.map fun row => lessen p row (led p r i) i) = left.map fun row => dL (lessen p row (led p r i) i) by rw [dLs, List.map_map]; rfl] at hN
          exact hN
      refine sxs_last (sx_set 3 (d := .list (dLs ((found.map fun row => lessen p row (led p r i) i) ++ [led p r i]))) ((exo_cat (es1 := dLs (found.map fun row => lessen p row (led p r i) i)) (es2 := [dL (led p r i)]) ?_ (exo_lst (ax_cons (ex_var 8 rfl) ax_nil) (by show 1 ≤ sizeLine; decide)) ?_).ex.is (congrArg PyData.list (List.map_append (f := dL) (l₁ := found.map fun row => lessen p row (led p r i) i) (l₂ := [led p r i])).symm)) ⟨_, _, _, _, rfl⟩ sc_l_stairs.nd)
      · refine (exo_mapA 9 (xs := found) (emb := dL) (fun row => dL (lessen p row (led p r i) i)) inj_dL rfl sc_l_stairs.nd (ix_seq (ex_var 3 rfl) (.inl rfl)) (by rw [sizeLine_eq]; omega) fun q hq s' H' C cl fp => ?_).is (by rw [dLs, List.map_map]; rfl)
        exact ex_has (has_l_cleared T) hr (ax_cons (ex_var 0 rfl) (ax_cons (ex_var 9 rfl) (ax_cons (ex_var 8 rfl) (ax_cons (ex_var 5 rfl) ax_nil)))) (lless q (wl.2.len q hq) (wl.2.lt q hq))
      · rw [List.length_map, List.length_map, sizeLine_eq]
        show _ + 1 ≤ _
        omega
  · have hk := of_decide_eq_false hk
    rw [List.length_map] at hk
    have hf : left.filter (fun r => decide (0 < r.getD i 0)) = [] := List.eq_nil_of_length_eq_zero (by omega)
    have e1 : stepR p (left, found) i = (left, found) := stepR_nil (s := (left, found)) hf
    rw [e1]
    exact sxs_nil ⟨_, _, _, _, rfl⟩
end
end DL
set_option Elab.async false
set_option linter.all false
set_option maxRecDepth 100000
set_option maxHeartbeats 4000000
/-! TX11: the law's own books. -/
namespace DL
open PySem PySem.Spec PyProof.Rows L2 MI
theorem dIs_cast (r : List Nat) : dIs r = (r.map fun (n : Nat) => (n : Int)).map PyData.int := by
  rw [List.map_map]
  rfl
theorem dIs_len (r : List Nat) : (dIs r).length = r.length := List.length_map ..
theorem dRs_len (r : List MI.Row) : (dRs r).length = r.length := List.length_map ..
theorem fold_swap {α β γ : Type} (g : γ → α × β → γ) : ∀ (xs : List α) (ys : List β) (z : γ), (ys.zip xs).foldl (fun c ba => g c (ba.2, ba.1)) z = (xs.zip ys).foldl g z
  | [], _, _ => by simp
  | _ :: _, [], _ => by simp
  | x :: xs, y :: ys, z => by
    rw [List.zip_cons_cons, List.zip_cons_cons, List.foldl_cons, List.foldl_cons, fold_swap g xs ys]
theorem zip_at {α β : Type} {f : α → PyData} {g : β → PyData} {xs : List α} {ys : List β} {i : Nat} {x : PyData} (h : (zipD (xs.map f) (ys.map g))[i]? = some x) : ∃ a b, (xs.zip ys)[i]? = some (a, b) ∧ x = .tuple [f a, g b] := by
  rw [zipD_map, List.getElem?_map] at h
  cases e : (xs.zip ys)[i]? with
  | none => rw [e] at h; cases h
  | some ab =>
    rw [e] at h
    exact ⟨ab.1, ab.2, rfl, (Option.some.inj h).symm⟩
theorem spots_len {row : MI.Row} {n : Nat} (h : row.length = n) : spotsOf row = (List.range n).filter fun k => decide (0 < row.getD k 0) := by
  unfold spotsOf
  rw [h]
theorem ne0 (x : Nat) : (!decide (x = 0)) = decide (0 < x) := by
  by_cases h : x = 0
  · rw [decide_eq_true h, decide_eq_false (by omega)]
    rfl
  · rw [decide_eq_false h, decide_eq_true (by omega)]
    rfl
theorem freesOf_succ {leads : List Nat} {n : Nat} : freesOf leads (n + 1) = freesOf leads n ++ (if n ∈ leads then [] else [n]) := by
  unfold freesOf
  rw [List.range_succ, List.filter_append]
  congr 1
  by_cases h : n ∈ leads
  · rw [if_pos h]
    simp [h]
  · rw [if_neg h]
    simp [h]
section
variable {P : Program} {w : World} {K : PySem.W.Frag} {mg : Str → Option Value} {base : Heap}
def gAcross : List PyData → PyData → Prop := fun ds d => ∃ (p : Nat) (rows : List MI.Row) (wide : Nat) (dr : PyData) (rw : MI.Row → PyData), ds = [dI p, dr, dI wide] ∧ isRw rw ∧ isSeq dr (rows.map rw) ∧ 1 < p ∧ p < 100000 ∧ Wf p rows wide ∧ rows.length ≤ 1000 ∧ wide ≤ 1000 ∧ nz (reduced p rows wide) ∧ d = .tuple (dRs (nullN p rows wide))
theorem has_l_across (T : Txt K mg) : Has P w K mg base 3 "_law_across" P_l_across [] gAcross := by
  refine has_mk T.d_l_across sc_l_across (fun ds d ⟨p, row, wide, dr, _, h, _⟩ => by rw [h]; rfl) fun f cdv A outer s H E hr ds d hG => ?_
  obtain ⟨p, rows, wide, dr, rw0, rfl, hrw, hs, hp, hp2, wf, hl, hw, hnz, rfl⟩ := hG
  have rwf := reduced_wf (by omega : 0 < p) wf
  have rlen := reduced_len (p := p) (rows := rows) (wide := wide)
  refine sxs_step [.d (dI p), .d dr, .d (dI wide), .d (.tuple (dRs (reduced p rows wide))), .own (dLs []), .un, .un, .un, .un, .un, .un] (fun N hN => sx_parDO 3 4 rfl sc_l_across.nd (ex_has (has_l_stairs T) hr (ax_cons (ex_var 0 rfl) (ax_cons (ex_var 1 rfl) (ax_cons (ex_var 2 rfl) ax_nil))) ⟨p, rows, wide, dr, rw0, rfl, hrw, hs, hp, hp2, wf, hl, hw, rfl⟩) (exo_lst ax_nil (by decide)) (by decide) hN) ?_
  have hnull : nullN p rows wide = reduced p (nullRows p (reduced p rows wide) wide) wide := rfl
  rw [hnull]
  generalize reduced p rows wide = red at rwf rlen hnz
  have nlen : (nullRows p red wide).length ≤ wide := by
    unfold nullRows freesOf
    rw [List.length_map]
    exact Nat.le_trans (List.length_filter_le _ _) (by simp)
  have hled : ∀ l ∈ red.map leadOf, l < wide := fun l hl => by
    obtain ⟨r, hr, rfl⟩ := List.mem_map.mp hl
    have := (leadOf_lt (hnz r hr)).1
    rwa [rwf.len r hr] at this
  -- firsts
  refine sxs_step [.d (dI p), .d dr, .d (dI wide), .d (.tuple (dRs red)), .own (dLs []), .d (dL (red.map leadOf)), .un, .un, .un, .un, .un] (fun N hN => sx_mapA 5 8 (xs := red) (emb := dR) (fun _ => true) (fun r => dI (leadOf r)) inj_dR rfl sc_l_across.nd (ix_seq (ex_var 3 rfl) (.inr rfl)) (by rw [sizeLine_eq]; omega) (fun _ _ _ _ _ _ _ => txs_nil) (fun r hr2 _ s' H' C cl fp => ?_) (by
    rw [List.filter_eq_self.mpr fun _ _ => rfl]
    rw [show dL (red.map leadOf) = .list (red.map fun r => dI (leadOf r)) from congrArg PyData.list (by show (red.map leadOf).map dI = _; rw [List.map_map]; rfl)] at hN
    exact hN)) ?_
  · refine ex_at (k := 0) (ds := (spotsOf r).map dI) (EXo.ex ?_) (.inl rfl) ex_int ?_
    · rw [spots_len (rwf.len r hr2)]
      refine exo_filA 10 (xs := List.range wide) (emb := dI) (fun k => decide (0 < r.getD k 0)) dI inj_dI rfl sc_l_across.nd ((rangeD_map wide) ▸ ix_range1 (n := wide) (ex_var 2 rfl) (by omega) T.b_range) (by rw [List.length_range, sizeLine_eq]; omega) (fun k hk s2 H2 C2 cl2 fp2 => ?_) (fun k hk _ s2 H2 C2 cl2 fp2 => ex_var 10 rfl)
      exact (txn_ne (y := 0) (rx_at (ex_var 8 rfl) (.inr rfl) (ex_var 10 rfl) (by rw [rwf.len r hr2]; exact List.mem_range.mp hk)) ex_int).is (ne0 _)
    · rw [List.getElem?_map]
      have h2 := (leadOf_lt (hnz r hr2)).2
      unfold leadOf
      cases e : spotsOf r with
      | nil => exact absurd e h2
      | cons x t => rfl
  -- the frees
  let ld := red.map leadOf
  let bd := fun i => (freesOf ld i).map (kept p red ld wide)
  refine sxs_cons (fun δ' => ∃ s6 s7 s8 s9, δ' = [.d (dI p), .d dr, .d (dI wide), .d (.tuple (dRs red)), .own (dLs (nullRows p red wide)), .d (dL ld), s6, s7, s8, s9, .un]) ?_ (fun δ' ⟨s6, s7, s8, s9, h⟩ => by
    subst h
    refine sxs_freeze 4 rfl ?_
    exact sxs_last (sx_ret (ex_has (has_l_stairs T) hr (ax_cons (ex_var 0 rfl) (ax_cons (ex_var 4 rfl) (ax_cons (ex_var 2 rfl) ax_nil))) ⟨p, nullRows p red wide, wide, _, dL, rfl, .inr rfl, .inl rfl, hp, hp2, nullRows_wf hp, by omega, hw, rfl⟩) rfl))
  refine sx_for PassesOwn.never rfl (ix_range1 (n := wide) (ex_var 2 rfl) (by omega) T.b_range) (pg1 6 sc_l_across.nd) (fun i δ' => ∃ s6 s7 s8 s9, δ' = [.d (dI p), .d dr, .d (dI wide), .d (.tuple (dRs red)), .own (dLs (bd i)), .d (dL ld), s6, s7, s8, s9, .un]) ⟨_, _, _, _, rfl⟩ (fun i x δ' hx ⟨s6, s7, s8, s9, hδ⟩ => ?_) (fun δ' h => by rw [rangeD_len] at h; exact h)
  subst hδ
  obtain ⟨hi, rfl⟩ := range_at hx
  refine ⟨_, rfl, ?_⟩
  have hbd : bd (i + 1) = bd i ++ (if i ∈ ld then [] else [kept p red ld wide i]) := by
    show (freesOf ld (i + 1)).map _ = _
    rw [freesOf_succ, List.map_append]
    congr 1
    split <;> rfl
  have hbl : (bd i).length ≤ wide := by
    show ((freesOf ld i).map _).length ≤ _
    rw [List.length_map]
    unfold freesOf
    exact Nat.le_trans (List.length_filter_le _ _) (by simp; omega)
  refine sxs_last (sx_if (k := decide (i ∉ ld)) ?_ (fun hk => ?_) fun hk => ?_)
  · refine (tx_notInL (ns := ld.map fun (n : Nat) => (n : Int)) (ex_var 6 rfl) ((ex_var 5 rfl).is (congrArg PyData.list (dIs_cast ld)))).is ?_
    by_cases h : i ∈ ld
    · rw [decide_eq_true (List.mem_map.mpr ⟨i, h, rfl⟩), decide_eq_false (fun z => z h)]
      rfl
    · rw [decide_eq_false (fun z => by
        obtain ⟨j, hj, e⟩ := List.mem_map.mp z
        exact h (by have : j = i := by omega
                    rw [← this]; exact hj)), decide_eq_true h]
      rfl
  · have hk := of_decide_eq_true hk
    rw [hbd, if_neg hk]
    have k0len : (kept0 wide i).length = wide := by simp [kept0]
    refine sxs_step [.d (dI p), .d dr, .d (dI wide), .d (.tuple (dRs red)), .own (dLs (bd i)), .d (dL ld), .d (dI i), .own (dIs (kept0 wide i)), s8, s9, .un] (fun N hN => ?_) ?_
    · refine sx_mapAO 7 10 (xs := List.range wide) (emb := dI) (fun _ => true) (fun k => dI (if k = i then 1 else 0)) inj_dI rfl sc_l_across.nd ((rangeD_map wide) ▸ ix_range1 (n := wide) (ex_var 2 rfl) (by omega) T.b_range) (by rw [List.length_range, sizeLine_eq]; omega) (fun _ _ _ _ _ _ _ => txs_nil) (fun q hq _ s' H' C cl fp => ?_) ?_
      · refine ex_if (k := decide (q = i)) (txn_eq (ex_var 10 rfl) (ex_var 6 rfl)) (fun h => ?_) fun h => ?_
        · rw [if_pos (of_decide_eq_true h)]
          exact ex_int
        · rw [if_neg (of_decide_eq_false h)]
          exact ex_int
      · rw [List.filter_eq_self.mpr fun _ _ => rfl]
        have e0 : dIs (kept0 wide i) = (List.range wide).map fun k => dI (if k = i then 1 else 0) := by
          rw [kept0, dIs, List.map_map]
          rfl
        rw [e0] at hN
        exact hN
    let g := fun (f : MI.Row) (br : MI.Row × Nat) => f.set br.2 (negm p (br.1.getD i 0))
    let st := fun j => ((red.zip ld).take j).foldl g (kept0 wide i)
    have hst0 : (red.zip ld).foldl g (kept0 wide i) = kept p red ld wide i := fold_swap (fun (f : MI.Row) (lr : Nat × MI.Row) => f.set lr.1 (negm p (lr.2.getD i 0))) ld red (kept0 wide i)
    refine sxs_cons (fun δ' => ∃ s8 s9, δ' = [.d (dI p), .d dr, .d (dI wide), .d (.tuple (dRs red)), .own (dLs (bd i)), .d (dL ld), .d (dI i), .own (dIs (kept p red ld wide i)), s8, s9, .un]) ?_ (fun δ' ⟨s8, s9, h⟩ => by
      subst h
      refine sxs_freeze 7 rfl ?_
      refine sxs_last (sx_append 4 rfl (ex_var 7 rfl) (by rw [List.length_map, sizeLine_eq]; omega) ⟨.d (dI i), .d (dL (kept p red ld wide i)), s8, s9, ?_⟩)
      rw [show dLs (bd i ++ [kept p red ld wide i]) = dLs (bd i) ++ [dL (kept p red ld wide i)] from List.map_append ..]
      rfl)
    refine sx_for PassesOwn.never rfl (ix_zip (ex_var 3 rfl) (.inr rfl) (ex_var 5 rfl) (.inl rfl) T.b_zip) (pg2 8 9 rfl sc_l_across.nd) (fun j δ' => ∃ s8 s9, δ' = [.d (dI p), .d dr, .d (dI wide), .d (.tuple (dRs red)), .own (dLs (bd i)), .d (dL ld), .d (dI i), .own (dIs (st j)), s8, s9, .un]) ⟨_, _, rfl⟩ (fun j x δ' hx ⟨s8, s9, hδ⟩ => ?_) (fun δ' ⟨s8, s9, h⟩ => ⟨s8, s9, by
      rw [h]
      have : st (zipD (dRs red) (dIs ld)).length = kept p red ld wide i := by
        rw [← hst0]
        show ((red.zip ld).take _).foldl g _ = _
        rw [List.take_of_length_le (by rw [zipD_len, List.length_zip, dIs_len, dRs_len]; exact Nat.le_refl _)]
      rw [this]⟩)
    subst hδ
    obtain ⟨r, l, e, rfl⟩ := zip_at hx
    have hm := List.mem_of_getElem? e
    have hl1 : l < wide := hled l (List.of_mem_zip hm).2
    have hr1 : r ∈ red := (List.of_mem_zip hm).1
    have hst : st (j + 1) = (st j).set l (negm p (r.getD i 0)) := fold_take_succ g _ _ e
    have hsl : (st j).length = wide := by
      have : ∀ (xs : List (MI.Row × Nat)) (z : MI.Row), (xs.foldl g z).length = z.length := by
        intro xs
        induction xs with
        | nil => intro z; rfl
        | cons x t ih => intro z; rw [List.foldl_cons, ih]; simp [g]
      show (List.foldl g (kept0 wide i) ((red.zip ld).take j)).length = _
      rw [this, k0len]
    refine ⟨_, ⟨_, _, rfl, rfl⟩, ?_⟩
    refine sxs_last (sx_setItem 7 (d := dI (negm p (r.getD i 0))) (j := l) rfl ?_ (ex_var 9 rfl) (by rw [dIs, List.length_map, hsl]; exact hl1) ⟨_, _, by rw [hst, show dIs ((st j).set l (negm p (r.getD i 0))) = (dIs (st j)).set l (dI (negm p (r.getD i 0))) from List.map_set ..]; rfl⟩)
    refine (ex_mod (j := (p : Int)) (ex_intOf (ex_sub (i := 0) ex_int (rx_at (ex_var 8 rfl) (.inr rfl) (ex_var 6 rfl) (by rw [rwf.len r hr1]; exact hi))) T.b_int) (ex_var 0 rfl) (by omega)).is ?_
    rw [Int.zero_sub, negm_int (by omega)]
  · have hk := of_decide_eq_false hk
    rw [hbd, if_pos (Decidable.not_not.mp hk), List.append_nil]
    exact sxs_nil ⟨_, _, _, _, rfl⟩
/-! ### the first number of the full round -/
def ordF (p h : Nat) : Nat → Nat → Nat → Nat
  | 0, _, m => m
  | k + 1, x, m => if x = 1 then m else ordF p h k (x * h % p) (m + 1)
theorem ordF_succ (p h k x m : Nat) : ordF p h (k + 1) x m = if x = 1 then m else ordF p h k (x * h % p) (m + 1) := rfl
def ordN (p h : Nat) : Nat := ordF p h p (h % p) 1
def primO (p g : Nat) : Prop := 1 ≤ g ∧ g < p ∧ ordN p g = p - 1 ∧ ∀ h, h < g → 1 ≤ h → ordN p h ≠ p - 1
def gPrimO : List PyData → PyData → Prop := fun ds d => ∃ p g : Nat, ds = [dI p] ∧ 1 < p ∧ p < 100000 ∧ primO p g ∧ d = dI g
theorem has_l_primitive (T : Txt K mg) : Has P w K mg base 1 "_law_primitive" P_l_primitive [] gPrimO := by
  refine has_mk T.d_l_primitive sc_l_primitive (fun ds d ⟨p, g, h, _⟩ => by rw [h]; rfl) fun f cdv A outer s H E hr ds d hG => ?_
  obtain ⟨p, g, rfl, hp, hp2, ⟨g1, g2, g3, g4⟩, rfl⟩ := hG
  refine sxs_cons (fun _ => False) ?_ (fun _ z => z.elim)
  refine sx_for PassesOwn.never rfl (ix_range2 (m := 1) (n := p - 1) ex_int ((ex_var 0 rfl).is (by show PyData.int _ = _; congr 1; omega)) (by omega) T.b_range) (pg1 1 sc_l_primitive.nd) (fun i δ' => i + 1 ≤ g ∧ ∃ s1 s2 s3 s4, δ' = [.d (dI p), s1, s2, s3, s4]) ⟨g1, _, _, _, _, rfl⟩ (fun i x δ' hx ⟨hig, s1, s2, s3, s4, hδ⟩ => ?_) (fun δ' ⟨h, _⟩ => by rw [rangeD_len] at h; omega)
  subst hδ
  obtain ⟨hi, rfl⟩ : i < p - 1 ∧ x = dI (i + 1) := by
    unfold rangeD at hx
    rw [List.getElem?_map] at hx
    cases e : (List.range (p - 1))[i]? with
    | none => rw [e] at hx; cases hx
    | some k =>
      rw [e] at hx
      obtain ⟨h1, h2⟩ := List.getElem?_eq_some_iff.mp e
      rw [List.getElem_range] at h2
      subst h2
      refine ⟨by simpa using h1, (Option.some.inj hx).symm.trans ?_⟩
      show PyData.int _ = PyData.int _
      congr 1
      omega
  refine ⟨_, rfl, ?_⟩
  have hip : (i + 1) % p < p := Nat.mod_lt _ (by omega)
  refine sxs_step [.d (dI p), .d (dI (i + 1)), .d (dI ((i + 1) % p)), .d (dI 1), s4] (fun N hN => sx_par 2 3 rfl sc_l_primitive.nd (exn_mod (x := i + 1) (ex_intOf (i := ((i + 1 : Nat) : Int)) (ex_var 1 rfl) T.b_int) (ex_var 0 rfl) (by omega)) ex_int (by decide) hN) ?_
  refine sxs_cons (fun δ' => ∃ s2 s4, δ' = [.d (dI p), .d (dI (i + 1)), s2, .d (dI (ordN p (i + 1))), s4]) ?_ (fun δ' ⟨s2, s4, h⟩ => by
    subst h
    refine sxs_last (sx_if (k := decide (ordN p (i + 1) = p - 1)) (txn_eq (ex_var 3 rfl) (exn_sub (y := 1) (ex_var 0 rfl) ex_int (by omega))) (fun hk => ?_) fun hk => ?_)
    · have hk := of_decide_eq_true hk
      have he : i + 1 = g := by
        by_cases e : i + 1 = g
        · exact e
        · exact absurd hk (g4 (i + 1) (by omega) (by omega))
      refine sxs_last (sx_ret (ex_var 1 rfl) ?_)
      show dI (i + 1) = dI g
      rw [he]
    · have hk := of_decide_eq_false hk
      refine sxs_nil ⟨?_, _, _, _, _, rfl⟩
      have : i + 1 ≠ g := fun e => by
        rw [e] at hk
        exact hk g3
      omega)
  refine sx_for PassesOwn.never rfl (ix_range1 (n := p) (ex_var 0 rfl) (by omega) T.b_range) (pg1 4 sc_l_primitive.nd) (fun j δ' => ∃ x m s4, δ' = [.d (dI p), .d (dI (i + 1)), .d (dI x), .d (dI m), s4] ∧ x < p ∧ ordF p (i + 1) (p - j) x m = ordN p (i + 1)) ⟨_, _, _, rfl, hip, rfl⟩ (fun j x δ' hx ⟨y, m, s4, hδ, hy, hv⟩ => ?_) (fun δ' ⟨y, m, s4, hδ, hy, hv⟩ => ?_)
  · subst hδ
    obtain ⟨hj, rfl⟩ := range_at hx
    refine ⟨_, rfl, ?_⟩
    obtain ⟨k, hk⟩ : ∃ k, p - j = k + 1 := ⟨p - j - 1, by omega⟩
    rw [hk, ordF_succ] at hv
    refine sxs_cons (fun δ' => y ≠ 1 ∧ δ' = [.d (dI p), .d (dI (i + 1)), .d (dI y), .d (dI m), .d (dI j)]) ?_ (fun δ' ⟨hy1, h⟩ => by
      subst h
      rw [if_neg hy1] at hv
      refine sxs_last (sx_par 2 3 rfl sc_l_primitive.nd (exn_mod (x := y * (i + 1)) (ex_intOf (i := ((y * (i + 1) : Nat) : Int)) (exn_mul (ex_var 2 rfl) (ex_var 1 rfl) (by omega)) T.b_int) (ex_var 0 rfl) (by omega)) (exn_add (y := 1) (ex_var 3 rfl) ex_int) (by decide) ⟨_, _, _, rfl, Nat.mod_lt _ (by omega), ?_⟩)
      rw [show p - (j + 1) = k by omega]
      exact hv)
    refine sx_if (k := decide (y = 1)) (txn_eq (y := 1) (ex_var 2 rfl) ex_int) (fun h => ?_) fun h => ?_
    · have h := of_decide_eq_true h
      rw [if_pos h] at hv
      refine sxs_last (sx_break ⟨.d (dI y), .d (dI j), ?_⟩)
      rw [← hv]
      rfl
    · exact sxs_nil ⟨of_decide_eq_false h, rfl⟩
  · rw [rangeD_len, Nat.sub_self] at hv
    have hv : m = ordN p (i + 1) := hv
    rw [← hv]
    exact ⟨_, _, hδ⟩
/-! ### numbers, powers, books, ranks -/
def gNumsL : List PyData → PyData → Prop := fun ds d => ∃ p wide many g : Nat, ds = [dI p, dI wide, dI many] ∧ 1 < p ∧ p < 100000 ∧ primO p g ∧ 0 < wide ∧ wide ≤ 1000 ∧ many ≤ 1000 ∧ many * wide ≤ 1000 ∧ d = dR (numsN p g wide many)
theorem has_l_numbers (T : Txt K mg) : Has P w K mg base 2 "_law_numbers" P_l_numbers [] gNumsL := by
  refine has_mk T.d_l_numbers sc_l_numbers (fun ds d ⟨p, wide, many, g, h, _⟩ => by rw [h]; rfl) fun f cdv A outer s H E hr ds d hG => ?_
  obtain ⟨p, wide, many, g, rfl, hp, hp2, hg, w0, w1, m1, mw, rfl⟩ := hG
  have hgp : g < p := hg.2.1
  refine sxs_step [.d (dI p), .d (dI wide), .d (dI many), .d (dI g), .own (dIs []), .un, .un, .un, .un] (fun N hN => sx_parDO 3 4 rfl sc_l_numbers.nd (ex_has (has_l_primitive T) hr (ax_cons (ex_var 0 rfl) ax_nil) ⟨p, g, rfl, hp, hp2, hg, rfl⟩) (exo_lst ax_nil (by decide)) (by decide) hN) ?_
  have rp : powN p g ((p - 1) / wide) < p := powN_lt hp
  refine sxs_step [.d (dI p), .d (dI wide), .d (dI many), .d (dI g), .own (dIs []), .d (dI (powN p g ((p - 1) / wide))), .un, .un, .un] (fun N hN => sx_set 5 (ex_has (has_l_power T) hr (ax_cons (ex_var 0 rfl) (ax_cons (ex_var 3 rfl) (ax_cons (exn_div (exn_sub (y := 1) (ex_var 0 rfl) ex_int (by omega)) (ex_var 1 rfl) w0 (by omega)) ax_nil))) ⟨p, g, _, rfl, hp, hp2, hgp, rfl⟩) hN sc_l_numbers.nd) ?_
  have hroot : ∀ j, numsN p g wide j = (List.range j).flatMap fun j => (List.range wide).map fun i => powN p g j * powN p (powN p g ((p - 1) / wide)) i % p := fun j => rfl
  generalize powN p g ((p - 1) / wide) = root at rp hroot
  refine sxs_cons (fun δ' => ∃ s6 s7, δ' = [.d (dI p), .d (dI wide), .d (dI many), .d (dI g), .own (dIs (numsN p g wide many)), .d (dI root), s6, s7, .un]) ?_ (fun δ' ⟨s6, s7, h⟩ => by
    subst h
    refine sxs_freeze 4 rfl ?_
    exact sxs_last (sx_ret (ex_tupleOf (ex_var 4 rfl) (.inl rfl) T.b_tuple) rfl))
  refine sx_for PassesOwn.never rfl (ix_range1 (n := many) (ex_var 2 rfl) (by omega) T.b_range) (pg1 6 sc_l_numbers.nd) (fun i δ' => ∃ s6 s7, δ' = [.d (dI p), .d (dI wide), .d (dI many), .d (dI g), .own (dIs (numsN p g wide i)), .d (dI root), s6, s7, .un]) ⟨_, _, rfl⟩ (fun i x δ' hx ⟨s6, s7, hδ⟩ => ?_) (fun δ' h => by rw [rangeD_len] at h; exact h)
  subst hδ
  obtain ⟨hi, rfl⟩ := range_at hx
  refine ⟨_, rfl, ?_⟩
  have hsucc : numsN p g wide (i + 1) = numsN p g wide i ++ (List.range wide).map fun k => powN p g i * powN p root k % p := by
    rw [hroot, hroot, List.range_succ, List.flatMap_append]
    simp
  have hiw : i * wide ≤ 1000 := Nat.le_trans (Nat.mul_le_mul_right wide (by omega)) mw
  rw [hsucc]
  refine sxs_step [.d (dI p), .d (dI wide), .d (dI many), .d (dI g), .own (dIs (numsN p g wide i)), .d (dI root), .d (dI i), .d (dI (powN p g i)), .un] (fun N hN => sx_set 7 (ex_has (has_l_power T) hr (ax_cons (ex_var 0 rfl) (ax_cons (ex_var 3 rfl) (ax_cons (ex_var 6 rfl) ax_nil))) ⟨p, g, _, rfl, hp, hp2, hgp, rfl⟩) hN sc_l_numbers.nd) ?_
  refine sxs_last (sx_extend 4 (es := dIs ((List.range wide).map fun k => powN p g i * powN p root k % p)) rfl ?_ ?_ ⟨_, _, by rw [dIs_app]; rfl⟩)
  · refine (exo_mapA 8 (xs := List.range wide) (emb := dI) (fun k => dI (powN p g i * powN p root k % p)) inj_dI rfl sc_l_numbers.nd ((rangeD_map wide) ▸ ix_range1 (n := wide) (ex_var 1 rfl) (by omega) T.b_range) (by rw [List.length_range, sizeLine_eq]; omega) fun k hk s' H' C cl fp => ?_).is (by rw [dIs, List.map_map]; rfl)
    have := powN_lt (n := g) (e := i) hp
    exact exn_mod (x := powN p g i * powN p root k) (ex_intOf (i := ((powN p g i * powN p root k : Nat) : Int)) (exn_mul (ex_var 7 rfl) (ex_has (has_l_power T) hr (ax_cons (ex_var 0 rfl) (ax_cons (ex_var 5 rfl) (ax_cons (ex_var 8 rfl) ax_nil))) ⟨p, root, _, rfl, hp, hp2, rp, rfl⟩) (by omega)) T.b_int) (ex_var 0 rfl) (by omega)
  · rw [List.length_map, List.length_map, numsN_len, List.length_map, List.length_range, sizeLine_eq]
    omega
def gWorths : List PyData → PyData → Prop := fun ds d => ∃ (p : Nat) (ns es : List Nat) (de : PyData), ds = [dI p, dR ns, de] ∧ isSeq de (dIs es) ∧ 1 < p ∧ p < 100000 ∧ (∀ x ∈ ns, x < p) ∧ ns.length ≤ 1000 ∧ es.length ≤ 1000 ∧ d = .list (dRs (powRows p ns es))
theorem has_l_worths (T : Txt K mg) : Has P w K mg base 2 "_law_worths" P_l_worths [] gWorths := by
  refine has_mk T.d_l_worths sc_l_worths (fun ds d ⟨p, ns, es, _, h, _⟩ => by rw [h]; rfl) fun f cdv A outer s H E hr ds d hG => ?_
  obtain ⟨p, ns, es, de, rfl, hde, hp, hp2, hlt, l1, l2, rfl⟩ := hG
  refine sxs_last (sx_ret (d := .list (dRs (powRows p ns es))) (EXo.ex ?_) rfl)
  refine (exo_mapA 3 (xs := es) (emb := dI) (fun e => dR (ns.map fun n => powN p n e)) inj_dI rfl sc_l_worths.nd (ix_seq (ex_var 2 rfl) hde) (by rw [sizeLine_eq]; omega) fun e he s' H' C cl fp => ?_).is (by unfold powRows; rw [dRs, List.map_map]; rfl)
  refine ex_tupleOf (EXo.ex ?_) (.inl rfl) T.b_tuple
  refine (exo_mapA 4 (xs := ns) (emb := dI) (fun n => dI (powN p n e)) inj_dI rfl sc_l_worths.nd (ix_seq (ex_var 1 rfl) (.inr rfl)) (by rw [sizeLine_eq]; omega) fun n hn s' H' C cl fp => ?_).is (by rw [dIs, List.map_map]; rfl)
  exact ex_has (has_l_power T) hr (ax_cons (ex_var 0 rfl) (ax_cons (ex_var 4 rfl) (ax_cons (ex_var 3 rfl) ax_nil))) ⟨p, n, e, rfl, hp, hp2, hlt n hn, rfl⟩
def gMade : List PyData → PyData → Prop := fun ds d => ∃ (p : Nat) (ns es : List Nat) (de : PyData), ds = [dI p, dR ns, de] ∧ isSeq de (dIs es) ∧ 1 < p ∧ p < 100000 ∧ (∀ x ∈ ns, x < p) ∧ ns.length ≤ 1000 ∧ es.length ≤ 1000 ∧ nz (reduced p (powRows p ns es) ns.length) ∧ d = dBk p ns.length (nullN p (powRows p ns es) ns.length)
theorem has_l_made (T : Txt K mg) : Has P w K mg base 4 "_law_made" P_l_made [] gMade := by
  refine has_mk T.d_l_made sc_l_made (fun ds d ⟨p, ns, es, _, h, _⟩ => by rw [h]; rfl) fun f cdv A outer s H E hr ds d hG => ?_
  obtain ⟨p, ns, es, de, rfl, hde, hp, hp2, hlt, l1, l2, hnz, rfl⟩ := hG
  refine sxs_step [.d (dI p), .d (dR ns), .d de, .d (dI ns.length)] (fun N hN => sx_set 3 ((ex_len (ex_var 1 rfl) (.inr rfl) T.b_len).is (d' := dI ns.length) (by rw [List.length_map])) hN sc_l_made.nd) ?_
  refine sxs_last (sx_ret (ex_tup (ax_cons (ex_var 0 rfl) (ax_cons (ex_var 3 rfl) (ax_cons ?_ ax_nil))) (by show 3 ≤ sizeLine; decide)) rfl)
  exact ex_has (has_l_across T) hr (ax_cons (ex_var 0 rfl) (ax_cons (ex_has (has_l_worths T) hr (ax_cons (ex_var 0 rfl) (ax_cons (ex_var 1 rfl) (ax_cons (ex_var 2 rfl) ax_nil))) ⟨p, ns, es, de, rfl, hde, hp, hp2, hlt, l1, l2, rfl⟩) (ax_cons (ex_var 3 rfl) ax_nil))) ⟨p, powRows p ns es, ns.length, _, dR, rfl, .inl rfl, .inl rfl, hp, hp2, powRows_wf hp, by unfold powRows; rw [List.length_map]; exact l2, l1, hnz, rfl⟩
def gRankL : List PyData → PyData → Prop := fun ds d => ∃ (p n : Nat) (rows : List MI.Row) (lot : List Nat) (dl : PyData), ds = [dI p, .list (dRs rows), dl] ∧ isSeq dl (dIs lot) ∧ 1 < p ∧ p < 100000 ∧ Wf p rows n ∧ rows.length ≤ 1000 ∧ lot.length ≤ 1000 ∧ (∀ x ∈ lot, x < n) ∧ d = dI (rankN p rows lot)
theorem has_l_rank (T : Txt K mg) : Has P w K mg base 3 "_law_rank" P_l_rank [] gRankL := by
  refine has_mk T.d_l_rank sc_l_rank (fun ds d ⟨p, n, rows, lot, _, h, _⟩ => by rw [h]; rfl) fun f cdv A outer s H E hr ds d hG => ?_
  obtain ⟨p, n, rows, lot, dl, rfl, hdl, hp, hp2, wf, l1, l2, hlt, rfl⟩ := hG
  refine sxs_last (sx_ret (d := dI (rankN p rows lot)) ((ex_len (d := .tuple (dRs (reduced p (cut rows lot) lot.length))) (ex_has (has_l_stairs T) hr (ax_cons (ex_var 0 rfl) (ax_cons (d := .list (dLs (cut rows lot))) (EXo.ex ?_) (ax_cons ((ex_len (ex_var 2 rfl) hdl T.b_len).is (d' := dI lot.length) (by rw [List.length_map])) ax_nil))) ⟨p, cut rows lot, lot.length, _, dL, rfl, .inr rfl, .inl rfl, hp, hp2, cut_wf wf hlt, by unfold cut; rw [List.length_map]; exact l1, l2, rfl⟩) (.inr rfl) T.b_len).is (by rw [List.length_map]; rfl)) rfl)
  refine (exo_mapA 3 (xs := rows) (emb := dR) (fun r => dL (lot.map fun k => r.getD k 0)) inj_dR rfl sc_l_rank.nd (ix_seq (ex_var 1 rfl) (.inl rfl)) (by rw [sizeLine_eq]; omega) fun r hr2 s' H' C cl fp => ?_).is (by unfold cut; rw [dLs, List.map_map]; rfl)
  refine EXo.ex ?_
  refine (exo_mapA 4 (xs := lot) (emb := dI) (fun k => dI (r.getD k 0)) inj_dI rfl sc_l_rank.nd (ix_seq (ex_var 2 rfl) hdl) (by rw [sizeLine_eq]; omega) fun k hk2 s' H' C cl fp => ?_).is (by rw [dIs, List.map_map]; rfl)
  exact rx_at (ex_var 3 rfl) (.inr rfl) (ex_var 4 rfl) (by rw [wf.len r hr2]; exact hlt k hk2)
def gIsTold : List PyData → PyData → Prop := fun ds d => ∃ (p n : Nat) (rows : List MI.Row) (lot : List Nat), ds = [dI p, .list (dRs rows), dR lot] ∧ 1 < p ∧ p < 100000 ∧ Wf p rows n ∧ rows.length ≤ 1000 ∧ lot.length ≤ 1000 ∧ (∀ x ∈ lot, x < n) ∧ (∀ x ∈ lot, rankN p rows (lot.filter fun y => !decide (y = x)) = rankN p rows lot) ∧ d = .bool true
theorem has_l_is_told (T : Txt K mg) : Has P w K mg base 4 "_law_is_told" P_l_is_told [] gIsTold := by
  refine has_mk T.d_l_is_told sc_l_is_told (fun ds d ⟨p, n, rows, lot, h, _⟩ => by rw [h]; rfl) fun f cdv A outer s H E hr ds d hG => ?_
  obtain ⟨p, n, rows, lot, rfl, hp, hp2, wf, l1, l2, hlt, hall, rfl⟩ := hG
  refine sxs_cons (fun _ => True) ?_ (fun δ' _ => sxs_last (sx_ret ex_bool rfl))
  refine sx_for PassesOwn.never rfl (ix_seq (ex_var 2 rfl) (.inr rfl)) (pg1 3 sc_l_is_told.nd) (fun i δ' => ∃ s3 s4, δ' = [.d (dI p), .d (.list (dRs rows)), .d (dR lot), s3, s4, .un]) ⟨_, _, rfl⟩ (fun i x δ' hx ⟨s3, s4, hδ⟩ => ?_) (fun δ' _ => trivial)
  subst hδ
  obtain ⟨y, hy, rfl⟩ : ∃ y ∈ lot, x = dI y := by
    have := List.mem_of_getElem? hx
    obtain ⟨y, hy, e⟩ := List.mem_map.mp this
    exact ⟨y, hy, e.symm⟩
  refine ⟨_, rfl, ?_⟩
  refine sxs_step [.d (dI p), .d (.list (dRs rows)), .d (dR lot), .d (dI y), .d (dL (lot.filter fun z => !decide (z = y))), .un] (fun N hN => ?_) ?_
  · refine sx_mapA 4 5 (xs := lot) (emb := dI) (fun z => !decide (z = y)) dI inj_dI rfl sc_l_is_told.nd (ix_seq (ex_var 2 rfl) (.inr rfl)) (by rw [sizeLine_eq]; omega) (fun z hz s' H' C cl fp => txs_one (txn_ne (ex_var 5 rfl) (ex_var 3 rfl))) (fun z hz _ s' H' C cl fp => ex_var 5 rfl) hN
  have hfl : (lot.filter fun z => !decide (z = y)).length ≤ 1000 := Nat.le_trans (List.length_filter_le _ _) l2
  refine sxs_last (sx_if (k := !decide (rankN p rows (lot.filter fun z => !decide (z = y)) = rankN p rows lot)) (txn_ne ?_ ?_) (fun hk => ?_) fun hk => sxs_nil ⟨_, _, rfl⟩)
  · exact ex_has (has_l_rank T) hr (ax_cons (ex_var 0 rfl) (ax_cons (ex_var 1 rfl) (ax_cons (ex_var 4 rfl) ax_nil))) ⟨p, n, rows, _, _, rfl, .inl rfl, hp, hp2, wf, l1, hfl, fun x hx => hlt x (List.mem_filter.mp hx).1, rfl⟩
  · exact ex_has (has_l_rank T) hr (ax_cons (ex_var 0 rfl) (ax_cons (ex_var 1 rfl) (ax_cons (ex_var 2 rfl) ax_nil))) ⟨p, n, rows, lot, _, rfl, .inr rfl, hp, hp2, wf, l1, l2, hlt, rfl⟩
  · rw [hall y hy, decide_eq_true rfl] at hk
    exact absurd hk (by decide)
end
end DL
set_option Elab.async false
set_option linter.all false
set_option maxRecDepth 100000
set_option maxHeartbeats 4000000
/-! TX12: blocs. -/
namespace DL
open PySem PySem.Spec PyProof.Rows L2 MI
abbrev iR (r : MI.Row) : List Int := r.map fun (n : Nat) => (n : Int)
theorem iR_inj : ∀ {a b : MI.Row}, iR a = iR b → a = b
  | [], [], _ => rfl
  | [], _ :: _, e => by simp at e
  | _ :: _, [], e => by simp at e
  | x :: a, y :: b, e => by
    rw [iR, List.map_cons, iR, List.map_cons] at e
    injection e with e1 e2
    rw [iR_inj e2, show x = y by omega]
theorem sort_uniq {α : Type} (c : α → Int) : ∀ (l1 l2 : List α), l1.Perm l2 → l1.Pairwise (fun a b => c a ≤ c b) → l2.Pairwise (fun a b => c a < c b) → l1 = l2
  | [], l2, p, _, _ => (List.nil_perm.mp p).symm
  | x :: t1, [], p, _, _ => absurd (p.length_eq) (by simp)
  | x :: t1, y :: t2, p, h1, h2 => by
    have hx : x ∈ y :: t2 := p.mem_iff.mp (List.mem_cons_self ..)
    have hy : y ∈ x :: t1 := p.mem_iff.mpr (List.mem_cons_self ..)
    have he : x = y := by
      rcases List.mem_cons.mp hx with e | e
      · exact e
      · rcases List.mem_cons.mp hy with e' | e'
        · exact e'.symm
        · have a1 := List.rel_of_pairwise_cons h2 e
          have a2 := List.rel_of_pairwise_cons h1 e'
          omega
    subst he
    rw [sort_uniq c t1 t2 (List.Perm.cons_inv p) (List.Pairwise.of_cons h1) (List.Pairwise.of_cons h2)]
theorem dps_rows {K : PySem.W.Frag} {S : Hp} : ∀ {rows : List MI.Row} {xs : List V}, DpAll K S xs (dRs rows) → ∃ ks : List (Addr × List Int), xs = ks.map (fun p => V.ref p.1) ∧ (∀ p ∈ ks, SqT K S p.1 (p.2.map V.int)) ∧ ks.map (·.2) = rows.map iR
  | [], _, h => by
    cases h
    exact ⟨[], rfl, (fun _ z => nomatch z), rfl⟩
  | r :: rows, _, h => by
    cases h with
    | cons h t =>
      obtain ⟨a, xs, rfl, h1, h2⟩ := dp_tup h
      have e : xs = (iR r).map V.int := dps_ints_inv (ns := iR r) (by rw [iR, List.map_map]; exact h2)
      subst e
      obtain ⟨ks, rfl, h3, h4⟩ := dps_rows t
      refine ⟨(a, iR r) :: ks, rfl, fun p hp => ?_, by rw [List.map_cons, List.map_cons, h4]⟩
      rcases List.mem_cons.mp hp with rfl | hp
      · exact h1
      · exact h3 p hp
theorem rows_dps {K : PySem.W.Frag} {S : Hp} : ∀ {L : List (Addr × List Int)} {rows : List MI.Row}, (∀ p ∈ L, SqT K S p.1 (p.2.map V.int)) → L.map (·.2) = rows.map iR → DpAll K S (L.map fun p => V.ref p.1) (dRs rows)
  | [], [], _, _ => .nil
  | [], _ :: _, _, e => by simp at e
  | _ :: _, [], _, e => by simp at e
  | q :: L, r :: rows, h, e => by
    rw [List.map_cons, List.map_cons] at e
    injection e with e1 e2
    refine .cons (.tup (h q (List.mem_cons_self ..)) ?_) (rows_dps (fun p hp => h p (List.mem_cons_of_mem _ hp)) e2)
    rw [show dIs r = (iR r).map PyData.int from dIs_cast r, ← e1]
    exact dps_ints _
def cI64 (r : MI.Row) : Int := TS.code 1000 (iR r)
section
variable {X : Cx} {a b : Expr} {δ : List Slot} {p p2 q2 pos px py pt : Pos} {x y : Str} {kt k2 : Nat} {ds : List PyData} {db : PyData} {E : DE}
theorem ex_sortedSet {rows : List MI.Row} {k d : Nat} (hc : X.calm = true) (hr : Room k X.A) (ha : EX X a δ (.list (dRs rows))) (hl : rows.length < 64) (hd : 1 ≤ d) (hrl : ∀ r ∈ rows, r.length = d) (hb : ∀ r ∈ rows, ∀ x ∈ r, x < 1000) (hs : rows.Pairwise fun r q => cI64 r < cI64 q)
    (hm : X.mg "sorted" = none) (hm2 : X.mg "set" = none) (hg : Gl X "sorted" := by rfl) (hg2 : Gl X "set" := by rfl) (h1 : starEach [a] X.env = (false, eval a X.env) :: starEach [] X.env := by rfl)
    (h2 : starEach [.Call (.Name "set" p2) [a] [] q2] X.env = (false, eval (.Call (.Name "set" p2) [a] [] q2) X.env) :: starEach [] X.env := by rfl) (hpl : (backTo q2 (starEach [] X.env)).any (·.1) = false := by rfl) (hpl2 : (backTo pos (starEach [] X.env)).any (·.1) = false := by rfl) :
    EX X (.Call (.Name "sorted" p) [.Call (.Name "set" p2) [a] [] q2] [] pos) δ (.list (dRs rows)) :=
  EX.of (pe_callB (cr_sortedT hc) hg hm PyProof.Rows.boot_sorted (pa_cons (pe_callTy (cr_setOfT hc (by have := hr.un; omega)) hg2 hm2 PyProof.Rows.boot_set (pa_cons pe_c pa_nil h1) (by decide) (by decide) h1 hpl) pa_nil h2) (by decide) (by decide) h2 hpl2) fun σ H0 S H Q so q => by
    refine rd_c ha σ H0 S H _ so fun v S1 H1 g1 d1 => ?_
    obtain ⟨l, xs, rfl, h1, h2⟩ := dp_lst d1
    obtain ⟨ks, rfl, h3, h4⟩ := dps_rows h2
    have kl : ks.length = rows.length := by
      have := congrArg List.length h4
      rwa [List.length_map, List.length_map] at this
    refine ⟨l, ks, rfl, Same.sql g1.sh h1, fun p hp => Same.sqt g1.sh (h3 p hp), by rw [kl]; exact hl, fun t L ht hsub hall => ?_⟩
    have inR : ∀ q ∈ L, ∃ r ∈ rows, q.2 = iR r := fun q hq => by
      have : q.2 ∈ rows.map iR := by rw [← h4]; exact List.mem_map.mpr ⟨q, hsub q hq, rfl⟩
      obtain ⟨r, hr, e⟩ := List.mem_map.mp this
      exact ⟨r, hr, e.symm⟩
    have g2 : Gr S1 H1 S1 (upd H1 t (SetTO X.prog X.w t L)) := (Gr.refl g1.sh).owned ht
    refine ⟨t, L, d, 1000, rfl, upd_same, fun q hq => Same.sqt g2.sh (h3 q (hsub q hq)), hd, fun q hq => ?_, fun L' r hp hn hl' hpw hr' => ?_⟩
    · obtain ⟨r, hr, e⟩ := inR q hq
      rw [e]
      refine ⟨by rw [List.length_map]; exact hrl r hr, fun m hm => ?_⟩
      obtain ⟨x, hx, rfl⟩ := List.mem_map.mp hm
      have := hb r hr x hx
      omega
    · have e1 : L'.map (·.2) = rows.map iR := by
        refine sort_uniq (TS.code 1000) _ _ ?_ (List.pairwise_map.mpr hpw) (List.pairwise_map.mpr hs)
        have hnr : (rows.map iR).Nodup := by
          refine List.pairwise_map.mpr (hs.imp fun {r q} h => ?_)
          intro e
          unfold cI64 at h
          rw [e] at h
          omega
        refine (List.perm_ext_iff_of_nodup hn hnr).mpr fun z => ⟨fun hz => ?_, fun hz => ?_⟩
        · obtain ⟨q, hq, rfl⟩ := List.mem_map.mp hz
          obtain ⟨r, hr, e⟩ := inR q (hp.mem_iff.mp hq)
          rw [e]
          exact List.mem_map.mpr ⟨r, hr, rfl⟩
        · rw [← h4] at hz
          obtain ⟨q, hq, rfl⟩ := List.mem_map.mp hz
          obtain ⟨q', hq', e⟩ := List.mem_map.mp (hall q hq)
          rw [← e]
          exact List.mem_map.mpr ⟨q', hp.mem_iff.mpr hq', rfl⟩
      refine q _ _ _ ((g1.trans g2).new hr') ?_
      have ss : Same S1 (upd S1 r (.lst (L'.map fun q => V.ref q.1))) := fun b x z => by
        rw [upd_ne (ne_of_none z ((g1.trans g2).sfree hr'))]
        exact z
      refine .lst (SqL.of upd_same) (rows_dps (fun q hq => Same.sqt ss (h3 q (hsub q (hp.mem_iff.mp hq)))) e1)
/-- x, y = a new list, data; any names -/
theorem sx_parOG (i j : Nat) (hc : X.calm = true) (hN : X.N.Nodup) (ha : EXo X a δ ds) (hb : EX X b δ db) (k : E.nx ((δ.set i (.own ds)).set j (.d db))) (hs : swapsWithSole [.Tuple [.Name x px, .Name y py] kt pt] (.Tuple [a, b] k2 p2) pos.line X.env = pure false := by rfl) (hw : swappedStores [.Tuple [.Name x px, .Name y py] kt pt] (.Tuple [a, b] k2 p2) X.env = pure none := by rfl)
    (h1 : (assignEach [.Tuple [.Name x px, .Name y py] kt pt] X.env).map (·.2) = [assign (.Tuple [.Name x px, .Name y py] kt pt) X.env] := by rfl) (hi : X.N[i]? = some x := by rfl) (hj : X.N[j]? = some y := by rfl) (hx : Loc X.env.scope x := by first | exact Or.inl rfl | exact Or.inr rfl) (hy : Loc X.env.scope y := by first | exact Or.inl rfl | exact Or.inr rfl)
    (hf : X.fn x = true ∨ X.env.scope.names.lookup x = some .local := by first | exact .inl rfl | exact .inr rfl) (hf2 : X.fn y = true ∨ X.env.scope.names.lookup y = some .local := by first | exact .inl rfl | exact .inr rfl)
    (h2 : starEach [a, b] X.env = (false, eval a X.env) :: starEach [b] X.env := by rfl) (h3 : starEach [b] X.env = (false, eval b X.env) :: starEach [] X.env := by rfl) : SX X (.Assign [.Tuple [.Name x px, .Name y py] kt pt] (.Tuple [a, b] k2 p2) pos) δ E :=
  SX.of (ps_asg (pe_tup (pa_cons pe_o (pa_cons pe_c pa_nil h3) h2)) (pg2 i j hc hN hi hj hx hy hf hf2) hs hw h1) fun σ S0 H0 S H D g so q => by
    show tTup (tCons (cO X a) (tCons (cE X b) tNil)) σ H _
    show tCons (cO X a) (tCons (cE X b) tNil) σ H _
    show cO X a σ H _
    refine rd_o ha σ H0 S H _ so fun l vs S1 H1 g1 hs1 hn1 hh1 d1 => ?_
    refine rd_c hb σ H0 S1 H1 _ (so.grow g1) fun u S2 H2 g2 d2 => ⟨by show 2 ≤ sizeLine; decide, fun t ht => ?_⟩
    have g3 : Gr S2 H2 (upd S2 t (.tup [.ref l, u])) (upd H2 t (.tup [.ref l, u])) := (Gr.refl g2.sh).new ht
    refine ⟨t, [.ref l, u], rfl, SqT.of upd_same, rfl, .ref l, [u], rfl, u, [], rfl, rfl, ?_⟩
    exact q.nx _ _ _ _ k (g.trans (g1.trans (g2.trans g3))) ((((own_new so g1 hn1 hs1 (g.hfree hn1) hh1 d1 i).grow g2).grow g3).setD j (d2.mono g3.ss))
end
section
variable {P : Program} {w : World} {K : PySem.W.Frag} {mg : Str → Option Value} {base : Heap}
def gBlocs : List PyData → PyData → Prop := fun ds d => ∃ few wide many : Nat, ds = [dI few, dI wide, dI many] ∧ 0 < wide / (few + 1) ∧ few + 1 ≤ 100 ∧ wide ≤ 100 ∧ many ≤ 100 ∧ (partedN wide (wide / (few + 1)) (few + 1) many).length < 64 ∧
  (∀ r ∈ partedN wide (wide / (few + 1)) (few + 1) many, ∀ x ∈ r, x < 1000) ∧ (partedN wide (wide / (few + 1)) (few + 1) many).Pairwise (fun r q => cI64 r < cI64 q) ∧
  d = .tuple [.tuple (dRs (partedN wide (wide / (few + 1)) (few + 1) many)), .tuple (dRs (classesN wide many))]
theorem has_l_blocs (T : Txt K mg) : Has P w K mg base 1 "_law_blocs" P_l_blocs [] gBlocs := by
  refine has_mk T.d_l_blocs sc_l_blocs (fun ds d ⟨ns, es, x, h, _⟩ => by rw [h]; rfl) fun f cdv A outer s H E hr ds d hG => ?_
  obtain ⟨few, wide, many, rfl, s0, hf, hw, hm, h64, hlt, hpw, rfl⟩ := hG
  refine sxs_step [.d (dI few), .d (dI wide), .d (dI many), .own (dRs []), .d (dI (wide / (few + 1))), .un, .un, .un] (fun N hN => sx_parOG 3 4 rfl sc_l_blocs.nd (exo_lst ax_nil (by decide)) (exn_div (ex_var 1 rfl) (exn_add (y := 1) (ex_var 0 rfl) ex_int) (by omega) (by omega)) hN) ?_
  have hsw : wide / (few + 1) ≤ wide := Nat.div_le_self _ _
  generalize hst : wide / (few + 1) = step at s0 h64 hlt hpw hsw
  have hrl : ∀ r ∈ partedN wide step (few + 1) many, r.length = few + 1 := fun r hr => by
    obtain ⟨j, _, hr⟩ := List.mem_flatMap.mp hr
    obtain ⟨i, _, rfl⟩ := List.mem_map.mp hr
    unfold partRow
    rw [List.length_map, List.length_range]
  have hpl : ∀ j, (partedN wide step (few + 1) j).length = j * step := fun j => by
    unfold partedN
    rw [List.length_flatMap]
    simp only [List.length_map, List.length_range]
    rw [sum_const, List.length_range]
  refine sxs_cons (fun δ' => ∃ s5 s6, δ' = [.d (dI few), .d (dI wide), .d (dI many), .own (dRs (partedN wide step (few + 1) many)), .d (dI step), s5, s6, .un]) ?_ (fun δ' ⟨s5, s6, h⟩ => by
    subst h
    refine sxs_freeze 3 rfl ?_
    refine sxs_last (sx_ret (ex_tup (ax_cons (ex_tupleOf (ex_sortedSet (d := few + 1) rfl hr (ex_var 3 rfl) h64 (by omega) hrl hlt hpw T.b_sorted T.b_set) (.inl rfl) T.b_tuple) (ax_cons (ex_tupleOf (EXo.ex (ds := dRs (classesN wide many)) ?_) (.inl rfl) T.b_tuple) ax_nil)) (by show 2 ≤ sizeLine; decide)) rfl)
    refine (exo_mapA 5 (xs := List.range many) (emb := dI) (fun j => dR (classRow wide j)) inj_dI rfl sc_l_blocs.nd ((rangeD_map many) ▸ ix_range1 (n := many) (ex_var 2 rfl) (by omega) T.b_range) (by rw [List.length_range, sizeLine_eq]; omega) fun j hj s' H' C cl fp => ?_).is (by unfold classesN; rw [dRs, List.map_map]; rfl)
    have hj := List.mem_range.mp hj
    have hjw : j * wide ≤ 100 * 100 := Nat.mul_le_mul (by omega) hw
    refine (ex_tupRange (m := ((j * wide : Nat) : Int)) (n := wide) rfl (exn_mul (ex_var 5 rfl) (ex_var 1 rfl) (by omega)) ((exn_mul (x := j + 1) (exn_add (y := 1) (ex_var 5 rfl) ex_int) (ex_var 1 rfl) (by omega)).is ?_) (by omega) T.b_tuple T.b_range).is ?_
    · show PyData.int _ = _
      congr 1
      rw [Nat.succ_mul]
      omega
    · unfold rangeD classRow
      rw [dR, dIs, List.map_map]
      rfl)
  refine sx_for PassesOwn.never rfl (ix_range1 (n := many) (ex_var 2 rfl) (by omega) T.b_range) (pg1 5 sc_l_blocs.nd) (fun j δ' => ∃ s5 s6, δ' = [.d (dI few), .d (dI wide), .d (dI many), .own (dRs (partedN wide step (few + 1) j)), .d (dI step), s5, s6, .un]) ⟨_, _, rfl⟩ (fun j x δ' hx ⟨s5, s6, hδ⟩ => ?_) (fun δ' h => by rw [rangeD_len] at h; exact h)
  subst hδ
  obtain ⟨hj, rfl⟩ := range_at hx
  refine ⟨_, rfl, ?_⟩
  have hjs : j * step ≤ 100 * 100 := Nat.mul_le_mul (by omega) (by omega)
  have hjw : j * wide ≤ 100 * 100 := Nat.mul_le_mul (by omega) hw
  have hsucc : partedN wide step (few + 1) (j + 1) = partedN wide step (few + 1) j ++ (List.range step).map (partRow wide step (few + 1) j) := by
    unfold partedN
    rw [List.range_succ, List.flatMap_append]
    simp
  rw [hsucc]
  let ac := fun i => partedN wide step (few + 1) j ++ (List.range i).map (partRow wide step (few + 1) j)
  refine sxs_last (sx_for PassesOwn.never rfl (ix_range1 (n := step) (ex_var 4 rfl) (by omega) T.b_range) (pg1 6 sc_l_blocs.nd) (fun i δ' => ∃ s6, δ' = [.d (dI few), .d (dI wide), .d (dI many), .own (dRs (ac i)), .d (dI step), .d (dI j), s6, .un]) ⟨s6, by show _ = _; rw [show ac 0 = partedN wide step (few + 1) j from List.append_nil _]; rfl⟩ (fun i x δ' hx ⟨s6, hδ⟩ => ?_) (fun δ' ⟨s6, h⟩ => ⟨_, _, by rw [rangeD_len] at h; exact h⟩))
  subst hδ
  obtain ⟨hi, rfl⟩ := range_at hx
  refine ⟨_, rfl, ?_⟩
  have hac : ac (i + 1) = ac i ++ [partRow wide step (few + 1) j i] := by
    show _ ++ _ = (_ ++ _) ++ _
    rw [List.range_succ, List.map_append, List.append_assoc]
    rfl
  have hacl : (ac i).length ≤ 100 * 100 + 100 := by
    show (partedN wide step (few + 1) j ++ (List.range i).map (partRow wide step (few + 1) j)).length ≤ _
    rw [List.length_append, hpl, List.length_map, List.length_range]
    omega
  refine sxs_last (sx_append 3 (d := dR (partRow wide step (few + 1) j i)) rfl (ex_tupleOf (EXo.ex ?_) (.inl rfl) T.b_tuple) (by rw [dRs_len, sizeLine_eq]; omega) ⟨.d (dI i), by rw [hac, show dRs (ac i ++ [partRow wide step (few + 1) j i]) = dRs (ac i) ++ [dR (partRow wide step (few + 1) j i)] from List.map_append ..]; rfl⟩)
  refine (exo_mapA 7 (xs := List.range (few + 1)) (emb := dI) (fun m => dI (j * wide + i + m * step)) inj_dI rfl sc_l_blocs.nd ((rangeD_map (few + 1)) ▸ ix_range1 (n := few + 1) (exn_add (y := 1) (ex_var 0 rfl) ex_int) (by omega) T.b_range) (by rw [List.length_range, sizeLine_eq]; omega) fun m hm2 s' H' C cl fp => ?_).is (by unfold partRow; rw [dIs, List.map_map]; rfl)
  exact (exn_add (exn_add (exn_mul (ex_var 5 rfl) (ex_var 1 rfl) (by omega)) (ex_var 6 rfl)) (exn_mul (ex_var 4 rfl) (ex_var 7 rfl) (by omega))).is (by rw [Nat.mul_comm step m])
end
end DL
set_option Elab.async false
set_option linter.all false
set_option maxRecDepth 100000
set_option maxHeartbeats 4000000
/-! DL9: the feed's dict, calls that change it, effects. -/
namespace DL
open PySem PySem.Spec PyProof.Rows L2 MI
def hide (H : Hp) (a : Addr) : Hp := fun b => if b = a then none else H b
theorem hide_ne {H : Hp} {a b : Addr} (h : b ≠ a) : hide H a b = H b := if_neg h
theorem hide_self {H : Hp} {a : Addr} : hide H a a = none := if_pos rfl
theorem hide_some {H : Hp} {a b : Addr} {x : HO} (h : hide H a b = some x) : b ≠ a ∧ H b = some x := by
  by_cases e : b = a
  · rw [e, hide_self] at h
    cases h
  · rw [hide_ne e] at h
    exact ⟨e, h⟩
theorem hide_same {S H : Hp} {a : Addr} (sh : Same S H) (hs : S a = none) : Gr S (hide H a) S H :=
  ⟨Same.refl _, sh, fun b x e => (hide_some e).2, fun b e _ => e⟩
theorem Gr.hideTr {S0 H0 S1 H1 S2 H2 : Hp} {a : Addr} (g : Gr S0 H0 S1 H1) (h0 : H0 a = none) (g2 : Gr S1 (hide H1 a) S2 H2) : Gr S0 H0 S2 H2 := by
  refine ⟨g.ss.trans g2.ss, g2.sh, fun b x e => ?_, fun b e n => ?_⟩
  · have hb : b ≠ a := fun z => by rw [z, h0] at e; cases e
    refine g2.hh b x ?_
    rw [hide_ne hb]
    exact g.hh b x e
  · have hb : b ≠ a := fun z => by rw [z] at n; exact n h0
    refine g2.nw b (g.nw b e n) ?_
    rw [hide_ne hb]
    exact fun z => n (g.hh.free z)
theorem Gr.rebase {S0 H0 S H : Hp} (g : Gr S0 H0 S H) : Gr S H0 S H := ⟨Same.refl _, g.sh, g.hh, fun b e _ => e⟩
theorem Gr.back {S0 H0 S H S' H' : Hp} (g : Gr S0 H0 S H) (g2 : Gr S H0 S' H') : Gr S0 H0 S' H' := ⟨g.ss.trans g2.ss, g2.sh, g2.hh, fun b e n => g2.nw b (g.nw b e n) n⟩
/-- the feed's keys -/
abbrev fk (cs : List Int) (a b c : Int) : List (Str × PyData) := [("cells", .list (cs.map .int)), ("spot", .int a), ("left", .int b), ("drawn", .int c)]
abbrev fv (v : V) (a b c : Int) : List (Key × V) := [(.inr "cells", v), (.inr "spot", .int a), (.inr "left", .int b), (.inr "drawn", .int c)]
abbrev fdS (t : Addr) (cs : List Int) (a b c : Int) : Slot := .dct t (fk cs a b c)
section
variable {K : PySem.W.Frag} {S S' H0 H H' : Hp} {σ : L2.St} {δ : List Slot}
theorem fk_inv {vs : List (Key × V)} {cs : List Int} {a b c : Int} (h : KvOk K S vs (fk cs a b c)) : ∃ v, vs = fv v a b c ∧ Dp K S v (.list (cs.map .int)) := by
  cases h with
  | cons h1 h =>
    cases h with
    | cons h2 h =>
      cases h with
      | cons h3 h =>
        cases h with
        | cons h4 h =>
          cases h
          rename_i p1 p2 p3 p4
          obtain ⟨k1, v1⟩ := p1
          obtain ⟨k2, v2⟩ := p2
          obtain ⟨k3, v3⟩ := p3
          obtain ⟨k4, v4⟩ := p4
          obtain ⟨e1, d1⟩ := h1
          obtain ⟨e2, d2⟩ := h2
          obtain ⟨e3, d3⟩ := h3
          obtain ⟨e4, d4⟩ := h4
          dsimp only at e1 e2 e3 e4 d1 d2 d3 d4
          subst e1 e2 e3 e4
          rw [dp_int d2, dp_int d3, dp_int d4]
          exact ⟨v1, rfl, d1⟩
theorem fk_mk {v : V} {cs : List Int} {a b c : Int} (h : Dp K S v (.list (cs.map .int))) : KvOk K S (fv v a b c) (fk cs a b c) :=
  .cons ⟨rfl, h⟩ (.cons ⟨rfl, .int _⟩ (.cons ⟨rfl, .int _⟩ (.cons ⟨rfl, .int _⟩ .nil)))
theorem feed_at {i : Nat} {t : Addr} {cs : List Int} {a b c : Int} (so : StOk K H0 S H σ δ) (hk : δ[i]? = some (fdS t cs a b c)) :
    ∃ v, σ[i]? = some (some (.ref t)) ∧ S t = none ∧ H0 t = none ∧ H t = some (.dK (fv v a b c)) ∧ Dp K S v (.list (cs.map .int)) := by
  obtain ⟨o, e1, vs, rfl, h1, h2, h3, h4⟩ := so.at_ i _ hk
  obtain ⟨v, rfl, hv⟩ := fk_inv h4
  exact ⟨v, e1, h1, h2, h3, hv⟩
theorem StOk.hideGr {i : Nat} {t : Addr} {kvs kvs' : List (Str × PyData)} {vs : List (Key × V)} (so : StOk K H0 S H σ δ) (hk : δ[i]? = some (.dct t kvs)) (g : Gr S (hide H t) S' H') (hs : S' t = none) (hh : H' t = some (.dK vs)) (kv : KvOk K S' vs kvs') : StOk K H0 S' H' σ (δ.set i (.dct t kvs')) := by
  obtain ⟨o, e1, us, rfl, h1, h2, h3, h4⟩ := so.at_ i _ hk
  refine ⟨g.sh, by simp [so.len], fun j s q => ?_, fun j k b s u hjk f1 f2 o1 o2 g1 g2 => ?_⟩
  · rcases set_get q with ⟨rfl, rfl⟩ | ⟨hne, q2⟩
    · exact ⟨_, e1, vs, rfl, hs, h2, hh, kv⟩
    · obtain ⟨o', e2, h5⟩ := so.at_ j s q2
      refine ⟨o', e2, ?_⟩
      cases s with
      | un => trivial
      | d x =>
        obtain ⟨v, e3, h6⟩ := h5
        exact ⟨v, e3, h6.mono g.ss⟩
      | own xs =>
        obtain ⟨b, ws, r1, r2, r3, r4, r5⟩ := h5
        have hb : b ≠ t := fun z => by
          subst z r1
          exact so.dist i j b _ _ hne hk q2 trivial trivial e1 e2
        have h6 : hide H t b = some (.lst ws) := by rw [hide_ne hb]; exact r4
        exact ⟨b, ws, r1, g.nw b r2 (by rw [h6]; exact fun z => nomatch z), r3, g.hh _ _ h6, r5.mono g.ss⟩
      | dct b xs =>
        obtain ⟨ws, r1, r2, r3, r4, r5⟩ := h5
        have hb : b ≠ t := fun z => by
          subst z r1
          exact so.dist i j b _ _ hne hk q2 trivial trivial e1 e2
        have h6 : hide H t b = some (.dK ws) := by rw [hide_ne hb]; exact r4
        exact ⟨ws, r1, g.nw b r2 (by rw [h6]; exact fun z => nomatch z), r3, g.hh _ _ h6, r5.mono g.ss⟩
  · rcases set_get f1 with ⟨rfl, rfl⟩ | ⟨n1, f1⟩
    · rcases set_get f2 with ⟨rfl, rfl⟩ | ⟨n2, f2⟩
      · exact hjk rfl
      · exact so.dist i k b _ _ hjk hk f2 trivial o2 g1 g2
    · rcases set_get f2 with ⟨rfl, rfl⟩ | ⟨n2, f2⟩
      · exact so.dist j i b _ _ hjk f1 hk o1 trivial g1 g2
      · exact so.dist j k b _ _ hjk f1 f2 o1 o2 g1 g2
/-- the entry's slots, the feed ahead -/
def startF (N : List Str) (t : Addr) (kvs : List (Str × PyData)) (ds : List PyData) : List Slot := (startD N (.none :: ds)).set 0 (.dct t kvs)
theorem start_okF {N : List Str} {t : Addr} {kvs : List (Str × PyData)} {ws : List (Key × V)} {vs : List V} {ds : List PyData} (sh : Same S H) (hs : S t = none) (hh : H t = some (.dK ws)) (kv : KvOk K S ws kvs) (h : DpAll K S vs ds) :
    StOk K (hide H t) S H (L2.start N (.ref t :: vs)) (startF N t kvs ds) := by
  have h1 : StOk K H S H (L2.start N (.non :: vs)) (startD N (.none :: ds)) := start_ok sh (.cons .non h)
  have eσ : L2.start N (.ref t :: vs) = (L2.start N (.non :: vs)).set 0 (some (.ref t)) := rfl
  have no : ∀ (i : Nat) (s : Slot), (startD N (.none :: ds))[i]? = some s → ¬ Owned s := fun i s e => by
    unfold startD at e
    rcases Nat.lt_or_ge i (PyData.none :: ds).length with hi | hi
    · rw [List.getElem?_append_left (by simpa using hi), List.getElem?_map] at e
      obtain ⟨d, hd, rfl⟩ := Option.map_eq_some_iff.mp e
      exact id
    · rw [List.getElem?_append_right (by simpa using hi), List.getElem?_replicate] at e
      split at e
      · cases e
        exact id
      · cases e
  refine ⟨sh, by rw [eσ]; unfold startF; rw [List.length_set, List.length_set, h1.len], fun j s q => ?_, fun j k b s u hjk f1 f2 o1 o2 g1 g2 => ?_⟩
  · unfold startF at q
    rcases set_get q with ⟨rfl, rfl⟩ | ⟨hne, q⟩
    · exact ⟨some (.ref t), rfl, ws, rfl, hs, hide_self, hh, kv⟩
    · obtain ⟨o', e2, h5⟩ := h1.at_ j s q
      refine ⟨o', by rw [eσ, List.getElem?_set_ne hne]; exact e2, ?_⟩
      have hn := no j s q
      cases s with
      | un => trivial
      | d x => exact h5
      | own xs => exact (hn trivial).elim
      | dct b xs => exact (hn trivial).elim
  · unfold startF at f1 f2
    rcases set_get f1 with ⟨rfl, rfl⟩ | ⟨n1, f1⟩
    · rcases set_get f2 with ⟨rfl, rfl⟩ | ⟨n2, f2⟩
      · exact hjk rfl
      · exact (no _ _ f2 o2).elim
    · exact (no _ _ f1 o1).elim
end
section
variable {X : Cx} {a b e : Expr} {es : List Expr} {δ : List Slot} {d da db : PyData} {ds : List PyData} {pos p p2 p' q2 q3 apos : Pos} {x : Str} {t : Addr} {cs : List Int} {u v c : Int} {E : DE} {P : PyData → List Slot → Prop} {jj : Nat}
theorem kne {x y : Str} (h : x ≠ y) : ¬ ((Sum.inr x : Key) = Sum.inr y) := fun e => h (Sum.inr.inj e)
/-- feed['..'] -/
theorem ex_fget (i : Nat) (key : Str) {k : Nat} (hr : Room k X.A) (hd : δ[i]? = some (fdS t cs u v c)) (hv : ∀ (S : Hp) (w : V), Dp X.K S w (.list (cs.map .int)) → ∃ y, valV (fv w u v c) (.inr key) = some y ∧ Dp X.K S y d)
    (hN : X.N[i]? = some x := by rfl) (hvs : Vis X.env.scope x := by first | exact Or.inl rfl | exact Or.inr (Or.inl rfl) | exact Or.inr (Or.inr rfl)) (hb : (x == ("__debug__" : Str)) = false := by decide) (hcd : (x == ("__classdict__" : Str)) = false := by decide)
    (hs : NoSl (.Constant (.str key) jj p2) := by intro _ _; rfl) : EX X (.Subscript (.Name x p) (.Constant (.str key) jj p2) pos) δ d :=
  EX.of (pe_dget (by have := hr.un; omega) (pe_var hN hvs hb hcd) (pe_c (e := .Constant (.str key) jj p2)) hs) fun σ H0 S H Q so q => by
    obtain ⟨w, e1, h1, h2, h3, h4⟩ := feed_at so hd
    refine ⟨_, e1, rd_c ex_str σ H0 S H _ so fun y S2 H2 g2 d2 => ?_⟩
    obtain ⟨z, hz, dz⟩ := hv S2 w (h4.mono g2.ss)
    refine ⟨t, z, rfl, ?_, q z S2 H2 g2 dz⟩
    rw [dp_str d2, ← hz]
    exact DGet.k (k := .inr key) (g2.hh _ _ h3)
theorem ex_cells (i : Nat) {k : Nat} (hr : Room k X.A) (hd : δ[i]? = some (fdS t cs u v c))
    (hN : X.N[i]? = some x := by rfl) (hvs : Vis X.env.scope x := by first | exact Or.inl rfl | exact Or.inr (Or.inl rfl) | exact Or.inr (Or.inr rfl)) (hb : (x == ("__debug__" : Str)) = false := by decide) (hcd : (x == ("__classdict__" : Str)) = false := by decide)
    (hs : NoSl (.Constant (.str "cells") jj p2) := by intro _ _; rfl) : EX X (.Subscript (.Name x p) (.Constant (.str "cells") jj p2) pos) δ (.list (cs.map .int)) :=
  ex_fget i "cells" hr hd (fun S w h => ⟨w, valV_pos rfl, h⟩) hN hvs hb hcd hs
theorem ex_spot (i : Nat) {k : Nat} (hr : Room k X.A) (hd : δ[i]? = some (fdS t cs u v c))
    (hN : X.N[i]? = some x := by rfl) (hvs : Vis X.env.scope x := by first | exact Or.inl rfl | exact Or.inr (Or.inl rfl) | exact Or.inr (Or.inr rfl)) (hb : (x == ("__debug__" : Str)) = false := by decide) (hcd : (x == ("__classdict__" : Str)) = false := by decide)
    (hs : NoSl (.Constant (.str "spot") jj p2) := by intro _ _; rfl) : EX X (.Subscript (.Name x p) (.Constant (.str "spot") jj p2) pos) δ (.int u) :=
  ex_fget i "spot" hr hd (fun S w h => ⟨.int u, (valV_neg (kne (by decide))).trans (valV_pos rfl), .int u⟩) hN hvs hb hcd hs
theorem ex_left (i : Nat) {k : Nat} (hr : Room k X.A) (hd : δ[i]? = some (fdS t cs u v c))
    (hN : X.N[i]? = some x := by rfl) (hvs : Vis X.env.scope x := by first | exact Or.inl rfl | exact Or.inr (Or.inl rfl) | exact Or.inr (Or.inr rfl)) (hb : (x == ("__debug__" : Str)) = false := by decide) (hcd : (x == ("__classdict__" : Str)) = false := by decide)
    (hs : NoSl (.Constant (.str "left") jj p2) := by intro _ _; rfl) : EX X (.Subscript (.Name x p) (.Constant (.str "left") jj p2) pos) δ (.int v) :=
  ex_fget i "left" hr hd (fun S w h => ⟨.int v, (valV_neg (kne (by decide))).trans ((valV_neg (kne (by decide))).trans (valV_pos rfl)), .int v⟩) hN hvs hb hcd hs
theorem ex_drawn (i : Nat) {k : Nat} (hr : Room k X.A) (hd : δ[i]? = some (fdS t cs u v c))
    (hN : X.N[i]? = some x := by rfl) (hvs : Vis X.env.scope x := by first | exact Or.inl rfl | exact Or.inr (Or.inl rfl) | exact Or.inr (Or.inr rfl)) (hb : (x == ("__debug__" : Str)) = false := by decide) (hcd : (x == ("__classdict__" : Str)) = false := by decide)
    (hs : NoSl (.Constant (.str "drawn") jj p2) := by intro _ _; rfl) : EX X (.Subscript (.Name x p) (.Constant (.str "drawn") jj p2) pos) δ (.int c) :=
  ex_fget i "drawn" hr hd (fun S w h => ⟨.int c, (valV_neg (kne (by decide))).trans ((valV_neg (kne (by decide))).trans ((valV_neg (kne (by decide))).trans (valV_pos rfl))), .int c⟩) hN hvs hb hcd hs
/-- feed['..'] = an int -/
theorem sx_fset (i : Nat) (key : Str) {k : Nat} {m : Int} (u' v' c' : Int) (hr : Room k X.A) (hd : δ[i]? = some (fdS t cs u v c)) (he : EX X e δ (.int m)) (hp : ∀ w, putK (fv w u v c) (.inr key) (.int m) = fv w u' v' c') (kk : E.nx (δ.set i (fdS t cs u' v' c')))
    (hN : X.N[i]? = some x := by rfl) (hvs : Vis X.env.scope x := by first | exact Or.inl rfl | exact Or.inr (Or.inl rfl) | exact Or.inr (Or.inr rfl)) (hb : (x == ("__debug__" : Str)) = false := by decide) (hcd : (x == ("__classdict__" : Str)) = false := by decide)
    (ha : ∀ v, assign (.Subscript (.Name x p) (.Constant (.str key) jj p') p2) X.env v = (do
      let ov ← holding [v] (eval (.Name x p) X.env)
      let iv ← holding [v, ov] (eval (.Constant (.str key) jj p') X.env)
      standAt p2
      holding [v, ov, iv] (setItem ov iv v)
      release [v, ov, iv] []) := by intro _; rfl)
    (hs : swapsWithSole [.Subscript (.Name x p) (.Constant (.str key) jj p') p2] e pos.line X.env = pure false := by rfl) (hw : swappedStores [.Subscript (.Name x p) (.Constant (.str key) jj p') p2] e X.env = pure none := by rfl)
    (h1 : (assignEach [.Subscript (.Name x p) (.Constant (.str key) jj p') p2] X.env).map (·.2) = [assign (.Subscript (.Name x p) (.Constant (.str key) jj p') p2) X.env] := by rfl) : SX X (.Assign [.Subscript (.Name x p) (.Constant (.str key) jj p') p2] e pos) δ E :=
  SX.of (ps_asg pe_c (pg_sub (pe_var hN hvs hb hcd) (pe_c (e := .Constant (.str key) jj p')) (set_dict (by have := hr.un; omega)) ha) hs hw h1) fun σ S0 H0 S H D g so q => rd_c he σ H0 S H _ so fun y S1 H1 g1 dy => by
    obtain ⟨w, e1, f1, f2, f3, f4⟩ := feed_at (so.grow g1) hd
    refine ⟨_, e1, rd_c ex_str σ H0 S1 H1 _ (so.grow g1) fun z S2 H2 g2 dz => ?_⟩
    have hs2 : S2 t = none := g2.nw t f1 (by rw [f3]; exact fun z => nomatch z)
    have hh2 := g2.hh _ _ f3
    refine ⟨t, upd H2 t (.dK (fv w u' v' c')), rfl, ?_, ?_⟩
    · rw [dp_str dz, dp_int dy, ← hp w]
      exact DPut.k (k := .inr key) hh2 (by show 4 < sizeLine; decide)
    · refine q.nx σ _ S2 _ kk ((g.trans (g1.trans g2)).mut f2 hs2) (((so.grow g1).grow g2).change hd trivial e1 ?_)
      exact ⟨_, rfl, hs2, f2, upd_same, fk_mk (f4.mono g2.ss)⟩
/-! ### effects -/
/-- an int and an effect's int -/
theorem ef_addN {k : Int} (ha : EX X a δ (.int k)) (hb : EF X b δ P) {P' : PyData → List Slot → Prop} (hP : ∀ d δ', P d δ' → ∃ i : Int, d = .int i ∧ P' (.int (k + i)) δ') : EF X (.BinOp a .Add b pos) δ P' :=
  EF.of (pe_op op_add pe_c pe_f) fun σ S0 H0 S H Q g so q => rd_c ha σ H0 S H _ so fun v S1 H1 g1 d1 => rd_f hb σ S0 H0 S1 H1 _ (g.trans g1) (so.grow g1) fun w d δ' S' H' hp g' so' dw => by
    obtain ⟨i, rfl, hp'⟩ := hP d δ' hp
    exact ⟨k, i, dp_int d1, dp_int dw, q _ _ δ' S' H' hp' g' so' (.int _)⟩
/-- items[effect] -/
theorem ef_ix (ha : EX X a δ d) (hsq : isSeq d ds) (hb : EF X b δ P) {P' : PyData → List Slot → Prop} (hP : ∀ y δ', P y δ' → ∃ (k : Nat) (z : PyData), y = dI k ∧ ds[k]? = some z ∧ P' z δ') (hp : PlainIx b := by intro _ _; rfl) : EF X (.Subscript a b pos) δ P' := by
  rcases hsq with rfl | rfl
  · refine EF.of (pe_ix ix_list pe_c pe_f hp) fun σ S0 H0 S H Q g so q => rd_c ha σ H0 S H _ so fun v S1 H1 g1 d1 => rd_f hb σ S1 H0 S1 H1 _ (g.trans g1).rebase (so.grow g1) fun w y δ' S' H' hp g' so' dw => ?_
    obtain ⟨k, z, rfl, hz, hp'⟩ := hP y δ' hp
    obtain ⟨l, xs, rfl, h2, h3⟩ := dp_lst d1
    obtain ⟨u, hu, du⟩ := dps_getD h3 hz
    exact ⟨l, xs, k, u, rfl, dp_int dw, Same.sql g'.sh (Same.sql g'.ss h2), atI_nat hu, q _ _ δ' S' H' hp' ((g.trans g1).back g') so' (du.mono g'.ss)⟩
  · refine EF.of (pe_ix ix_tup pe_c pe_f hp) fun σ S0 H0 S H Q g so q => rd_c ha σ H0 S H _ so fun v S1 H1 g1 d1 => rd_f hb σ S1 H0 S1 H1 _ (g.trans g1).rebase (so.grow g1) fun w y δ' S' H' hp g' so' dw => ?_
    obtain ⟨k, z, rfl, hz, hp'⟩ := hP y δ' hp
    obtain ⟨l, xs, rfl, h2, h3⟩ := dp_tup d1
    obtain ⟨u, hu, du⟩ := dps_getD h3 hz
    exact ⟨l, xs, k, u, rfl, dp_int dw, Same.sqt g'.sh (Same.sqt g'.ss h2), atI_nat hu, q _ _ δ' S' H' hp' ((g.trans g1).back g') so' (du.mono g'.ss)⟩
/-- owned.pop(effect) -/
theorem sx_popF (k : Nat) (hk : δ[k]? = some (.own ds)) (he : EF X e δ P) (kk : ∀ y δ', P y δ' → ∃ j : Nat, y = dI j ∧ j < ds.length ∧ δ'[k]? = some (.own ds) ∧ E.nx (δ'.set k (.own (ds.eraseIdx j)))) (hz : ds.length < 2 ^ 40) (hN : X.N[k]? = some x := by rfl)
    (hv : Vis X.env.scope x := by first | exact Or.inl rfl | exact Or.inr (Or.inl rfl) | exact Or.inr (Or.inr rfl)) (hb : (x == ("__debug__" : Str)) = false := by decide) (hcd : (x == ("__classdict__" : Str)) = false := by decide)
    (hbase : attributeBase (.Name x p) "pop" X.env (eval (.Name x p) X.env) = eval (.Name x p) X.env := by rfl) (hfew : ((backTo p2 (starEach [e] X.env)).all (fun x => !x.1) && (backToKw p2 (keywordEach [] X.env)).all (fun x => x.1.isSome) && decide (([e] : List Expr).length + ([] : List Keyword).length + (if ([] : List Keyword).isEmpty then 0 else 1) < 30)) = true := by rfl) (hline : (apos.endLine == p2.line) = true := by rfl) (hst : starEach [e] X.env = (false, eval e X.env) :: starEach [] X.env := by rfl)
    (hpl : (backTo p2 (starEach [] X.env)).any (·.1) = false := by rfl) (hs : swapsWith (.Call (.Attribute (.Name x p) "pop" apos) [e] [] p2) none pos.line X.env = pure false := by rfl) :
    SX X (.Expr (.Call (.Attribute (.Name x p) "pop" apos) [e] [] p2) pos) δ E :=
  SX.of (ps_expr (pe_bm PySem.F.plainAttrs_list PySem.F.slot_list_pop PySem.F.type_list_pop mt_popAt (pe_var hN hv hb hcd) (pa_cons pe_f pa_nil hst) hbase hfew hline hst hpl) hs) fun σ S0 H0 S H D g so q => by
    obtain ⟨l, vs, e1, hs1, h01, hh1, hd1⟩ := own_at so hk
    refine ⟨_, e1, Or.inl ⟨rfl, _, SqL.of hh1⟩, ?_⟩
    refine rd_f he σ S0 H0 S H _ g so fun v y δ' S' H' hp g1 so1 dv => ?_
    obtain ⟨j, rfl, hj, hk', kk'⟩ := kk y δ' hp
    obtain ⟨l2, vs2, e2, hs2, h02, hh2, hd2⟩ := own_at so1 hk'
    rw [e1] at e2
    cases e2
    have hvl := dps_len hd2
    obtain ⟨u, hu⟩ : ∃ u, vs2[j]? = some u := ⟨vs2[j]'(by omega), List.getElem?_eq_getElem (by omega)⟩
    refine ⟨l, vs2, (j : Int), j, u, rfl, by rw [dp_int dv], hh2, by omega, by omega, ?_, hu, ?_⟩
    · have e0 : ¬ ((j : Int) < 0) := by omega
      simp only [seqIndex?, if_neg e0]
      rw [if_pos (by simp only [Bool.and_eq_true, decide_eq_true_eq]; omega), Int.toNat_natCast]
    refine q.nx σ _ S' _ kk' (g1.mut h02 hs2) (so1.change hk' trivial e1 ?_)
    exact ⟨l, _, rfl, hs2, h02, upd_same, dps_erase j hd2⟩
end
/-! ### defs that change the feed -/
/-- the promise: the feed ahead, then data that are allowed; an answer that is good, the feed still a feed -/
def spF (K : PySem.W.Frag) (Pre : List PyData → Prop) (G : List PyData → PyData → Prop) : Sp := fun vs H Q _ => ∃ (S : Hp) (t : Addr) (kvs : List (Key × V)) (us : List V) (ds : List PyData) (cs : List Int) (a b c : Int),
  vs = .ref t :: us ∧ Same S H ∧ S t = none ∧ H t = some (.dK kvs) ∧ KvOk K S kvs (fk cs a b c) ∧ DpAll K S us ds ∧ Pre ds ∧
  ∀ v d kvs' a' b' c' S' H', G ds d → Gr S (hide H t) S' H' → S' t = none → H' t = some (.dK kvs') → KvOk K S' kvs' (fk cs a' b' c') → Dp K S' v d → Q v H'
structure HasF (P : Program) (w : World) (K : PySem.W.Frag) (mg : Str → Option Value) (base : Heap) (k : Nat) (x : Str) (ps : List Str) (Pre : List PyData → Prop) (G : List PyData → PyData → Prop) : Prop where
  ex : ∃ f fd, FnOk P w K mg base CX0 k f fd ps (spF K Pre G) ∧ Binds K fd ps [] ∧ mg x = some (.ref f) ∧ PySem.W.keepIn K (.ref f) = true
section
variable {P : Program} {w : World} {K : PySem.W.Frag} {mg : Str → Option Value} {base : Heap}
theorem hasF_mk {x : Str} {st : Stmt} {N ps : List Str} {k : Nat} {Pre : List PyData → Prop} {G : List PyData → PyData → Prop} (D : Dfn K mg x st ps) (S : FnScope N ps (defScope st)) (hl : ∀ ds, Pre ds → ds.length + 1 = ps.length)
    (body : ∀ f cdv A outer s H E, Room k (cxOf CX0 P w K mg base N x (defScope st) f cdv A outer s H E).nox.A → ∀ ds t cs a b c, Pre ds →
      SXs (cxOf CX0 P w K mg base N x (defScope st) f cdv A outer s H E).nox (defBody st) (startF N t (fk cs a b c) ds) { nx := fun _ => False, rt := fun r δ' => G ds r ∧ ∃ a' b' c', δ'[0]? = some (fdS t cs a' b' c') }) :
    HasF P w K mg base (k + 1) x ps Pre G := by
  obtain ⟨f, fd, F, b, m⟩ := D.ex
  refine ⟨f, fd, ?_, b, m, F.kp⟩
  refine F.ok S (fun vs H Q E h => ?_) fun cdv A outer s H vs Q E hr h => ?_
  · obtain ⟨S', t, kvs, us, ds, cs, a, b, c, rfl, h1, h2, h3, h4, h5, h6, h7⟩ := h
    rw [List.length_cons, dps_len h5]
    exact hl ds h6
  · obtain ⟨S', t, kvs, us, ds, cs, a, b, c, rfl, h1, h2, h3, h4, h5, h6, q⟩ := h
    refine ⟨_, pss_c, startF N t (fk cs a b c) ds, _, S', hide H t, S', body _ cdv A outer s H E hr ds t cs a b c h6, hide_same h1 h2, start_okF h1 h2 h3 h4 h5, ?_⟩
    refine ⟨fun _ _ _ _ e => e.elim, fun v r σ' δ' S1 H1 e g so dv => ?_, fun _ _ _ _ e => e.elim, fun _ _ _ _ e => e.elim⟩
    obtain ⟨hg, a', b', c', hδ⟩ := e
    obtain ⟨o, e1, ws, rfl, k1, k2, k3, k4⟩ := so.at_ 0 _ hδ
    exact q v r ws a' b' c' S1 H1 hg g k1 k3 k4 dv
end
section
variable {X : Cx} {e : Expr} {es : List Expr} {δ : List Slot} {ds : List PyData} {pos p p2 : Pos} {x y : Str} {t : Addr} {cs : List Int} {u v c : Int} {Pre : List PyData → Prop} {G : List PyData → PyData → Prop} {ps : List Str} {j k : Nat}
theorem ef_callF (i : Nat) (F : HasF X.prog X.w X.K X.mg X.base j x ps Pre G) (hr : Room k X.A) (hd : δ[i]? = some (fdS t cs u v c)) (ha : AX X es δ ds) (hP : Pre ds) (hj : j ≤ k := by decide) (hg : Gl X x := by rfl) (hdb : (x == ("__debug__" : Str)) = false := by decide)
    (hN : X.N[i]? = some y := by rfl) (hvs : Vis X.env.scope y := by first | exact Or.inl rfl | exact Or.inr (Or.inl rfl) | exact Or.inr (Or.inr rfl)) (hb : (y == ("__debug__" : Str)) = false := by decide) (hcd : (y == ("__classdict__" : Str)) = false := by decide)
    (he : starEach (.Name y p2 :: es) X.env = (false, eval (.Name y p2) X.env) :: starEach es X.env := by rfl) (hpl : (backTo pos (starEach es X.env)).any (·.1) = false := by rfl) :
    EF X (.Call (.Name x p) (.Name y p2 :: es) [] pos) δ (fun d δ' => G ds d ∧ ∃ u' v' c', δ' = δ.set i (fdS t cs u' v' c')) := by
  obtain ⟨f, fd, F, b, m, kp⟩ := F.ex
  refine EF.of (pe_call F (hr.mono hj) hg m kp b .nil pass0 (pa_cons (pe_var hN hvs hb hcd) pa_c he) hdb he hpl) fun σ S0 H0 S H Q g so q => ?_
  obtain ⟨w, e1, h1, h2, h3, h4⟩ := feed_at so hd
  refine ⟨_, e1, rd_a ha σ H0 S H _ so fun vs S1 H1 g1 d1 => ?_⟩
  have hs1 : S1 t = none := g1.nw t h1 (by rw [h3]; exact fun z => nomatch z)
  refine ⟨S1, t, _, vs, ds, cs, u, v, c, by rw [List.append_nil], g1.sh, hs1, g1.hh _ _ h3, fk_mk (h4.mono g1.ss), d1, hP, fun r d kvs' a' b' c' S' H' hG g2 hs' hh' kv' dr => ?_⟩
  exact q r d _ S' H' ⟨hG, a', b', c', rfl⟩ ((g.trans g1).hideTr h2 g2) ((so.grow g1).hideGr hd g2 hs' hh' kv') dr
end
end DL
set_option Elab.async false
set_option linter.all false
set_option maxRecDepth 100000
set_option maxHeartbeats 4000000
/-! TX13: the feed's defs. -/
namespace DL
open PySem PySem.Spec PyProof.Rows L2 MI
theorem int_lay : ∀ r : List Int, PyData.canLayAll0 (r.map .int) = true
  | [] => by simp [PyData.canLayAll0]
  | x :: r => by
    have := int_lay r
    simp only [List.map_cons, PyData.canLayAll0, PyData.canLay0] at this ⊢
    simpa using this
theorem int_depth : ∀ r : List Int, PyData.depthAll (r.map .int) ≤ 1
  | [] => by simp [PyData.depthAll]
  | x :: r => by
    have := int_depth r
    simp only [List.map_cons, PyData.depthAll, PyData.depth] at this ⊢
    omega
theorem int_shaped (r : List Int) : SeqAt.shaped (.list (r.map .int)) = true := by
  have h1 := int_depth r
  have h2 : PyData.depth (.list (r.map .int)) ≤ 64 := by
    simp only [PyData.depth]
    omega
  show (PyData.canLay0 (.list (r.map .int)) && decide (PyData.depth (.list (r.map .int)) ≤ 64)) = true
  rw [Bool.and_eq_true]
  exact ⟨by simp only [PyData.canLay0]; exact int_lay r, decide_eq_true h2⟩
theorem mod_in (x : Int) {many : Nat} (h : 0 < many) : ∃ r : Nat, r < many ∧ PyData.int (x % (many : Int)) = dI r := by
  have h1 := Int.emod_nonneg x (show (many : Int) ≠ 0 by omega)
  have h2 := Int.emod_lt_of_pos x (show (0 : Int) < (many : Int) by omega)
  refine ⟨(x % (many : Int)).toNat, by omega, ?_⟩
  show PyData.int _ = PyData.int _
  congr 1
  omega
def cellOf (cs : List Int) (u : Int) : Int := if 0 < cs.length then cs.getD (u % (cs.length : Int)).toNat 0 else 54151
section
variable {P : Program} {w : World} {K : PySem.W.Frag} {mg : Str → Option Value} {base : Heap}
def pDraw : List PyData → Prop := fun ds => ∃ many : Nat, ds = [dI many] ∧ 0 < many ∧ many < 2 ^ 20
def gDraw : List PyData → PyData → Prop := fun ds d => ∃ many r : Nat, ds = [dI many] ∧ r < many ∧ d = dI r
theorem has_l_draw (T : Txt K mg) : HasF P w K mg base 1 "_law_draw" P_l_draw pDraw gDraw := by
  refine hasF_mk T.d_l_draw sc_l_draw (fun ds ⟨m, h, _⟩ => by rw [h]; rfl) fun f cdv A outer s H E hr ds t cs u v c hP => ?_
  obtain ⟨many, rfl, hm, hm2⟩ := hP
  refine sxs_step [fdS t cs u v (c + 1), .d (dI many), .un, .un, .un, .un] (fun N hN => sx_fset 0 "drawn" u v (c + 1) hr rfl (ex_add (ex_drawn 0 hr rfl) ex_int) (fun w => rfl) hN) ?_
  refine sxs_step [fdS t cs u v (c + 1), .d (dI many), .un, .un, .un, .un] (fun N hN => sx_if (k := decide (0 < v)) (tx_gt (ex_left 0 hr rfl) ex_int) (fun _ => ?_) fun _ => sxs_nil hN) ?_
  · refine sxs_step [fdS t cs u v (c + 1), .d (dI many), .d (.int (v % (many : Int))), .un, .un, .un] (fun N hN => sx_set 2 (ex_mod (ex_intOf (ex_left 0 hr rfl) T.b_int) (ex_var 1 rfl) (by omega)) hN sc_l_draw.nd) ?_
    refine sxs_step [fdS t cs u (v / (many : Int)) (c + 1), .d (dI many), .d (.int (v % (many : Int))), .un, .un, .un] (fun N hN => sx_fset 0 "left" u (v / (many : Int)) (c + 1) hr rfl (ex_fdiv (ex_left 0 hr rfl) (ex_var 1 rfl) (by omega)) (fun w => rfl) hN) ?_
    obtain ⟨r, hr1, e⟩ := mod_in v hm
    exact sxs_last (sx_ret (ex_var 2 rfl) ⟨⟨many, r, rfl, hr1, e⟩, _, _, _, rfl⟩)
  refine sxs_step [fdS t cs u v (c + 1), .d (dI many), .un, .d (.int u), .un, .un] (fun N hN => sx_set 3 (ex_spot 0 hr rfl) hN sc_l_draw.nd) ?_
  refine sxs_step [fdS t cs (u + 1) v (c + 1), .d (dI many), .un, .d (.int u), .un, .un] (fun N hN => sx_fset 0 "spot" (u + 1) v (c + 1) hr rfl (ex_add (ex_var 3 rfl) ex_int) (fun w => rfl) hN) ?_
  refine sxs_step [fdS t cs (u + 1) v (c + 1), .d (dI many), .un, .d (.int u), .d (.int (cellOf cs u)), .un] (fun N hN => sx_set 4 ?_ hN sc_l_draw.nd) ?_
  · refine ex_if (k := decide (0 < (cs.map PyData.int).length)) (tx_neNil hr (ex_cells 0 hr rfl) (int_shaped cs) (exo_lst ax_nil (by decide)).ex) (fun h => ?_) fun h => ?_
    · have h := of_decide_eq_true h
      rw [List.length_map] at h
      have h1 := Int.emod_nonneg u (show (cs.length : Int) ≠ 0 by omega)
      have h2 := Int.emod_lt_of_pos u (show (0 : Int) < (cs.length : Int) by omega)
      refine ex_at (k := (u % (cs.length : Int)).toNat) (ds := cs.map .int) (ex_cells 0 hr rfl) (.inl rfl) ((ex_mod (ex_intOf (ex_var 3 rfl) T.b_int) (ex_len (ex_cells 0 hr rfl) (.inl rfl) T.b_len) (by rw [List.length_map]; omega)).is ?_) ?_
      · show PyData.int _ = PyData.int _
        congr 1
        rw [List.length_map]
        omega
      · unfold cellOf
        rw [if_pos h, List.getElem?_map, List.getD_eq_getElem?_getD, List.getElem?_eq_getElem (by omega)]
        rfl
    · have h := of_decide_eq_false h
      rw [List.length_map] at h
      unfold cellOf
      rw [if_neg h]
      exact ex_int
  generalize cellOf cs u = cell
  refine sxs_step [fdS t cs (u + 1) v (c + 1), .d (dI many), .un, .d (.int u), .d (.int cell), .un] (fun N hN => sx_if (k := decide ((10 : Int) ^ (18 : Int).toNat ≤ cell) && decide (u < ((cs.map PyData.int).length : Int))) (wx_and (tx_ge (ex_var 4 rfl) (ex_pow ex_int ex_int (by decide))) fun _ => wx_and1 (tx_lt (ex_var 3 rfl) (ex_len (ex_cells 0 hr rfl) (.inl rfl) T.b_len))).tx (fun _ => ?_) fun _ => sxs_nil hN) ?_
  · refine sxs_step [fdS t cs (u + 1) (cell / (many : Int)) (c + 1), .d (dI many), .un, .d (.int u), .d (.int cell), .un] (fun N hN => sx_fset 0 "left" (u + 1) (cell / (many : Int)) (c + 1) hr rfl (ex_fdiv (ex_var 4 rfl) (ex_var 1 rfl) (by omega)) (fun w => rfl) hN) ?_
    obtain ⟨r, hr1, e⟩ := mod_in cell hm
    exact sxs_last (sx_ret (ex_mod (ex_intOf (ex_var 4 rfl) T.b_int) (ex_var 1 rfl) (by omega)) ⟨⟨many, r, rfl, hr1, e⟩, _, _, _, rfl⟩)
  refine sxs_step [fdS t cs (u + 1) v (c + 1), .d (dI many), .un, .d (.int u), .d (.int cell), .d (.int ((cell % 1000004051 + 70081 * (c + 1) + 1277) % 2147482877))] (fun N hN => sx_set 5 (ex_mod (ex_intOf (ex_add (ex_add (ex_mod (ex_intOf (ex_var 4 rfl) T.b_int) ex_int (by decide)) (ex_mul ex_int (ex_drawn 0 hr rfl) (Or.inl (by decide)))) ex_int) T.b_int) ex_int (by decide)) hN sc_l_draw.nd) ?_
  have hb : ∀ x : Int, -(2 ^ 64) < x % 2147482877 ∧ x % 2147482877 < 2 ^ 64 := fun x => by omega
  generalize hm1 : (cell % 1000004051 + 70081 * (c + 1) + 1277) % 2147482877 = m1
  have b1 : -(2 ^ 64) < m1 ∧ m1 < 2 ^ 64 := hm1 ▸ hb _
  refine sxs_step [fdS t cs (u + 1) v (c + 1), .d (dI many), .un, .d (.int u), .d (.int cell), .d (.int ((m1 * m1 + 4400929 * (c + 1) + 1277) % 2147482873))] (fun N hN => sx_set 5 (ex_mod (ex_intOf (ex_add (ex_add (ex_mul (ex_var 5 rfl) (ex_var 5 rfl) (Or.inl b1)) (ex_mul ex_int (ex_drawn 0 hr rfl) (Or.inl (by decide)))) ex_int) T.b_int) ex_int (by decide)) hN sc_l_draw.nd) ?_
  generalize hm2 : (m1 * m1 + 4400929 * (c + 1) + 1277) % 2147482873 = m2
  have b2 : -(2 ^ 64) < m2 ∧ m2 < 2 ^ 64 := by
    rw [← hm2]
    generalize m1 * m1 + 4400929 * (c + 1) + 1277 = z
    omega
  obtain ⟨r, hr1, e⟩ := mod_in ((m2 * m2 + 1213 * m2) % 2147482867 / 16) hm
  exact sxs_last (sx_ret (ex_mod (ex_intOf (ex_fdiv (ex_mod (ex_intOf (ex_add (ex_mul (ex_var 5 rfl) (ex_var 5 rfl) (Or.inl b2)) (ex_mul ex_int (ex_var 5 rfl) (Or.inl (by decide)))) T.b_int) ex_int (by decide)) ex_int (by decide)) T.b_int) (ex_var 1 rfl) (by omega)) ⟨⟨many, r, rfl, hr1, e⟩, _, _, _, rfl⟩)
/-! ### pick -/
def pPick : List PyData → Prop := fun ds => ∃ items, ds = [.list items] ∧ 0 < items.length ∧ items.length < 2 ^ 20
def gPick : List PyData → PyData → Prop := fun ds d => ∃ items, ds = [.list items] ∧ d ∈ items
theorem has_l_pick (T : Txt K mg) : HasF P w K mg base 2 "_law_pick" P_l_pick pPick gPick := by
  refine hasF_mk T.d_l_pick sc_l_pick (fun ds ⟨m, h, _⟩ => by rw [h]; rfl) fun f cdv A outer s H E hr ds t cs u v c hP => ?_
  obtain ⟨items, rfl, h1, h2⟩ := hP
  refine sxs_last (sx_retF (ef_ix (P' := fun d δ' => d ∈ items ∧ ∃ a' b' c', δ'[0]? = some (fdS t cs a' b' c')) (ex_var 1 rfl) (.inl rfl) (ef_callF 0 (has_l_draw T) hr rfl (ax_cons (ex_len (ex_var 1 rfl) (.inl rfl) T.b_len) ax_nil) ⟨items.length, rfl, h1, h2⟩) fun y δ' hy => ?_) fun d δ' hd => ⟨⟨items, rfl, hd.1⟩, hd.2⟩)
  obtain ⟨⟨many, r, e, hr1, rfl⟩, a', b', c', rfl⟩ := hy
  have em : many = items.length := by
    have := PyData.int.inj (List.cons.inj e).1
    omega
  subst em
  exact ⟨r, items[r], rfl, List.getElem?_eq_getElem hr1, List.getElem_mem hr1, a', b', c', rfl⟩
/-! ### the feed made -/
def spFeed (K : PySem.W.Frag) : Sp := fun vs H Q _ => ∃ (S : Hp) (v : V) (ns : List Int), vs = [v] ∧ Same S H ∧ Dp K S v (.list (ns.map .int)) ∧ ns.length ≤ 100000 ∧
  ∀ t kvs S' H', Gr S H S' H' → H t = none → S' t = none → H' t = some (.dK kvs) → KvOk K S' kvs (fk (ns.take 63) 0 0 0) → Q (.ref t) H'
theorem has_l_feed (T : Txt K mg) : ∃ f fd, FnOk P w K mg base CX0 1 f fd P_l_feed (spFeed K) ∧ Binds K fd P_l_feed [] ∧ mg "_law_feed" = some (.ref f) ∧ PySem.W.keepIn K (.ref f) = true := by
  obtain ⟨f, fd, F, b, m⟩ := T.d_l_feed.ex
  refine ⟨f, fd, ?_, b, m, F.kp⟩
  refine F.ok sc_l_feed (fun vs H Q E h => ?_) fun cdv A outer s H vs Q E hr h => ?_
  · obtain ⟨S', v, ns, rfl, _⟩ := h
    rfl
  · obtain ⟨S, v, ns, rfl, h1, h2, h3, q⟩ := h
    refine ⟨_, pss_one (ps_ret (pe_disp (pps_cons pe_c (pe_c (e := .ListComp _ _ _ _)) (pps_cons pe_c pe_c (pps_cons pe_c pe_c (pps_cons pe_c pe_c pps_nil)))) rfl rfl (by intro z; cases z) (by decide))), ?_⟩
    have so0 : StOk K H S H (L2.start N_l_feed [v]) (startD N_l_feed [.list (ns.map .int)]) := start_ok h1 (.cons h2 .nil)
    intro t ht
    have g0 : Gr S H S (upd H t (.dK [])) := (Gr.refl h1).owned ht
    have so1 := so0.grow g0
    have st : S t = none := h1.free ht
    refine rd_c ex_str _ H S _ _ so1 fun k1 S1 H1 g1 d1 => ?_
    refine rd_c (d := .list ((ns.take 63).map .int)) ?_ _ H S1 H1 _ (so1.grow g1) fun v1 S2 H2 g2 d2 => ?_
    · refine EXo.ex ?_
      refine (exo_mapA 1 (xs := ns.take 63) (emb := PyData.int) PyData.int (fun a b e => PyData.int.inj e) rfl sc_l_feed.nd (ix_seq ((exo_sliceHi (k := 63) (ex_var 0 rfl) ex_int).ex.is (by rw [List.map_take])) (.inl rfl)) (by rw [List.length_take, sizeLine_eq]; omega) fun a ha s' H' C cl fp => ?_)
      exact ex_intOf (ex_var 1 rfl) T.b_int
    refine rd_c ex_str _ H S2 H2 _ ((so1.grow g1).grow g2) fun k2 S3 H3 g3 d3 => ?_
    refine rd_c (ex_int (i := 0)) _ H S3 H3 _ (((so1.grow g1).grow g2).grow g3) fun v2 S4 H4 g4 d4 => ?_
    refine rd_c ex_str _ H S4 H4 _ ((((so1.grow g1).grow g2).grow g3).grow g4) fun k3 S5 H5 g5 d5 => ?_
    refine rd_c (ex_int (i := 0)) _ H S5 H5 _ (((((so1.grow g1).grow g2).grow g3).grow g4).grow g5) fun v3 S6 H6 g6 d6 => ?_
    refine rd_c ex_str _ H S6 H6 _ ((((((so1.grow g1).grow g2).grow g3).grow g4).grow g5).grow g6) fun k4 S7 H7 g7 d7 => ?_
    refine rd_c (ex_int (i := 0)) _ H S7 H7 _ (((((((so1.grow g1).grow g2).grow g3).grow g4).grow g5).grow g6).grow g7) fun v4 S8 H8 g8 d8 => ?_
    have gg : Gr S (upd H t (.dK [])) S8 H8 := g1.trans (g2.trans (g3.trans (g4.trans (g5.trans (g6.trans (g7.trans g8))))))
    have ht8 : H8 t = some (.dK []) := gg.hh _ _ upd_same
    have hs8 : S8 t = none := gg.nw t st (by rw [upd_same]; exact fun z => nomatch z)
    refine ⟨ht8, fv v1 0 0 0, ?_, by show 4 ≤ 15; decide, ?_⟩
    · rw [dp_str d1, dp_str d3, dp_str d5, dp_str d7, dp_int d4, dp_int d6, dp_int d8]
      rfl
    · have e0 : mergeK [] (fv v1 0 0 0) = fv v1 0 0 0 := rfl
      rw [e0]
      refine q t _ S8 _ ((g0.trans gg).mut ht hs8) ht hs8 upd_same (fk_mk (d2.mono (g3.ss.trans (g4.ss.trans (g5.ss.trans (g6.ss.trans (g7.ss.trans g8.ss)))))))
end
section
variable {X : Cx} {a : Expr} {δ : List Slot} {pos p p2 p' : Pos} {x : Str} {E : DE} {k : Nat} {ns : List Int}
theorem sx_feed (i : Nat) (T : Txt X.K X.mg) (hr : Room k X.A) (ha : EX X a δ (.list (ns.map .int))) (hl : ns.length ≤ 100000) (hj : 1 ≤ k) (kk : ∀ t, E.nx (δ.set i (fdS t (ns.take 63) 0 0 0))) (hN : X.N.Nodup) (hg : Gl X "_law_feed" := by rfl) (hi : X.N[i]? = some x := by rfl) (hx : Loc X.env.scope x := by first | exact Or.inl rfl | exact Or.inr rfl)
    (hs : swapsWith (.Call (.Name "_law_feed" p) [a] [] p2) (some (.Name x p')) pos.line X.env = pure false := by rfl) (hf : X.fn x = true ∨ X.env.scope.names.lookup x = some .local := by first | exact .inl rfl | exact .inr rfl)
    (he : starEach [a] X.env = (false, eval a X.env) :: starEach [] X.env := by rfl) (hpl : (backTo p2 (starEach [] X.env)).any (·.1) = false := by rfl) : SX X (.Assign [.Name x p'] (.Call (.Name "_law_feed" p) [a] [] p2) pos) δ E := by
  obtain ⟨f, fd, F, b, m, kp⟩ := has_l_feed (P := X.prog) (w := X.w) (base := X.base) T
  refine SX.of (ps_set hN hi hx (pe_call F (hr.mono hj) hg m kp b .nil pass0 (pa_cons pe_c pa_nil he) (by decide) he hpl) hs hf) fun σ S0 H0 S H D g so q => ?_
  refine rd_c ha σ H0 S H _ so fun v S1 H1 g1 d1 => ?_
  refine ⟨S1, v, ns, rfl, g1.sh, d1, hl, fun t kvs S' H' g2 hn hs' hh' kv => ?_⟩
  have so2 := (so.grow g1).grow g2
  refine q.nx _ _ S' H' (kk t) (g.trans (g1.trans g2)) (so2.setO i ⟨kvs, rfl, hs', (g.trans g1).hfree hn, hh', kv⟩ fun j s e o z => ((so.grow g1).ownedAt e o z).1 hn)
end
end DL
set_option Elab.async false
set_option linter.all false
set_option maxRecDepth 100000
set_option maxHeartbeats 4000000
/-! FG: defs that are run where no repr is under way; the law's head for one. -/
namespace DL
open PySem PySem.Spec PyProof.Rows L2 MI
/-- the promise of a def, asked for only where no repr is under way -/
structure FnG (P : Program) (w : World) (K : PySem.W.Frag) (mg : Str → Option Value) (base : Heap) (k : Nat) (f : Addr) (fd : FuncData) (ps : List Str) (sp : Sp) : Prop where
  len : ∀ vs H Q E, sp vs H Q E → vs.length = ps.length
  go : ∀ (A : Around) (outer : List Env) (s : Shared) (H : Hp) (args : Args) (us : List Value) (vs : List V) (Q : VK) (E : XK), A.guards = some [] → Room k A → Env0 P w K mg base A outer s H → BindsTo s fd args (ps.zip us) → Vals vs us → sp vs H Q E →
    codeAny (model P w) A (.call (.ref f) args) (CR CX0 outer P w H s Q E) s
section
variable {P : Program} {w : World} {K : PySem.W.Frag} {mg : Str → Option Value} {base : Heap}
theorem fnG_mk {x qual : Str} {st : Stmt} {f : Addr} {fd : FuncData} {N ps : List Str} {k : Nat} {sp : Sp} (F : Fun K x qual st f fd) (S : FnScope N ps (defScope st)) (len : ∀ vs H Q E, sp vs H Q E → vs.length = ps.length)
    (body : ∀ (cdv : Value) (A : Around) (outer : List Env) (s : Shared) (H : Hp) (vs : List V) (Q : VK) (E : XK), A.guards = some [] → Room k (A.deeper (envOfC qual (defScope st) s.heap.objs.size f cdv)) → sp vs H Q E →
      ∃ t, PSs (cxOf CX0 P w K mg base N qual (defScope st) f cdv A outer s H E).nox (defBody st) t ∧ t { nx := fun _ H' => Q .non H', rt := Q } (L2.start N vs) H) : FnG P w K mg base (k + 1) f fd ps sp := by
  obtain ⟨oc, od, kV, doc, pm, an, cdv, ct, osl, rfl, at_, code⟩ := F.ex
  refine ⟨len, fun A outer s H args us vs Q E quiet room env binds vals promise => ?_⟩
  have stands : K.In s.heap := env.mod.kin.keeps fun b o q => (env.bs b o q).1
  have cells : ∀ y ∈ ps.zip us, (defScope st).names.lookup y.1 = some .local ∨ ((defScope st).names.lookup y.1 = some .cell ∧ ((cellsFrom (s.heap.objs.size + 1) (defScope st).names []).lookup y.1).isSome = true) := by
    rintro ⟨n, v⟩ hy
    rcases S.par n (List.of_mem_zip hy).1 with q | q
    · exact Or.inl q
    · exact Or.inr ⟨q, PySem.W.cellsFrom_some _ _ _ (Or.inl q)⟩
  refine codeAny_call_function room.depth (stands _ _ at_) rfl S.co S.gen rfl (PySem.W.codeRec_of stands code) (binds _ _ _ _ ?_)
  refine wpAny_newFunctionEnv_cells S.kind cells fun env' e s1 x => ?_
  subst e
  have lim : s.heap.NoLimit := env.mod.nolimit.keeps fun b o q => (env.bs b o q).1
  refine ⟨lim.keeps x.toInCall.keep, codeAny_func ?_⟩
  obtain ⟨t, runs, reads⟩ := body cdv A outer s H vs Q E quiet (room.deeper _) promise
  have I : Inv (cxOf CX0 P w K mg base N qual (defScope st) f cdv A outer s H E) [] (L2.start N vs) H s1 := inv_start S room.hd env (len _ _ _ _ promise) vals x
  refine wpAny_mono (runs.nox.run [] s1 (L2.start N vs) H _ I reads) (fun fl s' over => ?_) fun _ _ over => over
  cases fl with
  | ret u =>
    obtain ⟨v, σ', H', J, rv, q⟩ := over
    exact ⟨v, H', J.os, J.bare, J.base, J.hok, rv, q⟩
  | next =>
    obtain ⟨σ', H', J, q⟩ := over
    exact ⟨V.non, H', J.os, J.bare, J.base, J.hok, rfl, q⟩
  | brk =>
    obtain ⟨_, _, _, q⟩ := over
    exact False.elim q
  | cont =>
    obtain ⟨_, _, _, q⟩ := over
    exact False.elim q
end
section
variable {X : Cx} {k : Nat} {f : Addr} {fd : FuncData} {ps : List Str} {sp : Sp} {x : Str} {p pos : Pos} {e : Expr} {es : List Expr} {t : TA}
theorem pe_callG (F : FnG X.prog X.w X.K X.mg X.base k f fd ps sp) (quiet : X.A.guards = some []) (hr : Room k X.A) (hg : Gl X x) (hm : X.mg x = some (.ref f)) (hk : PySem.W.keepIn X.K (.ref f) = true) (hb : Binds X.K fd ps [])
    (ha : PA X (e :: es) t) (hdb : (x == ("__debug__" : Str)) = false := by decide) (he : starEach (e :: es) X.env = (false, eval e X.env) :: starEach es X.env := by rfl) (hpl : (backTo pos (starEach es X.env)).any (·.1) = false := by rfl) :
    PE X (.Call (.Name x p) (e :: es) [] pos) (tCall sp [] (fun _ _ _ => False) t) := by
  refine ⟨fun pins s σ H Q I h => wpAny_Call_Name_kw (ld_glob I hg hm ?_ hdb)⟩
  refine PySem.W.callWith_K (h₀ := X.base) I.ok.mod.kin hk (thn (ha.run pos pins s σ H _ I h) fun us s1 ⟨vs, H1, I1, r, q⟩ => ⟨I1.kIn, ?_⟩) he hpl
  have q : sp vs H1 Q (fun _ _ _ => False) := by simpa using q
  have hl : (us ++ []).length = ps.length := by rw [List.append_nil, ← r.length]; exact F.len _ _ _ _ q
  refine wpAny_call (codeAny_mono (F.go X.A X.stack s1 H1 ⟨us, []⟩ (us ++ []) vs Q _ quiet hr I1.env0 (hb s1 us I1.kIn hl) (by rw [List.append_nil]; exact r) q) fun z s' over => ?_)
  cases z with
  | error y => exact pass0 pins σ H1 s1 y s' I1 over
  | ok fl =>
    cases fl with
    | ret u => exact I1.after over
    | next => exact over.elim
    | brk => exact over.elim
    | cont => exact over.elim
end
end DL
set_option Elab.async false
set_option linter.all false
set_option maxRecDepth 100000
set_option maxHeartbeats 4000000
/-! FH: the law's head, where no repr is under way. -/
namespace DL
open PySem PySem.Spec PyProof.Rows L2 MI
section
variable {P : Program} {w : World} {K : PySem.W.Frag} {a : Addr} {s : Shared} {vs : List Value} {ns : List Int}
/-- the heap's abstract form: nothing but the script may stand in it -/
theorem script_heap (KX : K.In s.heap) (ha : s.heap.get? a = some { cls := .type "list", data := .seq vs.toArray }) (hi : IntsAre vs ns) (hl : ns.length ≤ sizeLine) :
    ∃ H : Hp, Only H ∧ SqL K H a (ns.map V.int) ∧ HOk P w H s.heap ∧ (∀ b, H b ≠ none → b = a) ∧ (H a ≠ none → K.lookup a = none) := by
  have rv := vals_ints hi
  have lenV := hi.length
  cases hk : K.lookup a with
  | some o =>
    have e := KX a o hk
    rw [ha] at e
    cases e
    refine ⟨fun _ => none, fun _ => Or.inl rfl, Or.inr ⟨_, vs.toArray, _, hk, rfl, rfl, rfl, ?_, by simpa using rv⟩, fun b u z => (by have z' : (none : Option HO) = some u := z; cases z'), fun b z => absurd rfl z, fun z => absurd rfl z⟩
    rw [List.size_toArray, lenV]
    exact hl
  | none =>
    let o : Obj := { cls := .type "list", data := .seq vs.toArray }
    let H : Hp := fun b => if b = a then some (.frz o (.lst (ns.map V.int))) else none
    have h1 : H a = some (.frz o (.lst (ns.map V.int))) := if_pos rfl
    have h2 : ∀ b, b ≠ a → H b = none := fun b n => if_neg n
    refine ⟨H, fun b => ?_, Or.inl (Or.inr ⟨o, h1⟩), fun b u z => ?_, fun b z => ?_, fun _ => rfl⟩
    · by_cases e : b = a
      · subst e
        exact Or.inr ⟨_, _, h1⟩
      · exact Or.inl (h2 b e)
    · by_cases e : b = a
      · subst e
        rw [h1] at z
        cases z
        exact ⟨ha, by rw [List.length_map]; exact hl, vs, _, rv, ha⟩
      · rw [h2 b e] at z
        cases z
    · by_cases e : b = a
      · exact e
      · exact absurd (h2 b e) z
theorem law_callG {mg mb : Str → Option Value} {k : Nat} {fa : Addr} {fd : FuncData} {x : Str} {sp : Sp}
    (KX : K.In s.heap) (hns : s.heap.Ns mainGlobals mg) (hb : s.heap.Ns builtinsNs mb) (hbb : ∀ x : Str, x ≠ "__name__" → mb x = bootBuiltins x) (hlim : s.heap.NoLimit) (hg : s.gens = #[])
    (ha : s.heap.get? a = some { cls := .type "list", data := .seq vs.toArray }) (hi : IntsAre vs ns) (hl : ns.length ≤ sizeLine) (hr : Room k callerA)
    (F : ∀ base : Heap, K.In base → base.Ns mainGlobals mg → FnG P w K mg base k fa fd [x] sp) (hbind : ∀ (s : Shared) (u : Value), BindsTo s fd ⟨[u], []⟩ [(x, u)])
    (hsp : ∀ H : Hp, Only H → SqL K H a (ns.map V.int) → sp [.ref a] H (fun v _ => v = .bl true) fun _ _ _ => False) :
    codeAny (model P w) callerA (.call (.ref fa) ⟨[.ref a], []⟩) (fun r s' => r = .ok (.ret (.bool true)) ∧ OldK s.heap s'.heap ∧ s'.os = s.os ∧ AllBare s'.gens) s := by
  obtain ⟨H, only, seq, ok, alone, free⟩ := script_heap (P := P) (w := w) KX ha hi hl
  -- the object at a is a list: no dict, no object of the text
  have noDict : ∀ {b : Addr} {o : Obj} {es : Array DictEntry} {ep : Nat}, s.heap.get? b = some o → o.data = .dict es ep → H b = none := by
    intro b o es ep e d
    refine Classical.byContradiction fun n => ?_
    have eb := alone b n
    subst eb
    rw [ha] at e
    cases e
    exact nomatch (show Data.seq vs.toArray _ = Data.dict es ep from d)
  have spaces : ∀ {b : Addr} {m : Str → Option Value}, s.heap.Ns b m → (hidT s.heap H).Ns b m := by
    rintro b m ⟨o, es, ep, e, d, r⟩
    exact ⟨o, es, ep, hidT_get e (noDict e d), d, r⟩
  have own : K.In (hidT s.heap H) := fun b o e => hidT_get (KX b o e) (Classical.byContradiction fun n => by
    have eb := alone b n
    subst eb
    rw [free n] at e
    cases e)
  obtain ⟨mc, l1, l2⟩ := hlim
  have md : Mod K mg (hidT s.heap H) := ⟨own, spaces hns, ⟨mb, spaces hb, hbb⟩, mc, spaces l1, l2⟩
  have env : Env0 P w K mg (hidT s.heap H) callerA [] s H := ⟨rfl, md, fun b o e => of_hidT e, Nat.le_of_eq (hidT_size _ _), trivial, fun b z => absurd (show b ∈ ([] : List Addr) from z) (by simp), ok, .of_eq hg⟩
  refine codeAny_mono ((F _ own (spaces hns)).go callerA [] s H ⟨[.ref a], []⟩ [.ref a] [.ref a] _ _ rfl hr env (hbind s (.ref a)) (.cons rfl .nil) (hsp H only seq)) fun r s' over => ?_
  cases r with
  | error e => exact False.elim over
  | ok fl =>
    cases fl with
    | next => exact False.elim over
    | brk => exact False.elim over
    | cont => exact False.elim over
    | ret u =>
      obtain ⟨v, H', os, bare, un, ok', rel, rfl⟩ := over
      obtain rfl : u = Value.bool true := rel
      refine ⟨rfl, OldK.of_keep fun b o e => ?_, os, bare⟩
      rcases only b with z | ⟨ob, xs, z⟩
      · exact un.keep b o e z (fun y => absurd (show b ∈ ([] : List Addr) from y) (by simp)) (by simp)
      · obtain ⟨e1, _⟩ := ok b _ z
        obtain ⟨e2, _⟩ := ok' b _ (un.frzs b ob _ z)
        rw [e] at e1
        cases e1
        exact e2
end
theorem walk_ofG {l : PySem.W.OpenLaw} {n k : Nat} {q : Program} {loose : List Str} {XP : (Str → Option Value) → Heap → Prop} {YP : World → Heap → Prop} {d : DefRec} {K : Params → PySem.W.Frag} {sp : World → Sp} {x : Str}
    (hn : l.most = some n) (hn2 : n ≤ sizeLine) (hdf : d.params.defaults = []) (hr : Room k callerA) (hY : ∀ (w : World) (h : Heap), YP w h → (K w.params).In h)
    (F : ∀ (w : World) (mg : Str → Option Value) (fa : Addr) (h : Heap), (K w.params).In h → h.Ns mainGlobals mg → mg d.name = some (.ref fa) →
      ∃ fd : FuncData, (∀ (s : Shared) (u : Value), BindsTo s fd ⟨[u], []⟩ [(x, u)]) ∧ ∀ base : Heap, (K w.params).In base → base.Ns mainGlobals mg → FnG l.prog w (K w.params) mg base k fa fd [x] (sp w))
    (hsp : ∀ (w : World) (H : Hp) (a : Addr) (ns : List Int), ns.length ≤ n → Only H → SqL (K w.params) H a (ns.map V.int) → sp w [.ref a] H (fun v _ => v = .bl true) fun _ _ _ => False) :
    PySem.W.WalkO q loose XP YP l.row.toRowW d [] (fun f vs => PySem.call f vs) := by
  refine Att.attach_call hn hdf fun w s₀ s₁ mg mb fa o pm cd doc a vs ns G Y ho hd hcd hmg hobj hints hlen hg => ?_
  obtain ⟨fd, hb, hF⟩ := F w mg fa _ (hY w _ Y) G.T.g hmg
  exact law_callG (hY w _ Y) G.T.g G.T.b G.T.builtins G.T.nolimit hg hobj hints (Nat.le_trans hlen hn2) hr hF hb fun H hO hS => hsp w H a ns hlen hO hS
end DL
set_option Elab.async false
set_option linter.all false
set_option maxRecDepth 100000
set_option maxHeartbeats 4000000
/-! TD: data whose repr is short. -/
namespace DL
open PySem PySem.Spec PyProof.Rows L2 MI
structure Td (d : PyData) (W k : Nat) : Prop where
  sh : d.showable = true
  nd : d.hasDict = false
  len : d.shown.length ≤ W
  dp : d.depth ≤ k
theorem Td.mono {d : PyData} {W W' k k' : Nat} (h : Td d W k) (h1 : W ≤ W') (h2 : k ≤ k') : Td d W' k' := ⟨h.sh, h.nd, Nat.le_trans h.len h1, Nat.le_trans h.dp h2⟩
theorem int_text : ((List.range 128).all fun i => decide ((((toString ((i : Nat) : Int)) : String) : Str).length ≤ 3)) = true := by decide +kernel
theorem td_int {i : Nat} (h : i < 128) : Td (dI i) 3 1 := by
  refine ⟨?_, rfl, ?_, ?_⟩
  · simp only [dI, PyData.showable]
    refine decide_eq_true ?_
    have : ((i : Int).natAbs).log2 ≤ 128 := by
      rw [Int.natAbs_natCast]
      exact Nat.le_trans (Nat.log2_le_self i) (by omega)
    omega
  · have := of_decide_eq_true (List.all_eq_true.mp int_text i (List.mem_range.mpr h))
    simpa only [dI, PyData.shown] using this
  · simp only [dI, PyData.depth]
    omega
theorem piled_le {W : Nat} : ∀ (ts : List Str), (∀ t ∈ ts, t.length ≤ W) → piled ts ≤ ts.length * (W + 2)
  | [], _ => by simp [piled]
  | t :: r, h => by
    have ih := piled_le r fun x hx => h x (List.mem_cons_of_mem _ hx)
    have h1 := h t (List.mem_cons_self ..)
    rw [piled_cons, List.length_cons, Nat.succ_mul]
    omega
theorem list_text (ts : List Str) : (listText ts).length ≤ piled ts + 2 := by
  unfold listText
  rw [strLen_append]
  cases ts with
  | nil => decide
  | cons t r =>
    have h := textFrom_length_pos r 1 (("[" : Str) ++ (if (0 : Nat) > 0 then ", " else "" : String) ++ t) (Nat.succ_pos 0)
    have e : ((("[" : Str) ++ (if (0 : Nat) > 0 then ", " else "" : String) ++ t)).length = 1 + t.length := by
      rw [strLen_append, strLen_append]; rfl
    have hY : (textFrom 0 "[" (t :: r)).length = (textFrom 1 (("[" : Str) ++ (if (0 : Nat) > 0 then ", " else "" : String) ++ t) r).length := rfl
    rw [hY, h, e, piled_cons]
    have e1 : ((("]" : String) : Str)).length = 1 := rfl
    rw [e1]
    omega
theorem tuple_text (ts : List Str) : (tupleText ts).length ≤ piled ts + 3 := by
  unfold tupleText
  rw [strLen_append, strLen_append]
  have e1 : ((("(" : String) : Str)).length = 1 := rfl
  have e3 : (((if ts.length == 1 then ",)" else ")" : String) : Str)).length ≤ 2 := by split <;> decide
  rw [e1]
  by_cases h : ts = []
  · subst h
    have : (Str.join ", " ([] : List Str)).length = 0 := rfl
    simp [piled] at e3 ⊢
    omega
  · have := join_length_add ts h
    omega
theorem td_all {W k : Nat} : ∀ (ds : List PyData), (∀ d ∈ ds, Td d W k) → PyData.showableAll ds = true ∧ PyData.hasDictAll ds = false ∧ (∀ t ∈ PyData.shownAll ds, t.length ≤ W) ∧ (PyData.shownAll ds).length = ds.length ∧ PyData.depthAll ds ≤ k
  | [], _ => by simp [PyData.showableAll, PyData.hasDictAll, PyData.shownAll, PyData.depthAll]
  | d :: r, h => by
    obtain ⟨a, b, c, e, f⟩ := td_all r fun x hx => h x (List.mem_cons_of_mem _ hx)
    have h1 := h d (List.mem_cons_self ..)
    refine ⟨?_, ?_, fun t ht => ?_, ?_, ?_⟩
    · simp only [PyData.showableAll, h1.sh, a, Bool.and_true]
    · simp only [PyData.hasDictAll, h1.nd, b, Bool.or_false]
    · simp only [PyData.shownAll, List.mem_cons] at ht
      rcases ht with rfl | ht
      · exact h1.len
      · exact c t ht
    · simp only [PyData.shownAll, List.length_cons, e]
    · simp only [PyData.depthAll]
      have := h1.dp
      omega
theorem td_tup {W k : Nat} {ds : List PyData} (h : ∀ d ∈ ds, Td d W k) : Td (.tuple ds) (ds.length * (W + 2) + 3) (k + 1) := by
  obtain ⟨a, b, c, e, f⟩ := td_all ds h
  refine ⟨by simp only [PyData.showable]; exact a, by simp only [PyData.hasDict]; exact b, ?_, ?_⟩
  · simp only [PyData.shown]
    have h1 := tuple_text (PyData.shownAll ds)
    have h2 := piled_le _ c
    rw [e] at h2
    omega
  · simp only [PyData.depth]
    omega
theorem td_lst {W k : Nat} {ds : List PyData} (h : ∀ d ∈ ds, Td d W k) : Td (.list ds) (ds.length * (W + 2) + 3) (k + 1) := by
  obtain ⟨a, b, c, e, f⟩ := td_all ds h
  refine ⟨by simp only [PyData.showable]; exact a, by simp only [PyData.hasDict]; exact b, ?_, ?_⟩
  · simp only [PyData.shown]
    have h1 := list_text (PyData.shownAll ds)
    have h2 := piled_le _ c
    rw [e] at h2
    omega
  · simp only [PyData.depth]
    omega
theorem td_row {r : MI.Row} (hl : r.length ≤ 100) (h : ∀ x ∈ r, x < 128) : Td (dR r) 503 2 := by
  refine (td_tup (W := 3) (k := 1) fun d hd => ?_).mono ?_ (by omega)
  · obtain ⟨x, hx, rfl⟩ := List.mem_map.mp hd
    exact td_int (h x hx)
  · rw [List.length_map]
    omega
theorem td_rows {rs : List MI.Row} (hl : rs.length ≤ 100) (h1 : ∀ r ∈ rs, r.length ≤ 100) (h2 : ∀ r ∈ rs, ∀ x ∈ r, x < 128) : Td (.tuple (dRs rs)) 50503 3 := by
  refine (td_tup (W := 503) (k := 2) fun d hd => ?_).mono ?_ (by omega)
  · obtain ⟨r, hr, rfl⟩ := List.mem_map.mp hd
    exact td_row (h1 r hr) (h2 r hr)
  · rw [List.length_map]
    omega
end DL
set_option Elab.async false
set_option linter.all false
set_option maxRecDepth 100000
set_option maxHeartbeats 4000000
/-! CK: the menu's finite part. -/
namespace DL
open MI
/-! ### ranks on choices of places -/
def stepC (p : Nat) (left : List MI.Row) (k : Nat) : Option (List MI.Row) :=
  match left.filter fun row => decide (0 < row.getD k 0) with
  | [] => none
  | r :: _ => some (left.map fun row => lessen p row (led p r k) k)
def cntL (p : Nat) : List Nat → List MI.Row → Nat
  | [], _ => 0
  | k :: ks, left => match stepC p left k with
    | none => cntL p ks left
    | some l => cntL p ks l + 1
theorem getD_map {α : Type} {f : α → Nat} {xs : List α} {i : Nat} (h : i < xs.length) : (xs.map f).getD i 0 = f xs[i] := by
  rw [List.getD_eq_getElem?_getD, List.getElem?_map, List.getElem?_eq_getElem h]
  rfl
theorem getD_zw {f : Nat → Nat → Nat} {xs ys : List Nat} {i : Nat} (h : i < xs.length) (h2 : i < ys.length) : (List.zipWith f xs ys).getD i 0 = f (xs.getD i 0) (ys.getD i 0) := by
  rw [List.getD_eq_getElem?_getD, List.getD_eq_getElem?_getD, List.getD_eq_getElem?_getD, List.getElem?_zipWith, List.getElem?_eq_getElem h, List.getElem?_eq_getElem h2]
  rfl
def cutR (lot : List Nat) (row : MI.Row) : MI.Row := lot.map fun k => row.getD k 0
theorem cut_eq (rows : List MI.Row) (lot : List Nat) : cut rows lot = rows.map (cutR lot) := rfl
theorem zw_maps {α : Type} {f : Nat → Nat → Nat} {g h : α → Nat} : ∀ xs : List α, List.zipWith f (xs.map g) (xs.map h) = xs.map fun a => f (g a) (h a)
  | [] => rfl
  | x :: xs => by rw [List.map_cons, List.map_cons, List.zipWith_cons_cons, zw_maps xs]; rfl
section
variable {p n : Nat} {lot : List Nat}
theorem cutR_at {row : MI.Row} {t : Nat} (ht : t < lot.length) : (cutR lot row).getD t 0 = row.getD lot[t] 0 := getD_map ht
theorem cut_led {r : MI.Row} {t : Nat} (hl : ∀ k ∈ lot, k < n) (hr : r.length = n) (ht : t < lot.length) : led p (cutR lot r) t = cutR lot (led p r lot[t]) := by
  unfold led
  rw [cutR_at ht]
  unfold cutR
  rw [List.map_map]
  refine List.map_congr_left fun k hk => ?_
  have hk2 : k < r.length := by rw [hr]; exact hl k hk
  show r.getD k 0 * _ % p = _
  rw [getD_map hk2, List.getD_eq_getElem?_getD, List.getElem?_eq_getElem hk2]
  rfl
theorem cut_lessen {row f : MI.Row} {t : Nat} (hl : ∀ k ∈ lot, k < n) (hr : row.length = n) (hf : f.length = n) (ht : t < lot.length) : lessen p (cutR lot row) (cutR lot f) t = cutR lot (lessen p row f lot[t]) := by
  unfold lessen
  rw [cutR_at ht]
  unfold cutR
  rw [zw_maps]
  refine List.map_congr_left fun k hk => ?_
  rw [getD_zw (by rw [hr]; exact hl k hk) (by rw [hf]; exact hl k hk)]
theorem cut_filter {rows : List MI.Row} {t : Nat} (ht : t < lot.length) : (rows.map (cutR lot)).filter (fun row => decide (0 < row.getD t 0)) = (rows.filter fun row => decide (0 < row.getD lot[t] 0)).map (cutR lot) := by
  rw [List.filter_map]
  congr 1
  refine List.filter_congr fun r _ => ?_
  show decide (0 < (cutR lot r).getD t 0) = _
  rw [cutR_at ht]
theorem cntL_snoc {k : Nat} : ∀ (ks : List Nat) (rows : List MI.Row), cntL p (ks ++ [k]) rows = cntL p ks rows + (match stepC p (ks.foldl (fun l j => (stepC p l j).getD l) rows) k with | none => 0 | some _ => 1)
  | [], rows => by
    show (match stepC p rows k with | none => cntL p [] rows | some l => cntL p [] l + 1) = _
    cases h : stepC p rows k with
    | none => simp [cntL, h]
    | some l => simp [cntL, h]
  | j :: ks, rows => by
    show (match stepC p rows j with | none => cntL p (ks ++ [k]) rows | some l => cntL p (ks ++ [k]) l + 1) = _
    rw [List.foldl_cons]
    cases h : stepC p rows j with
    | none =>
      show cntL p (ks ++ [k]) rows = _
      rw [cntL_snoc ks rows]
      simp only [cntL, h]
      rfl
    | some l =>
      show cntL p (ks ++ [k]) l + 1 = _
      rw [cntL_snoc ks l]
      simp only [cntL, h]
      show cntL p ks l + _ + 1 = cntL p ks l + 1 + _
      rw [Nat.add_right_comm]
      rfl
theorem stepC_len {rows l : List MI.Row} {k : Nat} (h : stepC p rows k = some l) (hr : ∀ r ∈ rows, r.length = n) : ∀ r ∈ l, r.length = n := by
  unfold stepC at h
  split at h
  · cases h
  · rename_i r t e
    cases h
    have hm : r ∈ rows := (List.mem_filter.mp (by rw [e]; exact List.mem_cons_self ..)).1
    intro x hx
    obtain ⟨y, hy, rfl⟩ := List.mem_map.mp hx
    rw [lessen_len (by rw [led_len, hr r hm, hr y hy])]
    exact hr y hy
theorem fold_len {rows : List MI.Row} (hr : ∀ r ∈ rows, r.length = n) : ∀ ks : List Nat, ∀ r ∈ ks.foldl (fun l j => (stepC p l j).getD l) rows, r.length = n := by
  intro ks
  induction ks generalizing rows with
  | nil => exact hr
  | cons j ks ih =>
    rw [List.foldl_cons]
    refine ih ?_
    cases h : stepC p rows j with
    | none => exact hr
    | some l => exact stepC_len h hr
theorem redTo_cut {rows : List MI.Row} (hl : ∀ k ∈ lot, k < n) (hr : ∀ r ∈ rows, r.length = n) : ∀ t, t ≤ lot.length →
    (redTo p (cut rows lot) t).1 = ((lot.take t).foldl (fun l j => (stepC p l j).getD l) rows).map (cutR lot) ∧ (redTo p (cut rows lot) t).2.length = cntL p (lot.take t) rows
  | 0, _ => by
    rw [List.take_zero]
    exact ⟨rfl, rfl⟩
  | t + 1, ht => by
    obtain ⟨i1, i2⟩ := redTo_cut hl hr t (by omega)
    have ht' : t < lot.length := by omega
    have etk : lot.take (t + 1) = lot.take t ++ [lot[t]] := by rw [List.take_add_one, List.getElem?_eq_getElem ht']; rfl
    rw [redTo_succ, etk, List.foldl_append, cntL_snoc, List.foldl_cons, List.foldl_nil]
    have hfl := fold_len (p := p) hr (lot.take t)
    generalize hL : (lot.take t).foldl (fun l j => (stepC p l j).getD l) rows = L at i1 hfl
    generalize hst : redTo p (cut rows lot) t = st at i1 i2
    obtain ⟨s1, s2⟩ := st
    dsimp only at i1 i2
    subst i1
    have hfil := cut_filter (rows := L) ht'
    cases hf : L.filter (fun row => decide (0 < row.getD lot[t] 0)) with
    | nil =>
      rw [hf] at hfil
      have e1 : stepC p L lot[t] = none := by unfold stepC; rw [hf]
      have e2 : stepR p (L.map (cutR lot), s2) t = (L.map (cutR lot), s2) := by
        unfold stepR
        rw [hfil]
        rfl
      rw [e1, e2]
      exact ⟨rfl, i2⟩
    | cons r q =>
      rw [hf] at hfil
      have hm : r ∈ L := (List.mem_filter.mp (by rw [hf]; exact List.mem_cons_self ..)).1
      have e1 : stepC p L lot[t] = some (L.map fun row => lessen p row (led p r lot[t]) lot[t]) := by unfold stepC; rw [hf]
      have e2 : stepR p (L.map (cutR lot), s2) t = ((L.map (cutR lot)).map fun row => lessen p row (led p (cutR lot r) t) t, (s2.map fun row => lessen p row (led p (cutR lot r) t) t) ++ [led p (cutR lot r) t]) := by
        unfold stepR
        rw [hfil]
        rfl
      rw [e1, e2]
      refine ⟨?_, ?_⟩
      · show (L.map (cutR lot)).map _ = (L.map _).map (cutR lot)
        rw [List.map_map, List.map_map]
        refine List.map_congr_left fun row hrow => ?_
        show lessen p (cutR lot row) (led p (cutR lot r) t) t = cutR lot (lessen p row (led p r lot[t]) lot[t])
        rw [cut_led hl (hfl r hm) ht', cut_lessen hl (hfl row hrow) (by rw [led_len]; exact hfl r hm) ht']
      · show (List.map _ s2 ++ [_]).length = _
        rw [List.length_append, List.length_map, i2]
        rfl
theorem rank_cnt {rows : List MI.Row} (hl : ∀ k ∈ lot, k < n) (hr : ∀ r ∈ rows, r.length = n) : rankN p rows lot = cntL p lot rows := by
  have h := (redTo_cut (p := p) hl hr lot.length (Nat.le_refl _)).2
  rw [List.take_length] at h
  exact h
end
/-! ### all choices of at least d places -/
def zeroOn (left : List MI.Row) (ks : List Nat) : Bool := ks.all fun k => left.all fun row => row.getD k 0 == 0
def subsGe (p : Nat) : List Nat → Nat → List MI.Row → Nat → Bool
  | ks, _, left, 0 => zeroOn left ks
  | [], d, _, _ + 1 => d != 0
  | k :: ks, d, left, r + 1 =>
    (Nat.blt ks.length d || subsGe p ks d left (r + 1)) && match stepC p left k with
    | none => subsGe p ks (d - 1) left (r + 1)
    | some l => subsGe p ks (d - 1) l r
theorem zero_none {p : Nat} {left : List MI.Row} {k : Nat} (h : (left.all fun row => row.getD k 0 == 0) = true) : stepC p left k = none := by
  have e : left.filter (fun row => decide (0 < row.getD k 0)) = [] := by
    rw [List.filter_eq_nil_iff]
    intro r hr
    have := List.all_eq_true.mp h r hr
    have e0 : r.getD k 0 = 0 := by simpa using this
    rw [e0]
    decide
  unfold stepC
  rw [e]
theorem zero_cnt {p : Nat} {left : List MI.Row} : ∀ (L : List Nat), (∀ k ∈ L, (left.all fun row => row.getD k 0 == 0) = true) → cntL p L left = 0
  | [], _ => rfl
  | k :: L, h => by
    show (match stepC p left k with | none => cntL p L left | some l => cntL p L l + 1) = 0
    rw [zero_none (h k (List.mem_cons_self ..))]
    exact zero_cnt L fun j hj => h j (List.mem_cons_of_mem _ hj)
theorem subsGe_ok {p : Nat} : ∀ (ks : List Nat) (d : Nat) (left : List MI.Row) (r : Nat), subsGe p ks d left r = true → ∀ L : List Nat, L.Sublist ks → d ≤ L.length → cntL p L left = r
  | ks, d, left, 0, h, L, hL, hd => by
    have h' : zeroOn left ks = true := by
      cases ks with
      | nil => exact h
      | cons k ks => exact h
    exact zero_cnt L fun k hk => List.all_eq_true.mp h' k (hL.subset hk)
  | [], d, left, r + 1, h, L, hL, hd => by
    have : L = [] := List.sublist_nil.mp hL
    subst this
    have hd0 : d = 0 := by simpa using hd
    subst hd0
    exact absurd h (by simp [subsGe])
  | k :: ks, d, left, r + 1, h, L, hL, hd => by
    have h' : ((Nat.blt ks.length d || subsGe p ks d left (r + 1)) && match stepC p left k with
      | none => subsGe p ks (d - 1) left (r + 1)
      | some l => subsGe p ks (d - 1) l r) = true := h
    rw [Bool.and_eq_true, Bool.or_eq_true] at h'
    obtain ⟨h1, h2⟩ := h'
    rcases List.sublist_cons_iff.mp hL with hs | ⟨L', rfl, hs⟩
    · rcases h1 with h1 | h1
      · have h1 : ks.length < d := by simpa [Nat.blt_eq] using h1
        have := hs.length_le
        omega
      · exact subsGe_ok ks d left (r + 1) h1 L hs hd
    · have hd' : d - 1 ≤ L'.length := by rw [List.length_cons] at hd; omega
      show (match stepC p left k with | none => cntL p L' left | some l => cntL p L' l + 1) = r + 1
      cases e : stepC p left k with
      | none =>
        rw [e] at h2
        exact subsGe_ok ks (d - 1) left (r + 1) h2 L' hs hd'
      | some l =>
        rw [e] at h2
        show cntL p L' l + 1 = r + 1
        rw [subsGe_ok ks (d - 1) l r h2 L' hs hd']
end DL
set_option Elab.async false
set_option linter.all false
set_option maxRecDepth 100000
set_option maxHeartbeats 4000000
/-! CM: what is asked of each row of the menu. -/
namespace DL
open MI
abbrev bandsS (p g wide many : Nat) (S : List Nat) : List MI.Row := powRows p (numsN p g wide many) S
abbrev bookS (p g wide many : Nat) (S : List Nat) : List MI.Row := nullN p (bandsS p g wide many S) (many * wide)
abbrev wordS (p g wide many : Nat) (S : List Nat) : List MI.Row := nullN p (bookS p g wide many S) (many * wide)
structure Base (p g few wide many : Nat) (S : List Nat) : Prop where
  z1 : nz (reduced p (bandsS p g wide many S) (many * wide))
  z2 : nz (bookS p g wide many S)
  z3 : nz (reduced p (bookS p g wide many S) (many * wide))
  eqn : wordS p g wide many S = reduced p (bandsS p g wide many S) (many * wide)
  len : (wordS p g wide many S).length = S.length
  kp : ∀ r ∈ bookS p g wide many S, keepsN p (wordS p g wide many S) r = true
  told : ∀ b ∈ partedN wide (wide / (few + 1)) (few + 1) many, ∀ x ∈ b, rankN p (bandsS p g wide many S) (b.filter fun y => !decide (y = x)) = rankN p (bandsS p g wide many S) b
  same : ∀ b ∈ classesN wide many, rankN p (wordS p g wide many S) b = rankN p (bandsS p g wide many S) b
def nzB (rows : List MI.Row) : Bool := rows.all fun r => decide (spotsOf r ≠ [])
theorem nzB_ok {rows : List MI.Row} (h : nzB rows = true) : nz rows := fun r hr => by
  have h1 : spotsOf r ≠ [] := of_decide_eq_true (List.all_eq_true.mp h r hr)
  cases e : spotsOf r with
  | nil => exact absurd e h1
  | cons k t =>
    have hk : k ∈ spotsOf r := by rw [e]; exact List.mem_cons_self ..
    obtain ⟨a, b⟩ := List.mem_filter.mp hk
    exact ⟨k, List.mem_range.mp a, of_decide_eq_true b⟩
def baseB (p g few wide many : Nat) (S : List Nat) : Bool :=
  nzB (reduced p (bandsS p g wide many S) (many * wide)) && (nzB (bookS p g wide many S) && (nzB (reduced p (bookS p g wide many S) (many * wide)) &&
    (decide (wordS p g wide many S = reduced p (bandsS p g wide many S) (many * wide)) && (decide ((wordS p g wide many S).length = S.length) && (((bookS p g wide many S).all fun r => keepsN p (wordS p g wide many S) r) &&
      (((partedN wide (wide / (few + 1)) (few + 1) many).all fun b => b.all fun x => decide (rankN p (bandsS p g wide many S) (b.filter fun y => !decide (y = x)) = rankN p (bandsS p g wide many S) b)) &&
        ((classesN wide many).all fun b => decide (rankN p (wordS p g wide many S) b = rankN p (bandsS p g wide many S) b))))))))
theorem baseB_ok {p g few wide many : Nat} {S : List Nat} (h : baseB p g few wide many S = true) : Base p g few wide many S := by
  unfold baseB at h
  rw [Bool.and_eq_true, Bool.and_eq_true, Bool.and_eq_true, Bool.and_eq_true, Bool.and_eq_true, Bool.and_eq_true, Bool.and_eq_true] at h
  obtain ⟨h1, h2, h3, h4, h5, h6, h7, h8⟩ := h
  exact ⟨nzB_ok h1, nzB_ok h2, nzB_ok h3, of_decide_eq_true h4, of_decide_eq_true h5, fun r hr => List.all_eq_true.mp h6 r hr, fun b hb x hx => of_decide_eq_true (List.all_eq_true.mp (List.all_eq_true.mp h7 b hb) x hx), fun b hb => of_decide_eq_true (List.all_eq_true.mp h8 b hb)⟩
/-- every choice of at least d places of a wide bloc tells as much as the bloc -/
def pickB (p g wide many : Nat) (S : List Nat) (d : Nat) : Bool := (classesN wide many).all fun b => subsGe p b d (wordS p g wide many S) (rankN p (bandsS p g wide many S) b)
theorem class_lt {wide many : Nat} {b : MI.Row} (hb : b ∈ classesN wide many) : ∀ x ∈ b, x < many * wide := by
  intro x hx
  obtain ⟨j, hj, rfl⟩ := List.mem_map.mp hb
  obtain ⟨m, hm, rfl⟩ := List.mem_map.mp hx
  have hj := List.mem_range.mp hj
  have hm := List.mem_range.mp hm
  have h1 : (j + 1) * wide ≤ many * wide := Nat.mul_le_mul_right wide hj
  rw [Nat.succ_mul] at h1
  omega
theorem pickB_ok {p g wide many d : Nat} {S : List Nat} (hp : 1 < p) (h : pickB p g wide many S d = true) : ∀ b ∈ classesN wide many, ∀ L : List Nat, L.Sublist b → d ≤ L.length → rankN p (wordS p g wide many S) L = rankN p (bandsS p g wide many S) b := by
  intro b hb L hL hd
  have wf := nullN_wf (wide := many * wide) (rows := bookS p g wide many S) hp
  rw [rank_cnt (n := many * wide) (fun k hk => class_lt hb k (hL.subset hk)) wf.len]
  exact subsGe_ok b d _ _ (List.all_eq_true.mp h b hb) L hL hd
structure Good (p g few wide many deep high : Nat) : Prop where
  base : Base p g few wide many ((fitN few wide deep many).take high)
  pick : ∀ b ∈ classesN wide many, ∀ L : List Nat, L.Sublist b → deep ≤ L.length → rankN p (wordS p g wide many ((fitN few wide deep many).take high)) L = rankN p (bandsS p g wide many ((fitN few wide deep many).take high)) b
/-- each depth with other signs than the one before, and each number of signs, by itself -/
def eachB (p g few wide many : Nat) : Bool := (List.range wide).all fun d => (d != 0 && decide (fitN few wide (d + 1) many = fitN few wide d many)) || (List.range (fitN few wide (d + 1) many).length).all fun h =>
  baseB p g few wide many ((fitN few wide (d + 1) many).take (h + 1)) && pickB p g wide many ((fitN few wide (d + 1) many).take (h + 1)) (d + 1)
theorem eachB_ok {p g few wide many : Nat} (hp : 1 < p) (h : eachB p g few wide many = true) : ∀ (d : Nat) {high : Nat}, d + 1 ≤ wide → 1 ≤ high → high ≤ (fitN few wide (d + 1) many).length → Good p g few wide many (d + 1) high
  | d, high, d2, h1, h2 => by
    have h3 := List.all_eq_true.mp h d (List.mem_range.mpr (by omega))
    rw [Bool.or_eq_true, Bool.and_eq_true] at h3
    rcases h3 with ⟨z, e⟩ | h3
    · have hd : d ≠ 0 := by simpa using z
      obtain ⟨j, rfl⟩ : ∃ j, d = j + 1 := ⟨d - 1, by omega⟩
      have e := of_decide_eq_true e
      have q := eachB_ok hp h j (high := high) (by omega) h1 (by rw [← e]; exact h2)
      exact ⟨by rw [e]; exact q.base, fun b hb L hL hd => by rw [e]; exact q.pick b hb L hL (by omega)⟩
    · obtain ⟨k, rfl⟩ : ∃ k, high = k + 1 := ⟨high - 1, by omega⟩
      have := List.all_eq_true.mp h3 k (List.mem_range.mpr (by omega))
      rw [Bool.and_eq_true] at this
      exact ⟨baseB_ok this.1, pickB_ok hp this.2⟩
/-- the least depth that has so many signs -/
def leastD (few wide many high : Nat) : Nat := ((List.range (wide + 1)).find? fun d => Nat.ble high (fitN few wide d many).length).getD 0
/-- the signs hang on their number alone -/
def onceB (p g few wide many : Nat) : Bool := (List.range (fitN few wide wide many).length).all fun h =>
  baseB p g few wide many ((fitN few wide wide many).take (h + 1)) && (pickB p g wide many ((fitN few wide wide many).take (h + 1)) (leastD few wide many (h + 1)) &&
    (List.range wide).all fun d => Nat.ble (fitN few wide (d + 1) many).length h || (Nat.ble (leastD few wide many (h + 1)) (d + 1) && decide ((fitN few wide (d + 1) many).take (h + 1) = (fitN few wide wide many).take (h + 1))))
theorem fit_mono {few wide d many : Nat} (h : d ≤ wide) : (fitN few wide d many).length ≤ (fitN few wide wide many).length := by
  unfold fitN
  have : ∀ xs : List Nat, (xs.filter fun e => (!decide (e % (few + 1) = few)) && decide (e % wide < d)).length ≤ (xs.filter fun e => (!decide (e % (few + 1) = few)) && decide (e % wide < wide)).length := by
    intro xs
    rw [← List.countP_eq_length_filter, ← List.countP_eq_length_filter]
    refine List.countP_mono_left fun x _ hx => ?_
    rw [Bool.and_eq_true] at hx ⊢
    exact ⟨hx.1, decide_eq_true (Nat.lt_of_lt_of_le (of_decide_eq_true hx.2) h)⟩
  exact this _
theorem onceB_ok {p g few wide many : Nat} (hp : 1 < p) (h : onceB p g few wide many = true) {deep high : Nat} (d1 : 1 ≤ deep) (d2 : deep ≤ wide) (h1 : 1 ≤ high) (h2 : high ≤ (fitN few wide deep many).length) : Good p g few wide many deep high := by
  obtain ⟨d, rfl⟩ : ∃ d, deep = d + 1 := ⟨deep - 1, by omega⟩
  obtain ⟨k, rfl⟩ : ∃ k, high = k + 1 := ⟨high - 1, by omega⟩
  have h3 := fit_mono (few := few) (many := many) d2
  have := List.all_eq_true.mp h k (List.mem_range.mpr (by omega))
  rw [Bool.and_eq_true, Bool.and_eq_true] at this
  obtain ⟨a, b, c⟩ := this
  have c := List.all_eq_true.mp c d (List.mem_range.mpr (by omega))
  rw [Bool.or_eq_true, Bool.and_eq_true] at c
  rcases c with c | ⟨c1, c2⟩
  · have := Nat.le_of_ble_eq_true c
    omega
  · have c1 := Nat.le_of_ble_eq_true c1
    have c2 := of_decide_eq_true c2
    exact ⟨by rw [c2]; exact baseB_ok a, fun bb hb L hL hd => by rw [c2]; exact pickB_ok hp b bb hb L hL (by omega)⟩
/-! ### the row's own facts -/
structure RowOk (p g few wide many : Nat) : Prop where
  n : Nst p few wide many
  r : primR p g
  o : primO p g
  sz : many * wide ≤ 100
  f100 : few + 1 ≤ 100
  short : (partedN wide (wide / (few + 1)) (few + 1) many).length < 64
  small : ∀ r ∈ partedN wide (wide / (few + 1)) (few + 1) many, ∀ x ∈ r, x < 1000
  asc : (partedN wide (wide / (few + 1)) (few + 1) many).Pairwise fun r q => cI64 r < cI64 q
def isPB (p : Nat) : Bool := Nat.blt 1 p && (Nat.blt p 100000 && (List.range p).all fun k => Nat.blt k 2 || (Nat.blt p (k * k) || p % k != 0))
theorem isPB_ok {p : Nat} (h : isPB p = true) : isP p := by
  unfold isPB at h
  rw [Bool.and_eq_true, Bool.and_eq_true, Nat.blt_eq, Nat.blt_eq] at h
  obtain ⟨h1, h2, h3⟩ := h
  refine ⟨h1, h2, fun k k2 kk => ?_⟩
  have hk : k < p := by
    have : 2 * k ≤ k * k := Nat.mul_le_mul_right k k2
    omega
  have := List.all_eq_true.mp h3 k (List.mem_range.mpr hk)
  rw [Bool.or_eq_true, Bool.or_eq_true, Nat.blt_eq, Nat.blt_eq] at this
  rcases this with q | q | q
  · omega
  · omega
  · simpa using q
def rowB (p g few wide many : Nat) : Bool :=
  isPB p && (decide (1 ≤ few ∧ 1 ≤ wide ∧ wide ≤ 100 ∧ 1 ≤ many ∧ many ≤ 100 ∧ wide % (few + 1) = 0 ∧ (p - 1) % wide = 0 ∧ many * wide < p) && (decide (1 ≤ g ∧ g < p ∧ (partsN (p - 1)).length ≤ 1000 ∧ good p g = true ∧ ordN p g = p - 1) &&
    (((partsN (p - 1)).all fun q => Nat.blt 0 q && Nat.blt q 100000) && (((List.range g).all fun h => Nat.blt h 1 || (!good p h && !decide (ordN p h = p - 1))) &&
      (decide (many * wide ≤ 100 ∧ few + 1 ≤ 100 ∧ (partedN wide (wide / (few + 1)) (few + 1) many).length < 64) && (((partedN wide (wide / (few + 1)) (few + 1) many).all fun r => r.all fun x => Nat.blt x 1000) &&
        decide ((partedN wide (wide / (few + 1)) (few + 1) many).Pairwise fun r q => cI64 r < cI64 q)))))))
theorem rowB_ok {p g few wide many : Nat} (h : rowB p g few wide many = true) : RowOk p g few wide many := by
  unfold rowB at h
  rw [Bool.and_eq_true, Bool.and_eq_true, Bool.and_eq_true, Bool.and_eq_true, Bool.and_eq_true, Bool.and_eq_true, Bool.and_eq_true] at h
  obtain ⟨h1, h2, h3, h4, h5, h6, h7, h8⟩ := h
  obtain ⟨a1, a2, a3, a4, a5, a6, a7, a8⟩ := of_decide_eq_true h2
  obtain ⟨b1, b2, b3, b4, b5⟩ := of_decide_eq_true h3
  obtain ⟨e1, e2, e3⟩ := of_decide_eq_true h6
  have least : ∀ h, h < g → 1 ≤ h → good p h = false ∧ ordN p h ≠ p - 1 := fun h hg h1 => by
    have := List.all_eq_true.mp h5 h (List.mem_range.mpr hg)
    rw [Bool.or_eq_true, Nat.blt_eq, Bool.and_eq_true] at this
    rcases this with q | ⟨q1, q2⟩
    · omega
    · exact ⟨by simpa using q1, by simpa using q2⟩
  refine ⟨⟨isPB_ok h1, a1, a2, a3, a4, a5, a6, a7, a8⟩, ⟨b1, b2, fun q hq => ?_, b3, b4, fun h hg h1 => (least h hg h1).1⟩, ⟨b1, b2, b5, fun h hg h1 => (least h hg h1).2⟩, e1, e2, e3, fun r hr x hx => ?_, of_decide_eq_true h8⟩
  · have := List.all_eq_true.mp h4 q hq
    rw [Bool.and_eq_true, Nat.blt_eq, Nat.blt_eq] at this
    exact this
  · have := List.all_eq_true.mp (List.all_eq_true.mp h7 r hr) x hx
    rwa [Nat.blt_eq] at this
/-- all that is asked of a row -/
structure RowAll (p g few wide many : Nat) : Prop where
  row : RowOk p g few wide many
  good : ∀ deep high, 1 ≤ deep → deep ≤ wide → 1 ≤ high → high ≤ (fitN few wide deep many).length → Good p g few wide many deep high
theorem all_each {p g few wide many : Nat} (h1 : rowB p g few wide many = true) (h2 : eachB p g few wide many = true) : RowAll p g few wide many :=
  ⟨rowB_ok h1, fun deep high a b c d => by
    obtain ⟨k, rfl⟩ : ∃ k, deep = k + 1 := ⟨deep - 1, by omega⟩
    exact eachB_ok (rowB_ok h1).n.pr.1 h2 k b c d⟩
theorem all_once {p g few wide many : Nat} (h1 : rowB p g few wide many = true) (h2 : onceB p g few wide many = true) : RowAll p g few wide many :=
  ⟨rowB_ok h1, fun deep high a b c d => onceB_ok (rowB_ok h1).n.pr.1 h2 a b c d⟩
/-- prime, first root, few, wide, many -/
def menuN : List (Nat × Nat × Nat × Nat × Nat) := [(3, 2, 1, 2, 1), (5, 2, 1, 4, 1), (5, 2, 1, 2, 2), (5, 2, 3, 4, 1), (7, 3, 1, 6, 1), (7, 3, 2, 6, 1), (13, 2, 1, 4, 2), (13, 2, 1, 6, 2), (13, 2, 2, 6, 2), (13, 2, 1, 4, 3), (13, 2, 1, 12, 1), (13, 2, 2, 12, 1), (13, 2, 3, 12, 1), (17, 3, 1, 4, 2), (17, 3, 3, 8, 1), (19, 2, 2, 6, 2), (31, 3, 2, 6, 1), (29, 2, 1, 4, 3), (31, 3, 1, 10, 1), (37, 2, 2, 6, 2), (37, 2, 1, 4, 3), (31, 3, 4, 10, 1), (7, 3, 1, 2, 3), (7, 3, 2, 3, 2)]
/-- one number of signs -/
def oneB (p g few wide many h : Nat) : Bool :=
  baseB p g few wide many ((fitN few wide wide many).take (h + 1)) && (pickB p g wide many ((fitN few wide wide many).take (h + 1)) (leastD few wide many (h + 1)) &&
    (List.range wide).all fun d => Nat.ble (fitN few wide (d + 1) many).length h || (Nat.ble (leastD few wide many (h + 1)) (d + 1) && decide ((fitN few wide (d + 1) many).take (h + 1) = (fitN few wide wide many).take (h + 1))))
theorem onceB_of {p g few wide many n : Nat} (hn : (fitN few wide wide many).length = n) (h : ∀ k, k < n → oneB p g few wide many k = true) : onceB p g few wide many = true :=
  List.all_eq_true.mpr fun k hk => h k (by rw [← hn]; exact List.mem_range.mp hk)
end DL
set_option Elab.async false
set_option linter.all false
set_option maxRecDepth 100000
set_option maxHeartbeats 4000000
/-! CX: the menu's rows, each by itself. -/
namespace DL
open MI
theorem row_0 : RowAll 3 2 1 2 1 := all_once (by decide +kernel) (by decide +kernel)
theorem row_1 : RowAll 5 2 1 4 1 := all_once (by decide +kernel) (by decide +kernel)
theorem row_2 : RowAll 5 2 1 2 2 := all_each (by decide +kernel) (by decide +kernel)
theorem row_3 : RowAll 5 2 3 4 1 := all_once (by decide +kernel) (by decide +kernel)
theorem row_4 : RowAll 7 3 1 6 1 := all_once (by decide +kernel) (by decide +kernel)
theorem row_5 : RowAll 7 3 2 6 1 := all_once (by decide +kernel) (by decide +kernel)
theorem row_6 : RowAll 13 2 1 4 2 := all_each (by decide +kernel) (by decide +kernel)
theorem row_7 : RowAll 13 2 1 6 2 := all_each (by decide +kernel) (by decide +kernel)
theorem row_8 : RowAll 13 2 2 6 2 := all_each (by decide +kernel) (by decide +kernel)
theorem row_9 : RowAll 13 2 1 4 3 := all_each (by decide +kernel) (by decide +kernel)
theorem one_10_0 : oneB 13 2 1 12 1 0 = true := by decide +kernel
theorem one_10_1 : oneB 13 2 1 12 1 1 = true := by decide +kernel
theorem one_10_2 : oneB 13 2 1 12 1 2 = true := by decide +kernel
theorem one_10_3 : oneB 13 2 1 12 1 3 = true := by decide +kernel
theorem one_10_4 : oneB 13 2 1 12 1 4 = true := by decide +kernel
theorem one_10_5 : oneB 13 2 1 12 1 5 = true := by decide +kernel
theorem row_10 : RowAll 13 2 1 12 1 := all_once (by decide +kernel) (onceB_of (n := 6) (by decide +kernel) fun k hk => match k, hk with
  | 0, _ => one_10_0
  | 1, _ => one_10_1
  | 2, _ => one_10_2
  | 3, _ => one_10_3
  | 4, _ => one_10_4
  | 5, _ => one_10_5
  | k + 6, hk => absurd hk (by omega))
theorem one_11_0 : oneB 13 2 2 12 1 0 = true := by decide +kernel
theorem one_11_1 : oneB 13 2 2 12 1 1 = true := by decide +kernel
theorem one_11_2 : oneB 13 2 2 12 1 2 = true := by decide +kernel
theorem one_11_3 : oneB 13 2 2 12 1 3 = true := by decide +kernel
theorem one_11_4 : oneB 13 2 2 12 1 4 = true := by decide +kernel
theorem one_11_5 : oneB 13 2 2 12 1 5 = true := by decide +kernel
theorem one_11_6 : oneB 13 2 2 12 1 6 = true := by decide +kernel
theorem one_11_7 : oneB 13 2 2 12 1 7 = true := by decide +kernel
theorem row_11 : RowAll 13 2 2 12 1 := all_once (by decide +kernel) (onceB_of (n := 8) (by decide +kernel) fun k hk => match k, hk with
  | 0, _ => one_11_0
  | 1, _ => one_11_1
  | 2, _ => one_11_2
  | 3, _ => one_11_3
  | 4, _ => one_11_4
  | 5, _ => one_11_5
  | 6, _ => one_11_6
  | 7, _ => one_11_7
  | k + 8, hk => absurd hk (by omega))
theorem one_12_0 : oneB 13 2 3 12 1 0 = true := by decide +kernel
theorem one_12_1 : oneB 13 2 3 12 1 1 = true := by decide +kernel
theorem one_12_2 : oneB 13 2 3 12 1 2 = true := by decide +kernel
theorem one_12_3 : oneB 13 2 3 12 1 3 = true := by decide +kernel
theorem one_12_4 : oneB 13 2 3 12 1 4 = true := by decide +kernel
theorem one_12_5 : oneB 13 2 3 12 1 5 = true := by decide +kernel
theorem one_12_6 : oneB 13 2 3 12 1 6 = true := by decide +kernel
theorem one_12_7 : oneB 13 2 3 12 1 7 = true := by decide +kernel
theorem one_12_8 : oneB 13 2 3 12 1 8 = true := by decide +kernel
theorem row_12 : RowAll 13 2 3 12 1 := all_once (by decide +kernel) (onceB_of (n := 9) (by decide +kernel) fun k hk => match k, hk with
  | 0, _ => one_12_0
  | 1, _ => one_12_1
  | 2, _ => one_12_2
  | 3, _ => one_12_3
  | 4, _ => one_12_4
  | 5, _ => one_12_5
  | 6, _ => one_12_6
  | 7, _ => one_12_7
  | 8, _ => one_12_8
  | k + 9, hk => absurd hk (by omega))
theorem row_13 : RowAll 17 3 1 4 2 := all_each (by decide +kernel) (by decide +kernel)
theorem one_14_0 : oneB 17 3 3 8 1 0 = true := by decide +kernel
theorem one_14_1 : oneB 17 3 3 8 1 1 = true := by decide +kernel
theorem one_14_2 : oneB 17 3 3 8 1 2 = true := by decide +kernel
theorem one_14_3 : oneB 17 3 3 8 1 3 = true := by decide +kernel
theorem one_14_4 : oneB 17 3 3 8 1 4 = true := by decide +kernel
theorem one_14_5 : oneB 17 3 3 8 1 5 = true := by decide +kernel
theorem row_14 : RowAll 17 3 3 8 1 := all_once (by decide +kernel) (onceB_of (n := 6) (by decide +kernel) fun k hk => match k, hk with
  | 0, _ => one_14_0
  | 1, _ => one_14_1
  | 2, _ => one_14_2
  | 3, _ => one_14_3
  | 4, _ => one_14_4
  | 5, _ => one_14_5
  | k + 6, hk => absurd hk (by omega))
theorem row_15 : RowAll 19 2 2 6 2 := all_each (by decide +kernel) (by decide +kernel)
theorem row_16 : RowAll 31 3 2 6 1 := all_once (by decide +kernel) (by decide +kernel)
theorem row_17 : RowAll 29 2 1 4 3 := all_each (by decide +kernel) (by decide +kernel)
theorem one_18_0 : oneB 31 3 1 10 1 0 = true := by decide +kernel
theorem one_18_1 : oneB 31 3 1 10 1 1 = true := by decide +kernel
theorem one_18_2 : oneB 31 3 1 10 1 2 = true := by decide +kernel
theorem one_18_3 : oneB 31 3 1 10 1 3 = true := by decide +kernel
theorem one_18_4 : oneB 31 3 1 10 1 4 = true := by decide +kernel
theorem row_18 : RowAll 31 3 1 10 1 := all_once (by decide +kernel) (onceB_of (n := 5) (by decide +kernel) fun k hk => match k, hk with
  | 0, _ => one_18_0
  | 1, _ => one_18_1
  | 2, _ => one_18_2
  | 3, _ => one_18_3
  | 4, _ => one_18_4
  | k + 5, hk => absurd hk (by omega))
theorem row_19 : RowAll 37 2 2 6 2 := all_each (by decide +kernel) (by decide +kernel)
theorem row_20 : RowAll 37 2 1 4 3 := all_each (by decide +kernel) (by decide +kernel)
theorem one_21_0 : oneB 31 3 4 10 1 0 = true := by decide +kernel
theorem one_21_1 : oneB 31 3 4 10 1 1 = true := by decide +kernel
theorem one_21_2 : oneB 31 3 4 10 1 2 = true := by decide +kernel
theorem one_21_3 : oneB 31 3 4 10 1 3 = true := by decide +kernel
theorem one_21_4 : oneB 31 3 4 10 1 4 = true := by decide +kernel
theorem one_21_5 : oneB 31 3 4 10 1 5 = true := by decide +kernel
theorem one_21_6 : oneB 31 3 4 10 1 6 = true := by decide +kernel
theorem one_21_7 : oneB 31 3 4 10 1 7 = true := by decide +kernel
theorem row_21 : RowAll 31 3 4 10 1 := all_once (by decide +kernel) (onceB_of (n := 8) (by decide +kernel) fun k hk => match k, hk with
  | 0, _ => one_21_0
  | 1, _ => one_21_1
  | 2, _ => one_21_2
  | 3, _ => one_21_3
  | 4, _ => one_21_4
  | 5, _ => one_21_5
  | 6, _ => one_21_6
  | 7, _ => one_21_7
  | k + 8, hk => absurd hk (by omega))
theorem row_22 : RowAll 7 3 1 2 3 := all_each (by decide +kernel) (by decide +kernel)
theorem row_23 : RowAll 7 3 2 3 2 := all_each (by decide +kernel) (by decide +kernel)
theorem menu_all : ∀ m ∈ menuN, RowAll m.1 m.2.1 m.2.2.1 m.2.2.2.1 m.2.2.2.2 := by
  intro m hm
  simp only [menuN, List.mem_cons, List.not_mem_nil, or_false] at hm
  rcases hm with rfl | rfl | rfl | rfl | rfl | rfl | rfl | rfl | rfl | rfl | rfl | rfl | rfl | rfl | rfl | rfl | rfl | rfl | rfl | rfl | rfl | rfl | rfl | rfl
  · exact row_0
  · exact row_1
  · exact row_2
  · exact row_3
  · exact row_4
  · exact row_5
  · exact row_6
  · exact row_7
  · exact row_8
  · exact row_9
  · exact row_10
  · exact row_11
  · exact row_12
  · exact row_13
  · exact row_14
  · exact row_15
  · exact row_16
  · exact row_17
  · exact row_18
  · exact row_19
  · exact row_20
  · exact row_21
  · exact row_22
  · exact row_23
end DL
set_option Elab.async false
set_option linter.all false
set_option maxRecDepth 100000
set_option maxHeartbeats 4000000
/-! TX14: same; the law's facts. -/
namespace DL
open PySem PySem.Spec PyProof.Rows L2 MI
structure HasG (P : Program) (w : World) (K : PySem.W.Frag) (mg : Str → Option Value) (base : Heap) (k : Nat) (x : Str) (ps : List Str) (G : List PyData → PyData → Prop) : Prop where
  ex : ∃ f fd, FnG P w K mg base k f fd ps (spD K G) ∧ Binds K fd ps [] ∧ mg x = some (.ref f) ∧ PySem.W.keepIn K (.ref f) = true
section
variable {P : Program} {w : World} {K : PySem.W.Frag} {mg : Str → Option Value} {base : Heap}
theorem hasG_mk {x : Str} {st : Stmt} {N ps : List Str} {k : Nat} {G : List PyData → PyData → Prop} (D : Dfn K mg x st ps) (S : FnScope N ps (defScope st)) (hl : ∀ ds d, G ds d → ds.length = ps.length)
    (body : ∀ f cdv A outer s H E, A.guards = some [] → Room k (cxOf CX0 P w K mg base N x (defScope st) f cdv A outer s H E).nox.A → ∀ ds d, G ds d → SXs (cxOf CX0 P w K mg base N x (defScope st) f cdv A outer s H E).nox (defBody st) (startD N ds) { nx := fun _ => d = .none, rt := fun r _ => r = d }) :
    HasG P w K mg base (k + 1) x ps G := by
  obtain ⟨f, fd, F, b, m⟩ := D.ex
  refine ⟨f, fd, ?_, b, m, F.kp⟩
  refine fnG_mk F S (fun vs H Q E h => ?_) fun cdv A outer s H vs Q E quiet hr h => ?_
  · obtain ⟨S', ds, d, _, h1, h2, _⟩ := h
    rw [dps_len h1]
    exact hl ds d h2
  · obtain ⟨S', ds, d, sh, h1, h2, q⟩ := h
    refine ⟨_, pss_c, startD N ds, _, S', H, S', body _ cdv A outer s H E quiet hr ds d h2, Gr.refl sh, start_ok sh h1, ?_⟩
    refine ⟨fun σ' δ' S1 H1 e g so => ?_, fun v r σ' δ' S1 H1 e g so dv => ?_, fun _ _ _ _ e => e.elim, fun _ _ _ _ e => e.elim⟩
    · subst e
      exact q .non S1 H1 g .non
    · subst e
      exact q v S1 H1 g dv
end
section
variable {X : Cx} {δ : List Slot} {e : Expr} {es : List Expr} {d : PyData} {ds : List PyData} {pos p : Pos} {G : List PyData → PyData → Prop} {j k : Nat} {ps : List Str} {x : Str}
theorem ex_hasG (F : HasG X.prog X.w X.K X.mg X.base j x ps G) (quiet : X.A.guards = some []) (hr : Room k X.A) (ha : AX X (e :: es) δ ds) (hG : G ds d) (hj : j ≤ k := by decide) (hg : Gl X x := by rfl)
    (hdb : (x == ("__debug__" : Str)) = false := by decide) (he : starEach (e :: es) X.env = (false, eval e X.env) :: starEach es X.env := by rfl) (hpl : (backTo pos (starEach es X.env)).any (·.1) = false := by rfl) : EX X (.Call (.Name x p) (e :: es) [] pos) δ d := by
  obtain ⟨f, fd, F, b, m, kp⟩ := F.ex
  exact EX.of (pe_callG F quiet (hr.mono hj) hg m kp b pa_c hdb he hpl) fun σ H0 S H Q so q => rd_a ha σ H0 S H _ so fun vs S1 H1 g1 d1 =>
    ⟨S1, ds, d, g1.sh, by rw [List.append_nil]; exact d1, hG, fun v S' H' g2 dv => q v S' H' (g1.trans g2) dv⟩
end
section
variable {P : Program} {w : World} {K : PySem.W.Frag} {mg : Str → Option Value} {base : Heap}
def gSame : List PyData → PyData → Prop := fun ds d => ∃ (x : PyData) (es : List PyData), ds = [x, x] ∧ isSeq x es ∧ Td x 16000000 16 ∧ d = .bool true
theorem has_l_same (T : Txt K mg) : HasG P w K mg base 1 "_law_same" P_l_same gSame := by
  refine hasG_mk T.d_l_same sc_l_same (fun ds d ⟨x, es, h, _⟩ => by rw [h]; rfl) fun f cdv A outer s H E quiet hr ds d hG => ?_
  obtain ⟨x, es, rfl, hs, td, rfl⟩ := hG
  have hu : (cxOf CX0 P w K mg base N_l_same "_law_same" (defScope (topS 71)) f cdv A outer s H E).nox.A.units + 64 < cLine := by have := hr.un; omega
  have hz : x.shown.length ≤ sizeLine := by
    have := td.len
    rw [sizeLine_eq]
    omega
  exact sxs_last (sx_ret ((ex_eqS (ex_repr quiet hu (ex_var 0 rfl) hs td.sh td.nd hz td.dp T.b_repr) (ex_repr quiet hu (ex_var 1 rfl) hs td.sh td.nd hz td.dp T.b_repr)).is (by rw [decide_eq_true rfl])) rfl)
end
/-! ### plain facts -/
theorem fit_two {few wide deep many : Nat} : ((List.range (wide * many)).filter fun e => !decide (e % (few + 1) = few)).filter (fun e => decide (e % wide < deep)) = fitN few wide deep many := by
  unfold fitN
  rw [List.filter_filter]
  exact List.filter_congr fun e _ => Bool.and_comm _ _
theorem fit_pos {few wide deep many : Nat} (h1 : 1 ≤ few) (h2 : 1 ≤ wide) (h3 : 1 ≤ many) (h4 : 1 ≤ deep) : 0 < (fitN few wide deep many).length := by
  refine List.length_pos_of_mem (a := 0) (List.mem_filter.mpr ⟨List.mem_range.mpr (Nat.mul_pos h2 h3), ?_⟩)
  rw [Nat.zero_mod, Nat.zero_mod, decide_eq_false (by omega), decide_eq_true (by omega)]
  rfl
theorem fit_lt {few wide deep many : Nat} : ∀ x ∈ fitN few wide deep many, x < wide * many := fun x hx => List.mem_range.mp (List.mem_filter.mp hx).1
theorem fit_len {few wide deep many : Nat} : (fitN few wide deep many).length ≤ wide * many := by
  unfold fitN
  exact Nat.le_trans (List.length_filter_le _ _) (by rw [List.length_range]; exact Nat.le_refl _)
theorem part_lt {p few wide many : Nat} (h : Nst p few wide many) : ∀ r ∈ partedN wide (wide / (few + 1)) (few + 1) many, ∀ x ∈ r, x < many * wide := by
  intro r hr x hx
  obtain ⟨j, hj, hr⟩ := List.mem_flatMap.mp hr
  obtain ⟨i, hi, rfl⟩ := List.mem_map.mp hr
  obtain ⟨m, hm, rfl⟩ := List.mem_map.mp hx
  have hj := List.mem_range.mp hj
  have hi := List.mem_range.mp hi
  have hm := List.mem_range.mp hm
  obtain ⟨hs1, hs2⟩ := h.step
  generalize wide / (few + 1) = st at hs1 hs2 hi ⊢
  have h1 : (j + 1) * wide ≤ many * wide := Nat.mul_le_mul_right wide hj
  have h2 : (m + 1) * st ≤ (few + 1) * st := Nat.mul_le_mul_right st hm
  rw [Nat.mul_comm (few + 1) st, ← hs1] at h2
  rw [Nat.succ_mul] at h1 h2
  omega
theorem part_len {wide step q many : Nat} : ∀ r ∈ partedN wide step q many, r.length = q := by
  intro r hr
  obtain ⟨j, _, hr⟩ := List.mem_flatMap.mp hr
  obtain ⟨i, _, rfl⟩ := List.mem_map.mp hr
  unfold partRow
  rw [List.length_map, List.length_range]
theorem class_len {wide many : Nat} : ∀ r ∈ classesN wide many, r.length = wide := by
  intro r hr
  obtain ⟨j, _, rfl⟩ := List.mem_map.mp hr
  unfold classRow
  rw [List.length_map, List.length_range]
theorem asc_of : ∀ {L : List Nat}, L.Pairwise (· < ·) → asc L
  | [], _ => fun ab h => by simp at h
  | [x], _ => fun ab h => by simp at h
  | x :: y :: r, h => fun ab hab => by
    rcases List.mem_cons.mp (show ab ∈ (x, y) :: (y :: r).zip r from hab) with rfl | hab
    · exact List.rel_of_pairwise_cons h (List.mem_cons_self ..)
    · exact asc_of (List.Pairwise.of_cons h) ab hab
theorem class_asc {wide many : Nat} : ∀ r ∈ classesN wide many, r.Pairwise (· < ·) := by
  intro r hr
  obtain ⟨j, _, rfl⟩ := List.mem_map.mp hr
  unfold classRow
  exact List.pairwise_map.mpr (List.pairwise_lt_range.imp fun {a b} h => by omega)
theorem dIs_erase : ∀ (L : List Nat) (j : Nat), (dIs L).eraseIdx j = dIs (L.eraseIdx j)
  | [], _ => rfl
  | x :: L, 0 => rfl
  | x :: L, j + 1 => by
    show dI x :: (dIs L).eraseIdx j = dI x :: dIs (L.eraseIdx j)
    rw [dIs_erase L j]

end DL
set_option Elab.async false
set_option linter.all false
set_option maxRecDepth 100000
set_option maxHeartbeats 8000000
/-! TX15: the law's body. -/
namespace DL
open PySem PySem.Spec PyProof.Rows L2 MI
abbrev dM (m : Nat × Nat × Nat × Nat × Nat) : PyData := .tuple [dI m.1, dI m.2.2.1, dI m.2.2.2.1, dI m.2.2.2.2]
theorem ex_lenAt {X : Cx} {δ : List Slot} {ds : List PyData} {p p2 pos : Pos} {x : Str} (k : Nat) (hd : δ[k]? = some (.own ds)) (hm : X.mg "len" = none) (hN : X.N[k]? = some x := by rfl) (hv : Vis X.env.scope x := by first | exact Or.inl rfl | exact Or.inr (Or.inl rfl) | exact Or.inr (Or.inr rfl)) (hdb : (x == ("__debug__" : Str)) = false := by decide)
    (hcd : (x == ("__classdict__" : Str)) = false := by decide) (hg : Gl X "len" := by rfl) : EX X (.Call (.Name "len" p) [.Name x p2] [] pos) δ (.int (ds.length : Int)) :=
  EX.of (pe_callB call_len_seq hg hm PySem.boot_len (pa_cons (pe_var hN hv hdb hcd) pa_nil)) fun σ H0 S H Q so q => by
    obtain ⟨o, e1, l, vs, e2, hs, h0, hh, hd⟩ := so.at_ k _ hd
    subst e2
    refine ⟨_, e1, l, vs, rfl, Or.inl (SqL.of hh), ?_⟩
    rw [dps_len hd]
    exact q _ S H (Gr.refl so.sh) (.int _)
theorem filter_none {α : Type} (xs : List α) : xs.filter (fun _ => false) = [] := by
  rw [List.filter_eq_nil_iff]
  intro a _ h
  exact absurd h (by decide)
theorem menu_small : ∀ m ∈ menuN, m.1 < 128 := by decide
section
variable {P : Program} {w : World} {K : PySem.W.Frag} {mg : Str → Option Value} {base : Heap}
def gLaw : List PyData → PyData → Prop := fun ds d => ∃ ns : List Int, ds = [.list (ns.map .int)] ∧ ns.length ≤ 63 ∧ d = .bool true
abbrev lawX (P : Program) (w : World) (K : PySem.W.Frag) (mg : Str → Option Value) (base : Heap) (f : Addr) (cdv : Value) (A : Around) (outer : List Env) (s : Shared) (H : Hp) (E : XK) : Cx := (cxOf CX0 P w K mg base N_law "law" (defScope (topS 85)) f cdv A outer s H E).nox
theorem ex_four {X : Cx} {δ : List Slot} {a b c e : Int} {p1 p2 p3 p4 p5 : Pos} {j1 j2 j3 j4 j5 : Nat} (h1 : starEach [.Constant (.int a) j1 p1, .Constant (.int b) j2 p2, .Constant (.int c) j3 p3, .Constant (.int e) j4 p4] X.env = (false, eval (.Constant (.int a) j1 p1) X.env) :: starEach [.Constant (.int b) j2 p2, .Constant (.int c) j3 p3, .Constant (.int e) j4 p4] X.env := by rfl)
    (h2 : starEach [.Constant (.int b) j2 p2, .Constant (.int c) j3 p3, .Constant (.int e) j4 p4] X.env = (false, eval (.Constant (.int b) j2 p2) X.env) :: starEach [.Constant (.int c) j3 p3, .Constant (.int e) j4 p4] X.env := by rfl) (h3 : starEach [.Constant (.int c) j3 p3, .Constant (.int e) j4 p4] X.env = (false, eval (.Constant (.int c) j3 p3) X.env) :: starEach [.Constant (.int e) j4 p4] X.env := by rfl)
    (h4 : starEach [.Constant (.int e) j4 p4] X.env = (false, eval (.Constant (.int e) j4 p4) X.env) :: starEach [] X.env := by rfl) : EX X (.Tuple [.Constant (.int a) j1 p1, .Constant (.int b) j2 p2, .Constant (.int c) j3 p3, .Constant (.int e) j4 p4] j5 p5) δ (.tuple [.int a, .int b, .int c, .int e]) :=
  ex_tup (ax_cons ex_int (ax_cons ex_int (ax_cons ex_int (ax_cons ex_int ax_nil h4) h3) h2) h1) (by show 4 ≤ sizeLine; decide)

def lapBody : List Stmt := match (defBody (topS 85)).getD 4 (.Pass ⟨0, 0, 0, 0⟩) with
  | .For _ _ b _ _ => b
  | _ => []
abbrev dBlocs (few wide many : Nat) : PyData := .tuple [.tuple (dRs (partedN wide (wide / (few + 1)) (few + 1) many)), .tuple (dRs (classesN wide many))]
abbrev heardN (p g few wide deep many high : Nat) (S : List Nat) : List PyData := [dR (fitN few wide deep many), dBlocs few wide many, dBk p (many * wide) (bookS p g wide many S), dI high]
theorem heard_td {p g few wide deep many high : Nat} {S : List Nat} (hn : Nst p few wide many) (hp : p < 128) (hsz : many * wide ≤ 100) (hsh : (partedN wide (wide / (few + 1)) (few + 1) many).length < 64) (hf : few + 1 ≤ 100) (kwf : Wf p (bookS p g wide many S) (many * wide)) (kl : (bookS p g wide many S).length ≤ many * wide)
    (flt : ∀ x ∈ fitN few wide deep many, x < wide * many) (fl : (fitN few wide deep many).length ≤ wide * many) (hh : high ≤ 100) : Td (.list (heardN p g few wide deep many high S)) 16000000 16 := by
  have hwm : wide * many ≤ 100 := by rw [Nat.mul_comm]; exact hsz
  have hw2 := hn.w2
  have hm2 := hn.m2
  have t1 := td_row (r := fitN few wide deep many) (by omega) fun x hx => by have := flt x hx; omega
  have t2 := td_rows (rs := partedN wide (wide / (few + 1)) (few + 1) many) (by omega) (fun r hr => by rw [part_len r hr]; exact hf) fun r hr x hx => by have := part_lt hn r hr x hx; omega
  have t3 := td_rows (rs := classesN wide many) (by unfold classesN; rw [List.length_map, List.length_range]; exact hm2) (fun r hr => by rw [class_len r hr]; exact hw2) fun r hr x hx => by have := class_lt hr x hx; omega
  have t4 := td_rows (rs := bookS p g wide many S) (by omega) (fun r hr => by rw [kwf.len r hr]; exact hsz) fun r hr x hx => by have := kwf.lt r hr x hx; omega
  have t5 : Td (dBlocs few wide many) 200000 4 := (td_tup (W := 50503) (k := 3) fun d hd => by
    rcases List.mem_cons.mp hd with rfl | hd
    · exact t2
    · rw [List.mem_singleton.mp hd]
      exact t3).mono (by show 2 * (50503 + 2) + 3 ≤ _; omega) (by omega)
  have t6 : Td (dBk p (many * wide) (bookS p g wide many S)) 200000 4 := (td_tup (W := 50503) (k := 3) fun d hd => by
    rcases List.mem_cons.mp hd with rfl | hd
    · exact (td_int hp).mono (by omega) (by omega)
    · rcases List.mem_cons.mp hd with rfl | hd
      · exact (td_int (by omega)).mono (by omega) (by omega)
      · rw [List.mem_singleton.mp hd]
        exact t4).mono (by show 3 * (50503 + 2) + 3 ≤ _; omega) (by omega)
  refine (td_lst (W := 200000) (k := 4) fun d hd => ?_).mono (by show 4 * (200000 + 2) + 3 ≤ _; omega) (by omega)
  rcases List.mem_cons.mp hd with rfl | hd
  · exact t1.mono (by omega) (by omega)
  · rcases List.mem_cons.mp hd with rfl | hd
    · exact t5
    · rcases List.mem_cons.mp hd with rfl | hd
      · exact t6
      · rw [List.mem_singleton.mp hd]
        exact (td_int (by omega)).mono (by omega) (by omega)
/-- the state at a lap's start -/
def Lap (ns : List Int) (t : Addr) (cs : List Int) (δ' : List Slot) : Prop := ∃ (u v c : Int) (s3 s4 s5 s6 s7 s8 s9 s10 s11 s12 s13 s14 s15 s16 s17 s18 s19 s20 : Slot), δ' = [.d (.list (ns.map .int)), fdS t cs u v c, .d (.list (menuN.map dM)), s3, s4, s5, s6, s7, s8, s9, s10, s11, s12, s13, s14, s15, s16, s17, s18, s19, s20]

theorem law_lap (T : Txt K mg) (hmenu : ∀ m ∈ menuN, RowAll m.1 m.2.1 m.2.2.1 m.2.2.2.1 m.2.2.2.2) {f : Addr} {cdv : Value} {A : Around} {outer : List Env} {s : Shared} {H : Hp} {E : XK} (quiet : A.guards = some []) (hr : Room 9 (lawX P w K mg base f cdv A outer s H E).A)
    {ns : List Int} {t : Addr} {cs : List Int} {R : DE} {δ' : List Slot} (h0 : Lap ns t cs δ') (hnx : ∀ δ', Lap ns t cs δ' → R.nx δ') : SXs (lawX P w K mg base f cdv A outer s H E) lapBody δ' R := by
  obtain ⟨u, v, c, s3, s4, s5, s6, s7, s8, s9, s10, s11, s12, s13, s14, s15, s16, s17, s18, s19, s20, rfl⟩ := h0

  -- prime, rest, width, groups
  refine sxs_cons (fun δ' => ∃ (u v c : Int) (p g few wide many : Nat), (p, g, few, wide, many) ∈ menuN ∧ δ' = [.d (.list (ns.map .int)), fdS t cs u v c, .d (.list (menuN.map dM)), s3, .d (dI p), .d (dI few), .d (dI wide), .d (dI many), s8, s9, s10, s11, s12, s13, s14, s15, s16, s17, s18, s19, s20]) (sx_tup4 4 5 6 7 rfl sc_law.nd (ef_callF 1 (has_l_pick T) hr rfl (ax_cons (ex_var 2 rfl) ax_nil) ⟨menuN.map dM, rfl, by decide, by decide⟩) fun d δ' hd => ?_) fun δ' ⟨u, v, c, p, g, few, wide, many, hm, hδ⟩ => ?_
  · obtain ⟨⟨items, e, hd⟩, u', v', c', rfl⟩ := hd
    have e2 : menuN.map dM = items := PyData.list.inj (List.cons.inj e).1
    subst e2
    obtain ⟨⟨p, g, few, wide, many⟩, hm, rfl⟩ := List.mem_map.mp hd
    exact ⟨_, _, _, _, rfl, u', v', c', p, g, few, wide, many, hm, rfl⟩
  subst hδ
  have rowall := hmenu _ hm
  have row : RowOk p g few wide many := rowall.row
  have hp128 : p < 128 := menu_small _ hm
  have good := rowall.good
  clear rowall
  dsimp only at good
  have hn := row.n
  have hp1 := hn.pr.1
  have hw1 := hn.w1
  have hw2 := hn.w2
  have hm1 := hn.m1
  have hm2 := hn.m2
  have hf1 := hn.f1
  have hsz := row.sz
  have hwm : wide * many ≤ 100 := by rw [Nat.mul_comm]; exact hsz
  obtain ⟨hs1, hs2⟩ := hn.step

  -- deep
  refine sxs_cons (fun δ' => ∃ (u v c : Int) (deep : Nat), 1 ≤ deep ∧ deep ≤ wide ∧ δ' = [.d (.list (ns.map .int)), fdS t cs u v c, .d (.list (menuN.map dM)), s3, .d (dI p), .d (dI few), .d (dI wide), .d (dI many), .d (dI deep), s9, s10, s11, s12, s13, s14, s15, s16, s17, s18, s19, s20]) (sx_setF 8 (ef_addN (k := 1) (P' := fun d δ' => ∃ (u v c : Int) (deep : Nat), 1 ≤ deep ∧ deep ≤ wide ∧ d = dI deep ∧ δ' = [.d (.list (ns.map .int)), fdS t cs u v c, .d (.list (menuN.map dM)), s3, .d (dI p), .d (dI few), .d (dI wide), .d (dI many), s8, s9, s10, s11, s12, s13, s14, s15, s16, s17, s18, s19, s20]) ex_int (ef_callF 1 (has_l_draw T) hr rfl (ax_cons (ex_var 6 rfl) ax_nil) ⟨wide, rfl, hw1, by omega⟩) fun d δ' hd => ?_) (fun d δ' ⟨u, v, c, deep, a, b, e, hδ⟩ => ?_) sc_law.nd) fun δ' ⟨u, v, c, deep, d1, d2, hδ⟩ => ?_
  · obtain ⟨⟨many', r, e, hr1, rfl⟩, u', v', c', rfl⟩ := hd
    have e2 : wide = many' := by
      have := PyData.int.inj (List.cons.inj e).1
      omega
    subst e2
    exact ⟨_, rfl, u', v', c', r + 1, by omega, by omega, (by show PyData.int _ = PyData.int _; congr 1; omega), rfl⟩
  · subst e hδ
    exact ⟨u, v, c, deep, a, b, rfl⟩
  subst hδ

  -- fit
  refine sxs_step [.d (.list (ns.map .int)), fdS t cs u v c, .d (.list (menuN.map dM)), s3, .d (dI p), .d (dI few), .d (dI wide), .d (dI many), .d (dI deep), .d (dL ((List.range (wide * many)).filter fun e => !decide (e % (few + 1) = few))), s10, s11, s12, s13, s14, s15, s16, s17, s18, s19, s20] (fun N hN => sx_mapA 9 19 (xs := List.range (wide * many)) (emb := dI) (fun e => !decide (e % (few + 1) = few)) dI inj_dI rfl sc_law.nd ((rangeD_map (wide * many)) ▸ ix_range1 (n := wide * many) (exn_mul (ex_var 6 rfl) (ex_var 7 rfl) (by omega)) (by omega) T.b_range) (by rw [List.length_range, sizeLine_eq]; omega) (fun e he s' H' C cl fp => txs_one (txn_ne (exn_mod (ex_intOf (i := (e : Int)) (ex_var 19 rfl) T.b_int) (exn_add (y := 1) (ex_var 5 rfl) ex_int) (by omega)) (ex_var 5 rfl))) (fun e he _ s' H' C cl fp => ex_var 19 rfl) hN) ?_
  refine sxs_step [.d (.list (ns.map .int)), fdS t cs u v c, .d (.list (menuN.map dM)), s3, .d (dI p), .d (dI few), .d (dI wide), .d (dI many), .d (dI deep), .d (dL (fitN few wide deep many)), s10, s11, s12, s13, s14, s15, s16, s17, s18, s19, s20] (fun N hN => sx_mapA 9 19 (xs := (List.range (wide * many)).filter fun e => !decide (e % (few + 1) = few)) (emb := dI) (fun e => decide (e % wide < deep)) dI inj_dI rfl sc_law.nd (ix_seq (ex_var 9 rfl) (.inl rfl)) (by rw [sizeLine_eq]; have := List.length_filter_le (fun e => !decide (e % (few + 1) = few)) (List.range (wide * many)); rw [List.length_range] at this; omega) (fun e he s' H' C cl fp => txs_one (txn_lt (exn_mod (ex_intOf (i := (e : Int)) (ex_var 19 rfl) T.b_int) (ex_var 6 rfl) (by omega)) (ex_var 8 rfl))) (fun e he _ s' H' C cl fp => ex_var 19 rfl) (by rw [fit_two]; exact hN)) ?_
  have fl0 := fit_pos (few := few) (wide := wide) (deep := deep) (many := many) hf1 hw1 hm1 d1
  have fl1 := fit_len (few := few) (wide := wide) (deep := deep) (many := many)
  have flt := fit_lt (few := few) (wide := wide) (deep := deep) (many := many)

  -- high
  refine sxs_cons (fun δ' => ∃ (u v c : Int) (high : Nat), 1 ≤ high ∧ high ≤ (fitN few wide deep many).length ∧ δ' = [.d (.list (ns.map .int)), fdS t cs u v c, .d (.list (menuN.map dM)), s3, .d (dI p), .d (dI few), .d (dI wide), .d (dI many), .d (dI deep), .d (dL (fitN few wide deep many)), .d (dI high), s11, s12, s13, s14, s15, s16, s17, s18, s19, s20]) (sx_setF 10 (ef_addN (k := 1) (P' := fun d δ' => ∃ (u v c : Int) (high : Nat), 1 ≤ high ∧ high ≤ (fitN few wide deep many).length ∧ d = dI high ∧ δ' = [.d (.list (ns.map .int)), fdS t cs u v c, .d (.list (menuN.map dM)), s3, .d (dI p), .d (dI few), .d (dI wide), .d (dI many), .d (dI deep), .d (dL (fitN few wide deep many)), s10, s11, s12, s13, s14, s15, s16, s17, s18, s19, s20]) ex_int (ef_callF 1 (has_l_draw T) hr rfl (ax_cons ((ex_len (ex_var 9 rfl) (.inl rfl) T.b_len).is (d' := dI (fitN few wide deep many).length) (by rw [List.length_map])) ax_nil) ⟨(fitN few wide deep many).length, rfl, fl0, by omega⟩) fun d δ' hd => ?_) (fun d δ' ⟨u, v, c, high, a, b, e, hδ⟩ => ?_) sc_law.nd) fun δ' ⟨u, v, c, high, h1, h2, hδ⟩ => ?_
  · obtain ⟨⟨many', r, e, hr1, rfl⟩, u', v', c', rfl⟩ := hd
    have e2 : (fitN few wide deep many).length = many' := by
      have := PyData.int.inj (List.cons.inj e).1
      omega
    subst e2
    exact ⟨_, rfl, u', v', c', r + 1, by omega, by omega, (by show PyData.int _ = PyData.int _; congr 1; omega), rfl⟩
  · subst e hδ
    exact ⟨u, v, c, high, a, b, rfl⟩
  subst hδ
  have gd := good deep high d1 d2 h1 h2
  clear good
  -- the plain facts
  have nl := numsN_len (p := p) (g := g) (wide := wide) (many := many)
  have nlt := numsN_lt (p := p) (g := g) (wide := wide) (many := many) (by omega)
  have tkl : ((fitN few wide deep many).take high).length = high := by rw [List.length_take]; omega
  have bs := gd.base
  have pk := gd.pick
  generalize hS : (fitN few wide deep many).take high = S at bs pk tkl
  have bwf : Wf p (bandsS p g wide many S) (many * wide) := by
    have := powRows_wf (p := p) (ns := numsN p g wide many) (es := S) hp1
    rwa [nl] at this
  have bl : (bandsS p g wide many S).length = high := by
    show (List.map _ S).length = _
    rw [List.length_map]
    exact tkl
  have kwf : Wf p (bookS p g wide many S) (many * wide) := nullN_wf hp1
  have kl : (bookS p g wide many S).length ≤ many * wide := nullN_len
  have hbk : Bk p (many * wide) (bookS p g wide many S) := ⟨hp1, hn.pr.2.1, hn.pr.2.2, Nat.mul_pos hm1 hw1, hsz, kwf, bs.z2, by omega, bs.z3⟩
  have hsl : (dIs (fitN few wide deep many)).take high = dIs S := by rw [← hS, dIs, dIs, List.map_take]

  -- numbers, blocs
  refine sxs_step [.d (.list (ns.map .int)), fdS t cs u v c, .d (.list (menuN.map dM)), s3, .d (dI p), .d (dI few), .d (dI wide), .d (dI many), .d (dI deep), .d (dL (fitN few wide deep many)), .d (dI high), .d (dR (numsN p g wide many)), .d (dBlocs few wide many), s13, s14, s15, s16, s17, s18, s19, s20] (fun N hN => sx_par 11 12 rfl sc_law.nd (ex_has (has_l_numbers T) hr (ax_cons (ex_var 4 rfl) (ax_cons (ex_var 6 rfl) (ax_cons (ex_var 7 rfl) ax_nil))) ⟨p, wide, many, g, rfl, hp1, hn.pr.2.1, row.o, hw1, by omega, by omega, by omega, rfl⟩) (ex_has (has_l_blocs T) hr (ax_cons (ex_var 5 rfl) (ax_cons (ex_var 6 rfl) (ax_cons (ex_var 7 rfl) ax_nil))) ⟨few, wide, many, rfl, hs2, row.f100, hw2, hm2, row.short, row.small, row.asc, rfl⟩) (by decide) hN) ?_
  -- bands
  refine sxs_step [.d (.list (ns.map .int)), fdS t cs u v c, .d (.list (menuN.map dM)), s3, .d (dI p), .d (dI few), .d (dI wide), .d (dI many), .d (dI deep), .d (dL (fitN few wide deep many)), .d (dI high), .d (dR (numsN p g wide many)), .d (dBlocs few wide many), .d (.list (dRs (bandsS p g wide many S))), s14, s15, s16, s17, s18, s19, s20] (fun N hN => sx_set 13 (ex_has (has_l_worths T) hr (ax_cons (ex_var 4 rfl) (ax_cons (ex_var 11 rfl) (ax_cons ((exo_sliceHi (k := high) (ex_var 9 rfl) (ex_var 10 rfl)).ex.is (congrArg PyData.list hsl)) ax_nil))) ⟨p, _, S, _, rfl, .inl rfl, hp1, hn.pr.2.1, nlt, by rw [nl]; omega, by omega, rfl⟩) hN sc_law.nd) ?_
  -- found
  refine sxs_step [.d (.list (ns.map .int)), fdS t cs u v c, .d (.list (menuN.map dM)), s3, .d (dI p), .d (dI few), .d (dI wide), .d (dI many), .d (dI deep), .d (dL (fitN few wide deep many)), .d (dI high), .d (dR (numsN p g wide many)), .d (dBlocs few wide many), .d (.list (dRs (bandsS p g wide many S))), .d (dBk p (many * wide) (bookS p g wide many S)), s15, s16, s17, s18, s19, s20] (fun N hN => sx_set 14 (ex_has (has_nested_book T) hr (ax_cons (ex_var 4 rfl) (ax_cons (ex_var 5 rfl) (ax_cons (ex_var 6 rfl) (ax_cons (ex_var 8 rfl) (ax_cons (ex_var 7 rfl) (ax_cons (ex_var 10 rfl) ax_nil)))))) ⟨p, few, wide, deep, many, high, g, rfl, hn, row.r, d1, d2, h1, h2, by omega, by rw [bandsN, hS]; exact bs.z1, by rw [bandsN, hS]⟩) hN sc_law.nd) ?_
  have hts : (wordS p g wide many S).length = high := by rw [bs.len]; exact tkl
  -- heard
  refine sxs_step [.d (.list (ns.map .int)), fdS t cs u v c, .d (.list (menuN.map dM)), s3, .d (dI p), .d (dI few), .d (dI wide), .d (dI many), .d (dI deep), .d (dL (fitN few wide deep many)), .d (dI high), .d (dR (numsN p g wide many)), .d (dBlocs few wide many), .d (.list (dRs (bandsS p g wide many S))), .d (dBk p (many * wide) (bookS p g wide many S)), .d (.list (heardN p g few wide deep many high S)), s16, s17, s18, s19, s20] (fun N hN => sx_set 15 (exo_lst (ax_cons (ex_has (has_nested_used T) hr (ax_cons (ex_var 5 rfl) (ax_cons (ex_var 6 rfl) (ax_cons (ex_var 8 rfl) (ax_cons (ex_var 7 rfl) ax_nil)))) ⟨few, wide, deep, many, rfl, hf1, hw1, hn.wf, d1, d2, hm1, hw2, hm2, rfl⟩) (ax_cons (ex_has (has_nested_groups T) hr (ax_cons (ex_var 4 rfl) (ax_cons (ex_var 5 rfl) (ax_cons (ex_var 6 rfl) (ax_cons (ex_var 7 rfl) ax_nil)))) ⟨p, few, wide, many, rfl, hn, rfl⟩) (ax_cons (ex_var 14 rfl) (ax_cons ((ex_has (has_told_signs T) hr (ax_cons (ex_var 14 rfl) ax_nil) ⟨p, _, _, rfl, hbk, rfl⟩).is (d' := dI high) (by rw [hts])) ax_nil)))) (by show 4 ≤ sizeLine; decide)).ex hN sc_law.nd) ?_

  -- the first comparison
  refine sxs_step [.d (.list (ns.map .int)), fdS t cs u v c, .d (.list (menuN.map dM)), s3, .d (dI p), .d (dI few), .d (dI wide), .d (dI many), .d (dI deep), .d (dL (fitN few wide deep many)), .d (dI high), .d (dR (numsN p g wide many)), .d (dBlocs few wide many), .d (.list (dRs (bandsS p g wide many S))), .d (dBk p (many * wide) (bookS p g wide many S)), .d (.list (heardN p g few wide deep many high S)), s16, s17, s18, s19, s20] (fun N hN => sx_if (k := !true) (tx_not (tx_val (ex_hasG (has_l_same T) quiet hr (ax_cons (ex_var 15 rfl) (ax_cons (exo_lst (ax_cons (ex_tupleOf (ex_var 9 rfl) (.inl rfl) T.b_tuple) (ax_cons (ex_var 12 rfl) (ax_cons (ex_has (has_l_made T) hr (ax_cons (ex_var 4 rfl) (ax_cons (ex_var 11 rfl) (ax_cons ((exo_sliceHi (k := high) (ex_var 9 rfl) (ex_var 10 rfl)).ex.is (congrArg PyData.list hsl)) ax_nil))) ⟨p, numsN p g wide many, S, _, rfl, .inl rfl, hp1, hn.pr.2.1, nlt, by rw [nl]; omega, by omega, by rw [nl]; exact bs.z1, (congrArg (fun n => dBk p n (nullN p (bandsS p g wide many S) n)) nl).symm⟩) (ax_cons (ex_var 10 rfl) ax_nil)))) (by show 4 ≤ sizeLine; decide)).ex ax_nil)) ⟨.list (heardN p g few wide deep many high S), _, rfl, .inl rfl, ?_, rfl⟩))) (fun h => absurd h (by decide)) fun _ => sxs_nil hN) ?_
  · exact heard_td hn hp128 hsz row.short row.f100 kwf kl flt fl1 (by omega)

  -- the words
  refine sxs_step [.d (.list (ns.map .int)), fdS t cs u v c, .d (.list (menuN.map dM)), s3, .d (dI p), .d (dI few), .d (dI wide), .d (dI many), .d (dI deep), .d (dL (fitN few wide deep many)), .d (dI high), .d (dR (numsN p g wide many)), .d (dBlocs few wide many), .d (.list (dRs (bandsS p g wide many S))), .d (dBk p (many * wide) (bookS p g wide many S)), .d (.list (heardN p g few wide deep many high S)), s16, s17, s18, s19, s20] (fun N hN => sx_if (k := !true) (tx_not (tx_val (ex_hasG (has_l_same T) quiet hr (ax_cons (ex_has (has_base_words T) hr (ax_cons (ex_var 14 rfl) ax_nil) ⟨p, _, _, rfl, hbk, rfl⟩) (ax_cons ((ex_has (has_l_stairs T) hr (ax_cons (ex_var 4 rfl) (ax_cons (ex_var 13 rfl) (ax_cons ((ex_len (ex_var 11 rfl) (.inr rfl) T.b_len).is (d' := dI (many * wide)) (by rw [dIs_len, nl])) ax_nil))) ⟨p, bandsS p g wide many S, many * wide, _, dR, rfl, .inl rfl, .inl rfl, hp1, hn.pr.2.1, bwf, by omega, by omega, rfl⟩).is (d' := .tuple (dRs (wordS p g wide many S))) (by rw [bs.eqn])) ax_nil)) ⟨_, _, rfl, .inr rfl, ?_, rfl⟩))) (fun h => absurd h (by decide)) fun _ => sxs_nil hN) ?_
  · have wwf := nullN_wf (wide := many * wide) (rows := bookS p g wide many S) hp1
    exact (td_rows (by rw [hts]; omega) (fun r hr => by rw [wwf.len r hr]; exact hsz) fun r hr x hx => by have := wwf.lt r hr x hx; omega).mono (by omega) (by omega)
  -- the words keep
  refine sxs_step [.d (.list (ns.map .int)), fdS t cs u v c, .d (.list (menuN.map dM)), s3, .d (dI p), .d (dI few), .d (dI wide), .d (dI many), .d (dI deep), .d (dL (fitN few wide deep many)), .d (dI high), .d (dR (numsN p g wide many)), .d (dBlocs few wide many), .d (.list (dRs (bandsS p g wide many S))), .d (dBk p (many * wide) (bookS p g wide many S)), .d (.list (heardN p g few wide deep many high S)), s16, s17, s18, s19, s20] (fun N hN => sx_if (k := decide (0 < (((bookS p g wide many S).filter fun _ => false).map dR).length)) (tx_neNil hr ((exo_filA 20 (xs := bookS p g wide many S) (emb := dR) (fun _ => false) dR inj_dR rfl sc_law.nd (ix_seq (ex_at (k := 2) (ex_var 14 rfl) (.inr rfl) ex_int rfl) (.inr rfl)) (by rw [sizeLine_eq]; omega) (fun r hr2 s' H' C cl fp => ?_) (fun r hr2 h => absurd h (by decide))).ex) (by rw [filter_none]; exact nil_shaped) (exo_lst ax_nil (by decide)).ex) (fun h => absurd h (by rw [filter_none]; decide)) fun _ => sxs_nil hN) ?_
  · refine TX.is (k := !decide (true = true)) ?_ (by decide)
    refine tx_isNot (k := true) (l := true) ?_ ex_bool
    refine EX.is (d := .bool (keepsN p (wordS p g wide many S) r)) ?_ (by rw [bs.kp r hr2])
    exact ex_has (has_keeps T) hr (ax_cons (ex_var 14 rfl) (ax_cons (ex_var 20 rfl) ax_nil)) ⟨p, _, _, r, rfl, hbk, kwf.len r hr2, kwf.lt r hr2, bs.z2 r hr2, rfl⟩
  -- the small blocs are told
  refine sxs_step [.d (.list (ns.map .int)), fdS t cs u v c, .d (.list (menuN.map dM)), s3, .d (dI p), .d (dI few), .d (dI wide), .d (dI many), .d (dI deep), .d (dL (fitN few wide deep many)), .d (dI high), .d (dR (numsN p g wide many)), .d (dBlocs few wide many), .d (.list (dRs (bandsS p g wide many S))), .d (dBk p (many * wide) (bookS p g wide many S)), .d (.list (heardN p g few wide deep many high S)), s16, s17, s18, s19, s20] (fun N hN => sx_if (k := decide (0 < (((partedN wide (wide / (few + 1)) (few + 1) many).filter fun _ => false).map dR).length)) (tx_neNil hr ((exo_filA 16 (xs := partedN wide (wide / (few + 1)) (few + 1) many) (emb := dR) (fun _ => false) dR inj_dR rfl sc_law.nd (ix_seq (ex_at (k := 0) (ex_var 12 rfl) (.inr rfl) ex_int rfl) (.inr rfl)) (by rw [sizeLine_eq]; have := row.short; omega) (fun b hb s' H' C cl fp => ?_) (fun r hr2 h => absurd h (by decide))).ex) (by rw [filter_none]; exact nil_shaped) (exo_lst ax_nil (by decide)).ex) (fun h => absurd h (by rw [filter_none]; decide)) fun _ => sxs_nil hN) ?_
  · refine TX.is (k := !true) ?_ (by decide)
    refine tx_not (tx_val ?_)
    exact ex_has (has_l_is_told T) hr (ax_cons (ex_var 4 rfl) (ax_cons (ex_var 13 rfl) (ax_cons (ex_var 16 rfl) ax_nil))) ⟨p, many * wide, _, b, rfl, hp1, hn.pr.2.1, bwf, by omega, by rw [part_len b hb]; have := row.f100; omega, part_lt hn b hb, bs.told b hb, rfl⟩

  -- bloc
  refine sxs_cons (fun δ' => ∃ (u v c : Int) (b : MI.Row), b ∈ classesN wide many ∧ δ' = [.d (.list (ns.map .int)), fdS t cs u v c, .d (.list (menuN.map dM)), s3, .d (dI p), .d (dI few), .d (dI wide), .d (dI many), .d (dI deep), .d (dL (fitN few wide deep many)), .d (dI high), .d (dR (numsN p g wide many)), .d (dBlocs few wide many), .d (.list (dRs (bandsS p g wide many S))), .d (dBk p (many * wide) (bookS p g wide many S)), .d (.list (heardN p g few wide deep many high S)), .d (dR b), s17, s18, s19, s20]) (sx_setF 16 (ef_callF 1 (has_l_pick T) hr rfl (ax_cons (exo_listOf (ex_at (k := 1) (ex_var 12 rfl) (.inr rfl) ex_int rfl) (.inr rfl) T.b_list).ex ax_nil) ⟨dRs (classesN wide many), rfl, ?_, ?_⟩) (fun d δ' hd => ?_) sc_law.nd) fun δ' ⟨u, v, c, b, hb, hδ⟩ => ?_
  · unfold classesN
    rw [dRs_len, List.length_map, List.length_range]
    omega
  · unfold classesN
    rw [dRs_len, List.length_map, List.length_range]
    omega
  · obtain ⟨⟨items, e, hd⟩, u', v', c', rfl⟩ := hd
    have e2 : dRs (classesN wide many) = items := PyData.list.inj (List.cons.inj e).1
    subst e2
    obtain ⟨b, hb, rfl⟩ := List.mem_map.mp hd
    exact ⟨u', v', c', b, hb, rfl⟩
  subst hδ
  have hbl := class_len b hb
  have hblt := class_lt hb
  have hba := class_asc b hb
  have hsame := bs.same b hb
  -- left
  refine sxs_step [.d (.list (ns.map .int)), fdS t cs u v c, .d (.list (menuN.map dM)), s3, .d (dI p), .d (dI few), .d (dI wide), .d (dI many), .d (dI deep), .d (dL (fitN few wide deep many)), .d (dI high), .d (dR (numsN p g wide many)), .d (dBlocs few wide many), .d (.list (dRs (bandsS p g wide many S))), .d (dBk p (many * wide) (bookS p g wide many S)), .d (.list (heardN p g few wide deep many high S)), .d (dR b), .own (dIs b), s18, s19, s20] (fun N hN => sx_setO 17 (exo_listOf (ex_var 16 rfl) (.inr rfl) T.b_list) hN sc_law.nd) ?_
  refine sxs_cons (fun δ' => ∃ (u v c : Int) (L : List Nat) (s18 : Slot), L.Sublist b ∧ L.length = deep ∧ δ' = [.d (.list (ns.map .int)), fdS t cs u v c, .d (.list (menuN.map dM)), s3, .d (dI p), .d (dI few), .d (dI wide), .d (dI many), .d (dI deep), .d (dL (fitN few wide deep many)), .d (dI high), .d (dR (numsN p g wide many)), .d (dBlocs few wide many), .d (.list (dRs (bandsS p g wide many S))), .d (dBk p (many * wide) (bookS p g wide many S)), .d (.list (heardN p g few wide deep many high S)), .d (dR b), .own (dIs L), s18, s19, s20]) ?_ fun δ' ⟨u, v, c, L, s18, hL, hLl, hδ⟩ => ?_
  · refine sx_for PassesOwn.never rfl (ix_range1 (n := wide - deep) (exn_sub (ex_var 6 rfl) (ex_var 8 rfl) d2) (by omega) T.b_range) (pg1 18 sc_law.nd) (fun j δ' => ∃ (u v c : Int) (L : List Nat) (s18 : Slot), L.Sublist b ∧ L.length + j = wide ∧ δ' = [.d (.list (ns.map .int)), fdS t cs u v c, .d (.list (menuN.map dM)), s3, .d (dI p), .d (dI few), .d (dI wide), .d (dI many), .d (dI deep), .d (dL (fitN few wide deep many)), .d (dI high), .d (dR (numsN p g wide many)), .d (dBlocs few wide many), .d (.list (dRs (bandsS p g wide many S))), .d (dBk p (many * wide) (bookS p g wide many S)), .d (.list (heardN p g few wide deep many high S)), .d (dR b), .own (dIs L), s18, s19, s20]) ⟨u, v, c, b, s18, List.Sublist.refl _, hbl, rfl⟩ (fun j x δ' hx ⟨u, v, c, L, s18, hL, hLl, hδ⟩ => ?_) (fun δ' ⟨u, v, c, L, s18, hL, hLl, hδ⟩ => ?_)
    · subst hδ
      obtain ⟨hj, rfl⟩ := range_at hx
      refine ⟨_, rfl, sxs_last (sx_popF 17 rfl (ef_callF 1 (has_l_draw T) hr rfl (ax_cons (d := dI L.length) ?_ ax_nil) ⟨L.length, rfl, by omega, by omega⟩) (fun y δ' hy => ?_) (by rw [dIs_len]; omega))⟩
      · refine EX.is (d := .int ((dIs L).length : Int)) ?_ (by rw [dIs_len])
        exact ex_lenAt 17 rfl T.b_len
      obtain ⟨⟨many', r, e, hr1, rfl⟩, u', v', c', rfl⟩ := hy
      have e2 : L.length = many' := by
        have := PyData.int.inj (List.cons.inj e).1
        omega
      subst e2
      refine ⟨r, rfl, by rw [dIs_len]; exact hr1, rfl, u', v', c', L.eraseIdx r, _, (List.eraseIdx_sublist ..).trans hL, ?_, by rw [dIs_erase]; rfl⟩
      rw [List.length_eraseIdx_of_lt hr1]
      omega
    · rw [rangeD_len] at hLl
      exact ⟨u, v, c, L, s18, hL, by omega, hδ⟩
  subst hδ
  have hLt : ∀ x ∈ L, x < many * wide := fun x hx => hblt x (hL.subset hx)
  have hpick := pk b hb L hL (by omega)
  refine sxs_freeze 17 rfl ?_
  -- told
  refine sxs_step [.d (.list (ns.map .int)), fdS t cs u v c, .d (.list (menuN.map dM)), s3, .d (dI p), .d (dI few), .d (dI wide), .d (dI many), .d (dI deep), .d (dL (fitN few wide deep many)), .d (dI high), .d (dR (numsN p g wide many)), .d (dBlocs few wide many), .d (.list (dRs (bandsS p g wide many S))), .d (dBk p (many * wide) (bookS p g wide many S)), .d (.list [dI (rankN p (bandsS p g wide many S) b), dI (rankN p (bandsS p g wide many S) b)]), .d (dR b), .d (dL L), s18, s19, s20] (fun N hN => sx_set 15 (exo_lst (ax_cons ((ex_has (has_told_on T) hr (ax_cons (ex_var 14 rfl) (ax_cons (ex_tupleOf (ex_var 17 rfl) (.inl rfl) T.b_tuple) ax_nil)) ⟨p, _, _, L, rfl, hbk, by omega, hLt, asc_of (hba.sublist hL), rfl⟩).is (d' := dI (rankN p (bandsS p g wide many S) b)) (congrArg dI hpick)) (ax_cons ((ex_has (has_told_on T) hr (ax_cons (ex_var 14 rfl) (ax_cons (ex_var 16 rfl) ax_nil)) ⟨p, _, _, b, rfl, hbk, by omega, hblt, asc_of hba, rfl⟩).is (d' := dI (rankN p (bandsS p g wide many S) b)) (congrArg dI hsame)) ax_nil)) (by show 2 ≤ sizeLine; decide)).ex hN sc_law.nd) ?_
  refine sxs_last (sx_if (k := !true) (tx_not (tx_val (ex_hasG (has_l_same T) quiet hr (ax_cons (ex_var 15 rfl) (ax_cons ((exo_rep (j := 2) (es1 := [dI (rankN p (bandsS p g wide many S) b)]) (exo_lst (ax_cons (ex_has (has_l_rank T) hr (ax_cons (ex_var 4 rfl) (ax_cons (ex_var 13 rfl) (ax_cons (ex_var 16 rfl) ax_nil))) ⟨p, many * wide, _, b, _, rfl, .inr rfl, hp1, hn.pr.2.1, bwf, by omega, by omega, hblt, rfl⟩) ax_nil) (by show 1 ≤ sizeLine; decide)) ex_int (by decide) (by show 1 ≤ 1000; decide)).ex.is (d' := .list [dI (rankN p (bandsS p g wide many S) b), dI (rankN p (bandsS p g wide many S) b)]) rfl) ax_nil)) ⟨_, _, rfl, .inl rfl, ?_, rfl⟩))) (fun h => absurd h (by decide)) fun _ => sxs_nil (hnx _ ⟨_, _, _, _, _, _, _, _, _, _, _, _, _, _, _, _, _, _, _, _, _, rfl⟩))
  have hrk : rankN p (bandsS p g wide many S) b ≤ b.length := reduced_len
  refine (td_lst (W := 3) (k := 1) fun d hd => ?_).mono (by show 2 * 5 + 3 ≤ _; omega) (by omega)
  rcases List.mem_cons.mp hd with rfl | hd
  · exact td_int (by omega)
  · rw [List.mem_singleton.mp hd]
    exact td_int (by omega)

end
end DL
set_option Elab.async false
set_option linter.all false
set_option maxRecDepth 100000
set_option maxHeartbeats 1000000
/-! TX16: the law. -/
namespace DL
open PySem PySem.Spec PyProof.Rows L2 MI
abbrev m4 (a b c e : Int) : PyData := .tuple [.int a, .int b, .int c, .int e]
abbrev mD1 : List PyData := [m4 3 1 2 1, m4 5 1 4 1, m4 5 1 2 2, m4 5 3 4 1, m4 7 1 6 1, m4 7 2 6 1, m4 13 1 4 2, m4 13 1 6 2, m4 13 2 6 2]
abbrev mD2 : List PyData := [m4 13 1 4 3, m4 13 1 12 1, m4 13 2 12 1, m4 13 3 12 1, m4 17 1 4 2, m4 17 3 8 1, m4 19 2 6 2, m4 31 2 6 1]
abbrev mD3 : List PyData := [m4 29 1 4 3, m4 31 1 10 1, m4 37 2 6 2, m4 37 1 4 3, m4 31 4 10 1, m4 7 1 2 3, m4 7 2 3 2]
theorem menu_data : mD1 ++ mD2 ++ mD3 = menuN.map dM := by rfl
/-! ### judgements as structures: the unifier does not look into them -/
structure BA (X : Cx) (es : List Expr) (δ : List Slot) (ds : List PyData) : Prop where
  go : AX X es δ ds
structure BO (X : Cx) (e : Expr) (δ : List Slot) (ds : List PyData) : Prop where
  go : EXo X e δ ds
structure BX (X : Cx) (e : Expr) (δ : List Slot) (d : PyData) : Prop where
  go : EX X e δ d
structure BT (X : Cx) (st : Stmt) (δ : List Slot) (E : DE) : Prop where
  go : SX X st δ E
structure BS (X : Cx) (sts : List Stmt) (δ : List Slot) (E : DE) : Prop where
  go : SXs X sts δ E
section
variable {X : Cx} {e tg iter : Expr} {es : List Expr} {st : Stmt} {sts body : List Stmt} {δ : List Slot} {E : DE} {d : PyData} {ds items : List PyData} {x : Str} {p p' p2 pos : Pos} {k : Nat}
theorem ba_nil : BA X [] δ [] := ⟨ax_nil⟩
theorem ba_four {a b c g : Int} {p1 p2 p3 p4 p5 : Pos} {j1 j2 j3 j4 j5 : Nat} (h : BA X es δ ds) : BA X (.Tuple [.Constant (.int a) j1 p1, .Constant (.int b) j2 p2, .Constant (.int c) j3 p3, .Constant (.int g) j4 p4] j5 p5 :: es) δ (m4 a b c g :: ds) :=
  ⟨ax_cons ex_four h.go⟩
theorem bo_lst (h : BA X es δ ds) (hz : ds.length ≤ sizeLine) : BO X (.List es pos) δ ds := ⟨exo_lst h.go hz⟩
theorem bo_catOwn {e2 : Expr} {es1 es2 : List PyData} (k : Nat) (hd : δ[k]? = some (.own es1)) (hb : BO X e2 δ es2) (hz : es1.length + es2.length ≤ sizeLine) (hN : X.N[k]? = some x := by rfl) (hv : Vis X.env.scope x := by first | exact Or.inl rfl | exact Or.inr (Or.inl rfl) | exact Or.inr (Or.inr rfl)) (hdb : (x == ("__debug__" : Str)) = false := by decide)
    (hcd : (x == ("__classdict__" : Str)) = false := by decide) : BO X (.BinOp (.Name x p) .Add e2 pos) δ (es1 ++ es2) := ⟨exo_catOwn k hd hb.go hz hN hv hdb hcd⟩
theorem bt_setO (i : Nat) (he : BO X e δ ds) (k : E.nx (δ.set i (.own ds))) (hN : X.N.Nodup) (hs : swapsWith e (some (.Name x p')) pos.line X.env = pure false) (hi : X.N[i]? = some x := by rfl) (hx : Loc X.env.scope x := by first | exact Or.inl rfl | exact Or.inr rfl)
    (hf : X.fn x = true ∨ X.env.scope.names.lookup x = some .local := by first | exact .inl rfl | exact .inr rfl) : BT X (.Assign [.Name x p'] e pos) δ E := ⟨sx_setO i he.go k hN hi hx hs hf⟩
theorem swap_list {l : Nat} {t : Option Expr} {env : Env} : swapsWith (.List es pos) t l env = pure false := rfl
theorem swap_bin {a b : Expr} {o : Operator} {l : Nat} {t : Option Expr} {env : Env} : swapsWith (.BinOp a o b pos) t l env = pure false := rfl
theorem bs_cons (N : List Slot → Prop) (h : BT X st δ { E with nx := N }) (k : ∀ δ', N δ' → BS X sts δ' E) : BS X (st :: sts) δ E := ⟨sxs_cons N h.go fun δ' q => (k δ' q).go⟩
theorem bs_step (δ1 : List Slot) (h : ∀ N : List Slot → Prop, N δ1 → BT X st δ { E with nx := N }) (k : BS X sts δ1 E) : BS X (st :: sts) δ E := ⟨sxs_step δ1 (fun N hN => (h N hN).go) k.go⟩
theorem bs_last (h : BT X st δ E) : BS X [st] δ E := ⟨sxs_last h.go⟩
theorem bs_freeze (k : Nat) (hk : δ[k]? = some (.own ds)) (h : BS X sts (δ.set k (.d (.list ds))) E) : BS X sts δ E := ⟨sxs_freeze k hk h.go⟩
theorem bt_ret (he : BX X e δ d) (k : E.rt d δ) : BT X (.Return (some e) pos) δ E := ⟨sx_ret he.go k⟩
theorem bt_feed {a : Expr} {ns : List Int} (i : Nat) (T : Txt X.K X.mg) (hr : Room k X.A) (ha : BX X a δ (.list (ns.map .int))) (hl : ns.length ≤ 100000) (hj : 1 ≤ k) (kk : ∀ t, E.nx (δ.set i (fdS t (ns.take 63) 0 0 0))) (hN : X.N.Nodup) (hg : Gl X "_law_feed" := by rfl) (hi : X.N[i]? = some x := by rfl) (hx : Loc X.env.scope x := by first | exact Or.inl rfl | exact Or.inr rfl)
    (hs : swapsWith (.Call (.Name "_law_feed" p) [a] [] p2) (some (.Name x p')) pos.line X.env = pure false := by rfl) (hf : X.fn x = true ∨ X.env.scope.names.lookup x = some .local := by first | exact .inl rfl | exact .inr rfl)
    (he : starEach [a] X.env = (false, eval a X.env) :: starEach [] X.env := by rfl) (hpl : (backTo p2 (starEach [] X.env)).any (·.1) = false := by rfl) : BT X (.Assign [.Name x p'] (.Call (.Name "_law_feed" p) [a] [] p2) pos) δ E := ⟨sx_feed i T hr ha.go hl hj kk hN hg hi hx hs hf he hpl⟩
theorem bt_for {t : Tg} (hp : PassesOwn (model X.prog X.w) X.A X.env X.xe) (hc : X.calm = true) (hi : IX X tg iter δ items) (hg : PG X tg (t.g X.K)) (P : Nat → List Slot → Prop) (h0 : P 0 δ)
    (hs : ∀ (i : Nat) (x : PyData) (δ' : List Slot), items[i]? = some x → P i δ' → ∃ δ'', t.ok x δ' δ'' ∧ BS X body δ'' { nx := P (i + 1), rt := E.rt, ct := P (i + 1), bk := E.nx }) (hd : ∀ δ', P items.length δ' → E.nx δ')
    (hf : ∀ x, foldedSetIterable iter X.env x = pure x := by intro _; rfl) : BT X (.For tg iter body [] pos) δ E :=
  ⟨sx_for hp hc hi hg P h0 (fun i x δ' a b => let ⟨δ'', c, q⟩ := hs i x δ' a b; ⟨δ'', c, q.go⟩) hd hf⟩
end
section
variable {P : Program} {w : World} {K : PySem.W.Frag} {mg : Str → Option Value} {base : Heap}
abbrev lawSt (a b c : Slot) : List Slot := [a, b, c, .un, .un, .un, .un, .un, .un, .un, .un, .un, .un, .un, .un, .un, .un, .un, .un, .un, .un]
theorem law_lapB (T : Txt K mg) (hmenu : ∀ m ∈ menuN, RowAll m.1 m.2.1 m.2.2.1 m.2.2.2.1 m.2.2.2.2) {f : Addr} {cdv : Value} {A : Around} {outer : List Env} {s : Shared} {H : Hp} {E : XK} (quiet : A.guards = some []) (hr : Room 9 (lawX P w K mg base f cdv A outer s H E).A)
    {ns : List Int} {t : Addr} {cs : List Int} {R : DE} {δ' : List Slot} (h0 : Lap ns t cs δ') (hnx : ∀ δ', Lap ns t cs δ' → R.nx δ') : BS (lawX P w K mg base f cdv A outer s H E) lapBody δ' R := ⟨law_lap T hmenu quiet hr h0 hnx⟩
theorem law_body (T : Txt K mg) (hmenu : ∀ m ∈ menuN, RowAll m.1 m.2.1 m.2.2.1 m.2.2.2.1 m.2.2.2.2) {f : Addr} {cdv : Value} {A : Around} {outer : List Env} {s : Shared} {H : Hp} {E : XK} (quiet : A.guards = some []) (hr : Room 9 (lawX P w K mg base f cdv A outer s H E).A)
    {ns : List Int} (hl : ns.length ≤ 63) {R : DE} (hret : ∀ δ', R.rt (.bool true) δ') : BS (lawX P w K mg base f cdv A outer s H E) (defBody (topS 85)) (lawSt (.d (.list (ns.map .int))) .un .un) R := by
  refine bs_cons (fun δ' => ∃ t, δ' = lawSt (.d (.list (ns.map .int))) (fdS t (ns.take 63) 0 0 0) .un) (bt_feed 1 T hr ⟨ex_var 0 rfl⟩ (by omega) (by decide) (fun t => ⟨t, rfl⟩) sc_law.nd) ?_
  intro δ' hδ
  obtain ⟨t, hδ⟩ := hδ
  subst hδ
  refine bs_step (lawSt (.d (.list (ns.map .int))) (fdS t (ns.take 63) 0 0 0) (.own mD1)) (fun N hN => bt_setO 2 (ds := mD1) ?_ hN sc_law.nd swap_list) ?_
  · exact bo_lst (ba_four (ba_four (ba_four (ba_four (ba_four (ba_four (ba_four (ba_four (ba_four ba_nil))))))))) (by show 9 ≤ sizeLine; decide)
  refine bs_step (lawSt (.d (.list (ns.map .int))) (fdS t (ns.take 63) 0 0 0) (.own (mD1 ++ mD2))) (fun N hN => bt_setO 2 (ds := mD1 ++ mD2) ?_ hN sc_law.nd swap_bin) ?_
  · exact bo_catOwn (es1 := mD1) 2 rfl (bo_lst (ds := mD2) (ba_four (ba_four (ba_four (ba_four (ba_four (ba_four (ba_four (ba_four ba_nil)))))))) (by show 8 ≤ sizeLine; decide)) (by show 9 + 8 ≤ sizeLine; decide)
  refine bs_step (lawSt (.d (.list (ns.map .int))) (fdS t (ns.take 63) 0 0 0) (.own (mD1 ++ mD2 ++ mD3))) (fun N hN => bt_setO 2 (ds := mD1 ++ mD2 ++ mD3) ?_ hN sc_law.nd swap_bin) ?_
  · exact bo_catOwn (es1 := mD1 ++ mD2) 2 rfl (bo_lst (ds := mD3) (ba_four (ba_four (ba_four (ba_four (ba_four (ba_four (ba_four ba_nil))))))) (by show 7 ≤ sizeLine; decide)) (by show 17 + 7 ≤ sizeLine; decide)
  rw [menu_data]
  refine bs_freeze 2 rfl ?_
  refine bs_cons (fun _ => True) ?_ ?_
  · refine bt_for PassesOwn.never rfl (ix_range1 (n := 2) ex_int (by decide) T.b_range) (pg1 3 sc_law.nd) (fun i δ' => Lap ns t (ns.take 63) δ') ⟨0, 0, 0, _, _, _, _, _, _, _, _, _, _, _, _, _, _, _, _, _, _, rfl⟩ ?_ (fun δ' _ => trivial)
    intro i x δ' hx h
    obtain ⟨u, v, c, s3, s4, s5, s6, s7, s8, s9, s10, s11, s12, s13, s14, s15, s16, s17, s18, s19, s20, rfl⟩ := h
    refine ⟨_, rfl, ?_⟩
    exact law_lapB T hmenu quiet hr ⟨u, v, c, _, _, _, _, _, _, _, _, _, _, _, _, _, _, _, _, _, _, rfl⟩ fun δ' h => h
  · intro δ' _
    exact bs_last (bt_ret ⟨ex_bool⟩ (hret _))
theorem has_law (T : Txt K mg) (hmenu : ∀ m ∈ menuN, RowAll m.1 m.2.1 m.2.2.1 m.2.2.2.1 m.2.2.2.2) : HasG P w K mg base 10 "law" P_law gLaw :=
  hasG_mk T.d_law sc_law (fun ds d ⟨ns, h, _⟩ => by rw [h]; rfl) fun f cdv A outer s H E quiet hr ds d ⟨ns, e, hl, ed⟩ => by
    subst e ed
    exact (law_body T hmenu quiet hr hl fun _ => rfl).go
theorem law_says {K : PySem.W.Frag} {H : Hp} {a : Addr} {ns : List Int} (hl : ns.length ≤ 63) (hS : SqL K H a (ns.map V.int)) : spD K gLaw [.ref a] H (fun v _ => v = .bl true) fun _ _ _ => False :=
  ⟨H, [.list (ns.map .int)], .bool true, Same.refl _, .cons (.lst hS (dps_ints ns)) .nil, ⟨ns, rfl, hl, rfl⟩, fun v S' H' g dv => by cases dv; rfl⟩
end
/-! ### facts of the top -/
section
variable {K : PySem.W.Frag} {h : Heap} {mg : Str → Option Value} {f : Addr} {od an : Option Addr} {osl : Array (Option Value)} {oc kV doc pm cdv ct : Value} {x : Str} {st : Stmt} {ps : List Str}
theorem dfn_at (X : K.In h) (G : h.Ns mainGlobals mg) (a : PySem.W.nsIn K mainGlobals x = some (some (.ref f))) (l : K.lookup f = some ⟨oc, od, .func (PySem.W.fnOf x x (defArgs st) (defBody st) (defScope st) .none kV doc pm an cdv ct), osl⟩) (c : PySem.W.codeIn K cdv x = true) (k : PySem.W.keepIn K (.ref f) = true)
    (b : ∀ (kV doc pm : Value) (an : Option Addr) (cdv ct : Value) (us : List Value), us.length = ps.length → bindArgs (PySem.W.fnOf x x (defArgs st) (defBody st) (defScope st) .none kV doc pm an cdv ct) ⟨us, []⟩ = pure (ps.zip us)) : Dfn K mg x st ps :=
  ⟨_, _, fun_mk l c k, (fun_mk l c k).binds b, PySem.W.mg_of X G a⟩
theorem dfnD_at {T : Addr} {o : Obj} {its : List Value} {n : Nat} {dvs : List V} (X : K.In h) (G : h.Ns mainGlobals mg) (a : PySem.W.nsIn K mainGlobals x = some (some (.ref f))) (l : K.lookup f = some ⟨oc, od, .func (PySem.W.fnOf x x (defArgs st) (defBody st) (defScope st) (.ref T) kV doc pm an cdv ct), osl⟩) (c : PySem.W.codeIn K cdv x = true) (k : PySem.W.keepIn K (.ref f) = true)
    (t : K.lookup T = some o) (e : o.data = .seq its.toArray n) (v : Vals dvs its) (hd : dvs ≠ []) (m : Nat) (hm : m + (dvs.length - 0) = ps.length)
    (b : ∀ (T : Addr) (kV doc pm : Value) (an : Option Addr) (cdv ct : Value) (us its : List Value), us.length = m → its.length = dvs.length →
      ∃ k, bindArgs (PySem.W.fnOf x x (defArgs st) (defBody st) (defScope st) (.ref T) kV doc pm an cdv ct) ⟨us, []⟩ = seqItems? (.ref T) >>= k ∧ k (some its.toArray) = pure (ps.zip (us ++ its.drop 0))) : DfnD K mg x st ps dvs := by
  have F : FunD K x x (defArgs st) (defBody st) (defScope st) dvs [] f _ := ⟨⟨oc, od, .ref T, kV, doc, pm, an, cdv, ct, osl, rfl, l, c, Or.inr ⟨hd, T, o, its, n, rfl, t, e, v⟩, Or.inl rfl⟩, k⟩
  obtain ⟨us, hu, hb⟩ := F.binds1 (ps := ps) m 0 hd hm b
  exact ⟨f, _, us, F, hb, hu, PySem.W.mg_of X G a⟩
end
end DL
set_option Elab.async false
set_option linter.all false
set_option maxRecDepth 100000
set_option maxHeartbeats 4000000
/-! TX17: the law's def at the end; the defaults' binding. -/
namespace DL
open PySem PySem.Spec PyProof.Rows L2 MI
section
variable {P : Program} {w : World} {K : PySem.W.Frag} {mg : Str → Option Value}
theorem fnG_data {base : Heap} {x : Str} {st : Stmt} {N ps : List Str} {k : Nat} {f : Addr} {fd : FuncData} {G : List PyData → PyData → Prop} (F : Fun K x x st f fd) (S : FnScope N ps (defScope st)) (hl : ∀ ds d, G ds d → ds.length = ps.length)
    (body : ∀ f cdv A outer s H E, A.guards = some [] → Room k (cxOf CX0 P w K mg base N x (defScope st) f cdv A outer s H E).nox.A → ∀ ds d, G ds d → SXs (cxOf CX0 P w K mg base N x (defScope st) f cdv A outer s H E).nox (defBody st) (startD N ds) { nx := fun _ => d = .none, rt := fun r _ => r = d }) :
    FnG P w K mg base (k + 1) f fd ps (spD K G) := by
  refine fnG_mk F S (fun vs H Q E h => ?_) fun cdv A outer s H vs Q E quiet hr h => ?_
  · obtain ⟨S', ds, d, _, h1, h2, _⟩ := h
    rw [dps_len h1]
    exact hl ds d h2
  · obtain ⟨S', ds, d, sh, h1, h2, q⟩ := h
    refine ⟨_, pss_c, startD N ds, _, S', H, S', body _ cdv A outer s H E quiet hr ds d h2, Gr.refl sh, start_ok sh h1, ?_⟩
    refine ⟨fun σ' δ' S1 H1 e g so => ?_, fun v r σ' δ' S1 H1 e g so dv => ?_, fun _ _ _ _ e => e.elim, fun _ _ _ _ e => e.elim⟩
    · subst e
      exact q .non S1 H1 g .non
    · subst e
      exact q v S1 H1 g dv
theorem law_fnG {base : Heap} {f : Addr} {fd : FuncData} (T : Txt K mg) (hmenu : ∀ m ∈ menuN, RowAll m.1 m.2.1 m.2.2.1 m.2.2.2.1 m.2.2.2.2) (F : Fun K "law" "law" (topS 85) f fd) : FnG P w K mg base 10 f fd P_law (spD K gLaw) :=
  fnG_data F sc_law (fun ds d ⟨ns, h, _⟩ => by rw [h]; rfl) fun f cdv A outer s H E quiet hr ds d ⟨ns, e, hl, ed⟩ => by
    subst e ed
    exact (law_body T hmenu quiet hr hl fun _ => rfl).go
theorem law_end {fa : Addr} (T : Txt K mg) (hmenu : ∀ m ∈ menuN, RowAll m.1 m.2.1 m.2.2.1 m.2.2.2.1 m.2.2.2.2) (hfa : mg "law" = some (.ref fa)) :
    ∃ fd : FuncData, (∀ (s : Shared) (u : Value), BindsTo s fd ⟨[u], []⟩ [("_law_script", u)]) ∧ ∀ base : Heap, K.In base → base.Ns mainGlobals mg → FnG P w K mg base 10 fa fd ["_law_script"] (spD K gLaw) := by
  obtain ⟨f, fd, F, _, m⟩ := T.d_law.ex
  rw [hfa] at m
  cases m
  refine ⟨fd, fun s u => ?_, fun base _ _ => law_fnG T hmenu F⟩
  obtain ⟨oc, od, kV, doc, pm, an, cdv, ct, osl, rfl, _, _⟩ := F.ex
  exact .of_eq rfl
end
theorem int_at {K : PySem.W.Frag} {h : Heap} {mg : Str → Option Value} {x : Str} {i : Int} {t : Tok} (X : K.In h) (G : h.Ns mainGlobals mg) (e : PySem.W.nsIn K mainGlobals x = some (some (.int i t))) : ∃ t, mg x = some (.int i t) := ⟨t, PySem.W.mg_of X G e⟩
theorem bd_want : ∀ (T : Addr) (kV doc pm : Value) (an : Option Addr) (cdv ct : Value) (us its : List Value), us.length = 2 → its.length = 1 →
    ∃ k, bindArgs (PySem.W.fnOf "want" "want" (defArgs (topS 22)) (defBody (topS 22)) (defScope (topS 22)) (.ref T) kV doc pm an cdv ct) ⟨us, []⟩ = seqItems? (.ref T) >>= k ∧ k (some its.toArray) = pure (P_want.zip (us ++ its.drop 0)) :=
  fun _ _ _ _ _ _ _ us its h1 h2 => match us, its, h1, h2 with | [_, _], [_], _, _ => ⟨_, rfl, rfl⟩
theorem bd_want_book : ∀ (T : Addr) (kV doc pm : Value) (an : Option Addr) (cdv ct : Value) (us its : List Value), us.length = 1 → its.length = 1 →
    ∃ k, bindArgs (PySem.W.fnOf "want_book" "want_book" (defArgs (topS 23)) (defBody (topS 23)) (defScope (topS 23)) (.ref T) kV doc pm an cdv ct) ⟨us, []⟩ = seqItems? (.ref T) >>= k ∧ k (some its.toArray) = pure (P_want_book.zip (us ++ its.drop 0)) :=
  fun _ _ _ _ _ _ _ us its h1 h2 => match us, its, h1, h2 with | [_], [_], _, _ => ⟨_, rfl, rfl⟩
theorem bd_want_lot : ∀ (T : Addr) (kV doc pm : Value) (an : Option Addr) (cdv ct : Value) (us its : List Value), us.length = 2 → its.length = 1 →
    ∃ k, bindArgs (PySem.W.fnOf "want_lot" "want_lot" (defArgs (topS 24)) (defBody (topS 24)) (defScope (topS 24)) (.ref T) kV doc pm an cdv ct) ⟨us, []⟩ = seqItems? (.ref T) >>= k ∧ k (some its.toArray) = pure (P_want_lot.zip (us ++ its.drop 0)) :=
  fun _ _ _ _ _ _ _ us its h1 h2 => match us, its, h1, h2 with | [_, _], [_], _, _ => ⟨_, rfl, rfl⟩
theorem bd_want_sum : ∀ (T : Addr) (kV doc pm : Value) (an : Option Addr) (cdv ct : Value) (us its : List Value), us.length = 2 → its.length = 1 →
    ∃ k, bindArgs (PySem.W.fnOf "want_sum" "want_sum" (defArgs (topS 25)) (defBody (topS 25)) (defScope (topS 25)) (.ref T) kV doc pm an cdv ct) ⟨us, []⟩ = seqItems? (.ref T) >>= k ∧ k (some its.toArray) = pure (P_want_sum.zip (us ++ its.drop 0)) :=
  fun _ _ _ _ _ _ _ us its h1 h2 => match us, its, h1, h2 with | [_, _], [_], _, _ => ⟨_, rfl, rfl⟩
end DL
set_option Elab.async false
set_option linter.all false
set_option maxRecDepth 100000
open PySem PySem.W PyProof.Rows
set_option maxHeartbeats 0 in
theorem PySem.Challenge.cw_mendfew_k54_whole_nested_holds : PySem.Challenge.rw_mendfew_k54_whole_nested.Holds := by
  w_on; o_law; k_head; (case hw => w_witness2)
  k_fill
  refine DL.walk_ofG (l := PySem.Challenge.rw_mendfew_k54_whole_nested) (n := 63) (k := 10) (x := "_law_script") (sp := fun w => DL.spD _ DL.gLaw) rfl (by decide) rfl ⟨rfl, by decide, by decide⟩ (fun w h Y => PySem.W.kIn_of Y) ?F (fun _ _ a ns hl _ hS => DL.law_says hl hS)
  case F =>
    intro w mg fa h KX G hmg
    refine DL.law_end ?T DL.menu_all hmg
    case T =>
      constructor
      case b_len => (refine PySem.W.mg_none_of KX G ?_; k_is)
      case b_tuple => (refine PySem.W.mg_none_of KX G ?_; k_is)
      case b_list => (refine PySem.W.mg_none_of KX G ?_; k_is)
      case b_int => (refine PySem.W.mg_none_of KX G ?_; k_is)
      case b_bool => (refine PySem.W.mg_none_of KX G ?_; k_is)
      case b_range => (refine PySem.W.mg_none_of KX G ?_; k_is)
      case b_zip => (refine PySem.W.mg_none_of KX G ?_; k_is)
      case b_enumerate => (refine PySem.W.mg_none_of KX G ?_; k_is)
      case b_sum => (refine PySem.W.mg_none_of KX G ?_; k_is)
      case b_all => (refine PySem.W.mg_none_of KX G ?_; k_is)
      case b_any => (refine PySem.W.mg_none_of KX G ?_; k_is)
      case b_repr => (refine PySem.W.mg_none_of KX G ?_; k_is)
      case b_sorted => (refine PySem.W.mg_none_of KX G ?_; k_is)
      case b_set => (refine PySem.W.mg_none_of KX G ?_; k_is)
      case b_isinstance => (refine PySem.W.mg_none_of KX G ?_; k_is)
      case c_TOP => (refine' DL.int_at KX G ?e; (case e => k_is))
      case c_MOST => (refine' DL.int_at KX G ?e; (case e => k_is))
      case d_is_integer => (refine' DL.dfn_at KX G ?a ?l ?c ?k (fun _ _ _ _ _ _ us hl => match us, hl with | [_], _ => rfl); (case a => k_is); (case l => k_is); (case c => k_is); (case k => k_is))
      case d_is_number => (refine' DL.dfn_at KX G ?a ?l ?c ?k (fun _ _ _ _ _ _ us hl => match us, hl with | [_], _ => rfl); (case a => k_is); (case l => k_is); (case c => k_is); (case k => k_is))
      case d_is_prime => (refine' DL.dfn_at KX G ?a ?l ?c ?k (fun _ _ _ _ _ _ us hl => match us, hl with | [_], _ => rfl); (case a => k_is); (case l => k_is); (case c => k_is); (case k => k_is))
      case d_is_index => (refine' DL.dfn_at KX G ?a ?l ?c ?k (fun _ _ _ _ _ _ us hl => match us, hl with | [_, _], _ => rfl); (case a => k_is); (case l => k_is); (case c => k_is); (case k => k_is))
      case d_is_tuple_of => (refine' DL.dfn_at KX G ?a ?l ?c ?k (fun _ _ _ _ _ _ us hl => match us, hl with | [_, _], _ => rfl); (case a => k_is); (case l => k_is); (case c => k_is); (case k => k_is))
      case d_are_rests => (refine' DL.dfn_at KX G ?a ?l ?c ?k (fun _ _ _ _ _ _ us hl => match us, hl with | [_, _, _], _ => rfl); (case a => k_is); (case l => k_is); (case c => k_is); (case k => k_is))
      case d_is_sum_of => (refine' DL.dfn_at KX G ?a ?l ?c ?k (fun _ _ _ _ _ _ us hl => match us, hl with | [_, _, _], _ => rfl); (case a => k_is); (case l => k_is); (case c => k_is); (case k => k_is))
      case d_is_size => (refine' DL.dfn_at KX G ?a ?l ?c ?k (fun _ _ _ _ _ _ us hl => match us, hl with | [_], _ => rfl); (case a => k_is); (case l => k_is); (case c => k_is); (case k => k_is))
      case d_are_ascending => (refine' DL.dfn_at KX G ?a ?l ?c ?k (fun _ _ _ _ _ _ us hl => match us, hl with | [_], _ => rfl); (case a => k_is); (case l => k_is); (case c => k_is); (case k => k_is))
      case d_sums_fault => (refine' DL.dfn_at KX G ?a ?l ?c ?k (fun _ _ _ _ _ _ us hl => match us, hl with | [_, _, _], _ => rfl); (case a => k_is); (case l => k_is); (case c => k_is); (case k => k_is))
      case d_book_fault => (refine' DL.dfn_at KX G ?a ?l ?c ?k (fun _ _ _ _ _ _ us hl => match us, hl with | [_], _ => rfl); (case a => k_is); (case l => k_is); (case c => k_is); (case k => k_is))
      case d_is_lot_of => (refine' DL.dfn_at KX G ?a ?l ?c ?k (fun _ _ _ _ _ _ us hl => match us, hl with | [_, _], _ => rfl); (case a => k_is); (case l => k_is); (case c => k_is); (case k => k_is))
      case d_rest_of => (refine' DL.dfn_at KX G ?a ?l ?c ?k (fun _ _ _ _ _ _ us hl => match us, hl with | [_, _, _], _ => rfl); (case a => k_is); (case l => k_is); (case c => k_is); (case k => k_is))
      case d_want => (refine' DL.dfnD_at KX G ?a ?l ?c ?k ?t ?e (.cons ?v .nil) (List.cons_ne_nil _ _) 2 rfl DL.bd_want; (case a => k_is); (case l => k_is); (case c => k_is); (case k => k_is); (case t => k_is); (case e => rfl); (case v => first | exact ⟨_, rfl⟩ | rfl))
      case d_want_book => (refine' DL.dfnD_at KX G ?a ?l ?c ?k ?t ?e (.cons ?v .nil) (List.cons_ne_nil _ _) 1 rfl DL.bd_want_book; (case a => k_is); (case l => k_is); (case c => k_is); (case k => k_is); (case t => k_is); (case e => rfl); (case v => first | exact ⟨_, rfl⟩ | rfl))
      case d_want_lot => (refine' DL.dfnD_at KX G ?a ?l ?c ?k ?t ?e (.cons ?v .nil) (List.cons_ne_nil _ _) 2 rfl DL.bd_want_lot; (case a => k_is); (case l => k_is); (case c => k_is); (case k => k_is); (case t => k_is); (case e => rfl); (case v => first | exact ⟨_, rfl⟩ | rfl))
      case d_want_sum => (refine' DL.dfnD_at KX G ?a ?l ?c ?k ?t ?e (.cons ?v .nil) (List.cons_ne_nil _ _) 2 rfl DL.bd_want_sum; (case a => k_is); (case l => k_is); (case c => k_is); (case k => k_is); (case t => k_is); (case e => rfl); (case v => first | exact ⟨_, rfl⟩ | rfl))
      case d_is_from => (refine' DL.dfn_at KX G ?a ?l ?c ?k (fun _ _ _ _ _ _ us hl => match us, hl with | [_, _], _ => rfl); (case a => k_is); (case l => k_is); (case c => k_is); (case k => k_is))
      case d_want_prime => (refine' DL.dfn_at KX G ?a ?l ?c ?k (fun _ _ _ _ _ _ us hl => match us, hl with | [_], _ => rfl); (case a => k_is); (case l => k_is); (case c => k_is); (case k => k_is))
      case d_want_from => (refine' DL.dfn_at KX G ?a ?l ?c ?k (fun _ _ _ _ _ _ us hl => match us, hl with | [_, _, _], _ => rfl); (case a => k_is); (case l => k_is); (case c => k_is); (case k => k_is))
      case d_want_many => (refine' DL.dfn_at KX G ?a ?l ?c ?k (fun _ _ _ _ _ _ us hl => match us, hl with | [_, _, _], _ => rfl); (case a => k_is); (case l => k_is); (case c => k_is); (case k => k_is))
      case d_want_told => (refine' DL.dfn_at KX G ?a ?l ?c ?k (fun _ _ _ _ _ _ us hl => match us, hl with | [_, _], _ => rfl); (case a => k_is); (case l => k_is); (case c => k_is); (case k => k_is))
      case d_power_at => (refine' DL.dfn_at KX G ?a ?l ?c ?k (fun _ _ _ _ _ _ us hl => match us, hl with | [_, _, _], _ => rfl); (case a => k_is); (case l => k_is); (case c => k_is); (case k => k_is))
      case d_lessened_row => (refine' DL.dfn_at KX G ?a ?l ?c ?k (fun _ _ _ _ _ _ us hl => match us, hl with | [_, _, _, _], _ => rfl); (case a => k_is); (case l => k_is); (case c => k_is); (case k => k_is))
      case d_led_row => (refine' DL.dfn_at KX G ?a ?l ?c ?k (fun _ _ _ _ _ _ us hl => match us, hl with | [_, _, _], _ => rfl); (case a => k_is); (case l => k_is); (case c => k_is); (case k => k_is))
      case d_reduced_by => (refine' DL.dfn_at KX G ?a ?l ?c ?k (fun _ _ _ _ _ _ us hl => match us, hl with | [_, _, _], _ => rfl); (case a => k_is); (case l => k_is); (case c => k_is); (case k => k_is))
      case d_lead_of => (refine' DL.dfn_at KX G ?a ?l ?c ?k (fun _ _ _ _ _ _ us hl => match us, hl with | [_], _ => rfl); (case a => k_is); (case l => k_is); (case c => k_is); (case k => k_is))
      case d_kept_row => (refine' DL.dfn_at KX G ?a ?l ?c ?k (fun _ _ _ _ _ _ us hl => match us, hl with | [_, _, _, _, _], _ => rfl); (case a => k_is); (case l => k_is); (case c => k_is); (case k => k_is))
      case d_null_by => (refine' DL.dfn_at KX G ?a ?l ?c ?k (fun _ _ _ _ _ _ us hl => match us, hl with | [_, _, _], _ => rfl); (case a => k_is); (case l => k_is); (case c => k_is); (case k => k_is))
      case d_cut_rows => (refine' DL.dfn_at KX G ?a ?l ?c ?k (fun _ _ _ _ _ _ us hl => match us, hl with | [_, _], _ => rfl); (case a => k_is); (case l => k_is); (case c => k_is); (case k => k_is))
      case d_rank_by => (refine' DL.dfn_at KX G ?a ?l ?c ?k (fun _ _ _ _ _ _ us hl => match us, hl with | [_, _, _], _ => rfl); (case a => k_is); (case l => k_is); (case c => k_is); (case k => k_is))
      case d_words_in => (refine' DL.dfn_at KX G ?a ?l ?c ?k (fun _ _ _ _ _ _ us hl => match us, hl with | [_], _ => rfl); (case a => k_is); (case l => k_is); (case c => k_is); (case k => k_is))
      case d_told_in => (refine' DL.dfn_at KX G ?a ?l ?c ?k (fun _ _ _ _ _ _ us hl => match us, hl with | [_, _], _ => rfl); (case a => k_is); (case l => k_is); (case c => k_is); (case k => k_is))
      case d_keeps_in => (refine' DL.dfn_at KX G ?a ?l ?c ?k (fun _ _ _ _ _ _ us hl => match us, hl with | [_, _], _ => rfl); (case a => k_is); (case l => k_is); (case c => k_is); (case k => k_is))
      case d_book_of_words => (refine' DL.dfn_at KX G ?a ?l ?c ?k (fun _ _ _ _ _ _ us hl => match us, hl with | [_, _, _], _ => rfl); (case a => k_is); (case l => k_is); (case c => k_is); (case k => k_is))
      case d_prime_parts => (refine' DL.dfn_at KX G ?a ?l ?c ?k (fun _ _ _ _ _ _ us hl => match us, hl with | [_], _ => rfl); (case a => k_is); (case l => k_is); (case c => k_is); (case k => k_is))
      case d_primitive_by => (refine' DL.dfn_at KX G ?a ?l ?c ?k (fun _ _ _ _ _ _ us hl => match us, hl with | [_], _ => rfl); (case a => k_is); (case l => k_is); (case c => k_is); (case k => k_is))
      case d_numbers_by => (refine' DL.dfn_at KX G ?a ?l ?c ?k (fun _ _ _ _ _ _ us hl => match us, hl with | [_, _, _], _ => rfl); (case a => k_is); (case l => k_is); (case c => k_is); (case k => k_is))
      case d_power_rows => (refine' DL.dfn_at KX G ?a ?l ?c ?k (fun _ _ _ _ _ _ us hl => match us, hl with | [_, _, _], _ => rfl); (case a => k_is); (case l => k_is); (case c => k_is); (case k => k_is))
      case d_book_by_powers => (refine' DL.dfn_at KX G ?a ?l ?c ?k (fun _ _ _ _ _ _ us hl => match us, hl with | [_, _, _], _ => rfl); (case a => k_is); (case l => k_is); (case c => k_is); (case k => k_is))
      case d_classes_by => (refine' DL.dfn_at KX G ?a ?l ?c ?k (fun _ _ _ _ _ _ us hl => match us, hl with | [_, _], _ => rfl); (case a => k_is); (case l => k_is); (case c => k_is); (case k => k_is))
      case d_parted_classes => (refine' DL.dfn_at KX G ?a ?l ?c ?k (fun _ _ _ _ _ _ us hl => match us, hl with | [_, _, _], _ => rfl); (case a => k_is); (case l => k_is); (case c => k_is); (case k => k_is))
      case d_nested_exponents => (refine' DL.dfn_at KX G ?a ?l ?c ?k (fun _ _ _ _ _ _ us hl => match us, hl with | [_, _, _, _], _ => rfl); (case a => k_is); (case l => k_is); (case c => k_is); (case k => k_is))
      case d_want_nested => (refine' DL.dfn_at KX G ?a ?l ?c ?k (fun _ _ _ _ _ _ us hl => match us, hl with | [_, _], _ => rfl); (case a => k_is); (case l => k_is); (case c => k_is); (case k => k_is))
      case d_want_inner => (refine' DL.dfn_at KX G ?a ?l ?c ?k (fun _ _ _ _ _ _ us hl => match us, hl with | [_, _], _ => rfl); (case a => k_is); (case l => k_is); (case c => k_is); (case k => k_is))
      case d_nested_used => (refine' DL.dfn_at KX G ?a ?l ?c ?k (fun _ _ _ _ _ _ us hl => match us, hl with | [_, _, _, _], _ => rfl); (case a => k_is); (case l => k_is); (case c => k_is); (case k => k_is))
      case d_want_wide_classes => (refine' DL.dfn_at KX G ?a ?l ?c ?k (fun _ _ _ _ _ _ us hl => match us, hl with | [_, _, _], _ => rfl); (case a => k_is); (case l => k_is); (case c => k_is); (case k => k_is))
      case d_nested_groups => (refine' DL.dfn_at KX G ?a ?l ?c ?k (fun _ _ _ _ _ _ us hl => match us, hl with | [_, _, _, _], _ => rfl); (case a => k_is); (case l => k_is); (case c => k_is); (case k => k_is))
      case d_nested_book => (refine' DL.dfn_at KX G ?a ?l ?c ?k (fun _ _ _ _ _ _ us hl => match us, hl with | [_, _, _, _, _, _], _ => rfl); (case a => k_is); (case l => k_is); (case c => k_is); (case k => k_is))
      case d_told_signs => (refine' DL.dfn_at KX G ?a ?l ?c ?k (fun _ _ _ _ _ _ us hl => match us, hl with | [_], _ => rfl); (case a => k_is); (case l => k_is); (case c => k_is); (case k => k_is))
      case d_told_on => (refine' DL.dfn_at KX G ?a ?l ?c ?k (fun _ _ _ _ _ _ us hl => match us, hl with | [_, _], _ => rfl); (case a => k_is); (case l => k_is); (case c => k_is); (case k => k_is))
      case d_keeps => (refine' DL.dfn_at KX G ?a ?l ?c ?k (fun _ _ _ _ _ _ us hl => match us, hl with | [_, _], _ => rfl); (case a => k_is); (case l => k_is); (case c => k_is); (case k => k_is))
      case d_base_words => (refine' DL.dfn_at KX G ?a ?l ?c ?k (fun _ _ _ _ _ _ us hl => match us, hl with | [_], _ => rfl); (case a => k_is); (case l => k_is); (case c => k_is); (case k => k_is))
      case d_l_feed => (refine' DL.dfn_at KX G ?a ?l ?c ?k (fun _ _ _ _ _ _ us hl => match us, hl with | [_], _ => rfl); (case a => k_is); (case l => k_is); (case c => k_is); (case k => k_is))
      case d_l_draw => (refine' DL.dfn_at KX G ?a ?l ?c ?k (fun _ _ _ _ _ _ us hl => match us, hl with | [_, _], _ => rfl); (case a => k_is); (case l => k_is); (case c => k_is); (case k => k_is))
      case d_l_same => (refine' DL.dfn_at KX G ?a ?l ?c ?k (fun _ _ _ _ _ _ us hl => match us, hl with | [_, _], _ => rfl); (case a => k_is); (case l => k_is); (case c => k_is); (case k => k_is))
      case d_l_pick => (refine' DL.dfn_at KX G ?a ?l ?c ?k (fun _ _ _ _ _ _ us hl => match us, hl with | [_, _], _ => rfl); (case a => k_is); (case l => k_is); (case c => k_is); (case k => k_is))
      case d_l_inverse => (refine' DL.dfn_at KX G ?a ?l ?c ?k (fun _ _ _ _ _ _ us hl => match us, hl with | [_, _], _ => rfl); (case a => k_is); (case l => k_is); (case c => k_is); (case k => k_is))
      case d_l_cleared => (refine' DL.dfn_at KX G ?a ?l ?c ?k (fun _ _ _ _ _ _ us hl => match us, hl with | [_, _, _, _], _ => rfl); (case a => k_is); (case l => k_is); (case c => k_is); (case k => k_is))
      case d_l_stairs => (refine' DL.dfn_at KX G ?a ?l ?c ?k (fun _ _ _ _ _ _ us hl => match us, hl with | [_, _, _], _ => rfl); (case a => k_is); (case l => k_is); (case c => k_is); (case k => k_is))
      case d_l_across => (refine' DL.dfn_at KX G ?a ?l ?c ?k (fun _ _ _ _ _ _ us hl => match us, hl with | [_, _, _], _ => rfl); (case a => k_is); (case l => k_is); (case c => k_is); (case k => k_is))
      case d_l_power => (refine' DL.dfn_at KX G ?a ?l ?c ?k (fun _ _ _ _ _ _ us hl => match us, hl with | [_, _, _], _ => rfl); (case a => k_is); (case l => k_is); (case c => k_is); (case k => k_is))
      case d_l_primitive => (refine' DL.dfn_at KX G ?a ?l ?c ?k (fun _ _ _ _ _ _ us hl => match us, hl with | [_], _ => rfl); (case a => k_is); (case l => k_is); (case c => k_is); (case k => k_is))
      case d_l_numbers => (refine' DL.dfn_at KX G ?a ?l ?c ?k (fun _ _ _ _ _ _ us hl => match us, hl with | [_, _, _], _ => rfl); (case a => k_is); (case l => k_is); (case c => k_is); (case k => k_is))
      case d_l_worths => (refine' DL.dfn_at KX G ?a ?l ?c ?k (fun _ _ _ _ _ _ us hl => match us, hl with | [_, _, _], _ => rfl); (case a => k_is); (case l => k_is); (case c => k_is); (case k => k_is))
      case d_l_made => (refine' DL.dfn_at KX G ?a ?l ?c ?k (fun _ _ _ _ _ _ us hl => match us, hl with | [_, _, _], _ => rfl); (case a => k_is); (case l => k_is); (case c => k_is); (case k => k_is))
      case d_l_rank => (refine' DL.dfn_at KX G ?a ?l ?c ?k (fun _ _ _ _ _ _ us hl => match us, hl with | [_, _, _], _ => rfl); (case a => k_is); (case l => k_is); (case c => k_is); (case k => k_is))
      case d_l_blocs => (refine' DL.dfn_at KX G ?a ?l ?c ?k (fun _ _ _ _ _ _ us hl => match us, hl with | [_, _, _], _ => rfl); (case a => k_is); (case l => k_is); (case c => k_is); (case k => k_is))
      case d_l_is_told => (refine' DL.dfn_at KX G ?a ?l ?c ?k (fun _ _ _ _ _ _ us hl => match us, hl with | [_, _, _], _ => rfl); (case a => k_is); (case l => k_is); (case c => k_is); (case k => k_is))
      case d_law => (refine' DL.dfn_at KX G ?a ?l ?c ?k (fun _ _ _ _ _ _ us hl => match us, hl with | [_], _ => rfl); (case a => k_is); (case l => k_is); (case c => k_is); (case k => k_is))
