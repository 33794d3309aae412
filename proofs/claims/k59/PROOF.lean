import PyProof.Rows.All
import Wide.All
import OpenK.AllK
import Wide.FinOn
import HandS.ForMost
import HandS.ForExc
import HandS.Wide
import HandS.IsInst
import HandS.ExcIs
import HandS.Zip
import HandS.Rev
import HandS.Evl
import HandS.More
import HandS.Text
import HandS.EndBits
import HandS.Deep
import KE.KIndexOf
import KE.GoesZip
import KE.GoesMore
import HandS.Style
import KE.GoesEnum
import PyProof.StrOps2
import PyProof.FitsInt
import HandS.Codes
import HandS.TupAny
import KE.KDictZip
import HandS.CallSlots
import KE.DataFind
import HandS.Dict
import HandS.SuiteRaise
import HandS.HotCalls
import HandS.SetKeys
import HandS.SetFor
import PyProof.P3In
import HandS.Replace
import HandS.ReplaceLit
import HandS.ReplaceList
import HandS.RaiseMore
import PyProof.Rows.StrCase
import HandS.Hot
import PyProof.Rows.SumAny
import PySem.Challenge.RW_catchhall_k59_texts_refused
set_option Elab.async false
set_option linter.all false
set_option maxRecDepth 100000
set_option maxHeartbeats 4000000
set_option maxRecDepth 100000
/-! A layer of data over the readings: environments of plain data, expressions that evaluate to data, statements that lead to ends over data. -/
namespace Pu
open PySem PySem.Spec PyProof.Rows L2
abbrev D := PyData
abbrev Frag := PySem.W.Frag
/-! ### data in a heap -/
theorem sqt_mono {K : Frag} {H H' : Hp} {a : Addr} {xs : List V} (e : Same H H') (h : SqT K H a xs) : SqT K H' a xs := by
  rcases h with (h | ⟨o, h⟩) | h
  · exact .inl (.inl (e _ _ h))
  · exact .inl (.inr ⟨o, e _ _ h⟩)
  · exact .inr h
mutual
theorem dp_mono {K : Frag} {H H' : Hp} (e : Same H H') : ∀ (d : PyData) (v : V), Dp K H v d → Dp K H' v d
  | .none, _, h => by cases h; exact .non
  | .bool b, _, h => by cases h; exact .bl b
  | .int i, _, h => by cases h; exact .int i
  | .str x, _, h => by cases h; exact .str x
  | .list ds, _, h => by
    cases h with
    | lst hs ha => exact .lst (e.seq hs) (dpa_mono e ds _ ha)
  | .tuple ds, _, h => by
    cases h with
    | tup hs ha => exact .tup (sqt_mono e hs) (dpa_mono e ds _ ha)
  | .dict _, _, h => by cases h
theorem dpa_mono {K : Frag} {H H' : Hp} (e : Same H H') : ∀ (ds : List PyData) (vs : List V), DpAll K H vs ds → DpAll K H' vs ds
  | [], _, h => by cases h; exact .nil
  | d :: ds, _, h => by
    cases h with
    | cons h1 h2 => exact .cons (dp_mono e d _ h1) (dpa_mono e ds _ h2)
end
section
variable {K : Frag} {H : Hp}
theorem dpa_len : ∀ {vs : List V} {ds : List D}, DpAll K H vs ds → vs.length = ds.length
  | _, _, .nil => rfl
  | _, _, .cons _ t => congrArg (· + 1) (dpa_len t)
theorem dpa_get : ∀ {vs : List V} {ds : List D} {i : Nat} {d : D}, DpAll K H vs ds → ds[i]? = some d → ∃ v, vs[i]? = some v ∧ Dp K H v d
  | _, _, _, _, .nil, h => by simp at h
  | _, _, 0, _, .cons h _, e => by simp at e; subst e; exact ⟨_, rfl, h⟩
  | _, _, i + 1, d, .cons _ t, e => by
    obtain ⟨v, h1, h2⟩ := dpa_get (i := i) (d := d) t (by simpa using e)
    exact ⟨v, by simpa using h1, h2⟩
theorem dpa_append : ∀ {vs ws : List V} {ds es : List D}, DpAll K H vs ds → DpAll K H ws es → DpAll K H (vs ++ ws) (ds ++ es)
  | _, _, _, _, .nil, h => h
  | _, _, _, _, .cons a t, h => .cons a (dpa_append t h)
theorem dpa_take : ∀ {vs : List V} {ds : List D} (n : Nat), DpAll K H vs ds → DpAll K H (vs.take n) (ds.take n)
  | _, _, 0, _ => .nil
  | _, _, _ + 1, .nil => .nil
  | _, _, n + 1, .cons a t => .cons a (dpa_take n t)
theorem dpa_drop : ∀ {vs : List V} {ds : List D} (n : Nat), DpAll K H vs ds → DpAll K H (vs.drop n) (ds.drop n)
  | _, _, 0, h => h
  | _, _, _ + 1, .nil => .nil
  | _, _, n + 1, .cons _ t => dpa_drop n t
theorem dpa_snoc {vs : List V} {ds : List D} {v : V} {d : D} (h : DpAll K H vs ds) (q : Dp K H v d) : DpAll K H (vs ++ [v]) (ds ++ [d]) := dpa_append h (.cons q .nil)
theorem dpa_cut {vs : List V} {ds : List D} (h : DpAll K H vs ds) (lo hi : Option Int) : DpAll K H (cutV vs lo hi) ((ds.drop (HT.sIx ds.length 0 lo)).take (HT.sIx ds.length ds.length hi - HT.sIx ds.length 0 lo)) := by
  unfold cutV
  rw [dpa_len h]
  exact dpa_take _ (dpa_drop _ h)
theorem dpa_ints : ∀ {vs : List V} {ns : List Int}, DpAll K H vs (ns.map PyData.int) → vs = ns.map V.int
  | [], [], _ => rfl
  | _, [], h => by cases h; rfl
  | _, n :: ns, h => by
    cases h with
    | cons h1 h2 =>
      cases h1
      rw [dpa_ints h2]
      rfl
theorem dpa_of_ints : ∀ (ns : List Int), DpAll K H (ns.map V.int) (ns.map PyData.int)
  | [] => .nil
  | n :: ns => .cons (.int n) (dpa_of_ints ns)
theorem dpa_bools : ∀ {vs : List V} {ns : List Bool}, DpAll K H vs (ns.map PyData.bool) → vs = ns.map V.bl
  | [], [], _ => rfl
  | _, [], h => by cases h; rfl
  | _, n :: ns, h => by
    cases h with
    | cons h1 h2 =>
      cases h1
      rw [dpa_bools h2]
      rfl
end
/-! ### the growth of a state: R what data is read in, H the heap -/
structure Grow (R H R' H' : Hp) : Prop where
  rd : Same R R'
  hp : Same H H'
  sub : Same R' H'
  new : ∀ a, R a = none → R' a ≠ none → H a = none
theorem Grow.refl {R H : Hp} (h : Same R H) : Grow R H R H := ⟨Same.refl R, Same.refl H, h, fun a e n => absurd e n⟩
theorem Grow.trans {R H R1 H1 R2 H2 : Hp} (a : Grow R H R1 H1) (b : Grow R1 H1 R2 H2) : Grow R H R2 H2 := by
  refine ⟨a.rd.trans b.rd, a.hp.trans b.hp, b.sub, fun x e n => ?_⟩
  by_cases h : R1 x = none
  · exact a.hp.free (b.new x h n)
  · exact a.new x e h
theorem same_upd {H : Hp} {p : Addr} {o : HO} (h : H p = none) : Same H (upd H p o) := fun b x e => by
  rw [upd_ne (ne_of_none e h)]
  exact e
/-- a new object that is read -/
theorem Grow.alloc {R H : Hp} {p : Addr} {o : HO} (h : Same R H) (hp : H p = none) : Grow R H (upd R p o) (upd H p o) := by
  have rp : R p = none := h.free hp
  refine ⟨same_upd rp, same_upd hp, fun b x e => ?_, fun a e n => ?_⟩
  · by_cases hb : b = p
    · rw [hb, upd_same] at e ⊢
      exact e
    · rw [upd_ne hb] at e ⊢
      exact h b x e
  · by_cases hb : a = p
    · rw [hb]; exact hp
    · rw [upd_ne hb] at n
      exact absurd e n
/-- a new object that is not yet read -/
theorem Grow.hide {R H : Hp} {p : Addr} {o : HO} (h : Same R H) (hp : H p = none) : Grow R H R (upd H p o) := by
  refine ⟨Same.refl R, same_upd hp, fun b x e => ?_, fun a e n => absurd e n⟩
  rw [upd_ne (ne_of_none (h b x e) hp)]
  exact h b x e
/-- a hidden object comes to be read -/
theorem Grow.show_ {R H R' H' : Hp} {p : Addr} {o : HO} (g : Grow R H R' H') (hn : H p = none) (hp : H' p = some o) : Grow R H (upd R' p o) H' := by
  refine ⟨fun b x e => ?_, g.hp, fun b x e => ?_, fun a e n => ?_⟩
  · have q := g.rd b x e
    by_cases hb : b = p
    · subst hb
      rw [upd_same]
      have z := g.sub b x q
      rw [hp] at z
      exact z
    · rw [upd_ne hb]; exact q
  · by_cases hb : b = p
    · subst hb
      rw [upd_same] at e
      rw [hp]; exact e
    · rw [upd_ne hb] at e
      exact g.sub b x e
  · by_cases hb : a = p
    · rw [hb]; exact hn
    · rw [upd_ne hb] at n
      exact g.new a e n
/-! ### slots -/
inductive Sl where
  /-- nothing is known -/
  | un
  /-- data that stays -/
  | val (d : D)
  /-- a list of the def's own -/
  | own (ds : List D)
  /-- just this value -/
  | raw (v : V)
  /-- this value, and what holds of its own cells S -/
  | fact (v : V) (S : List Addr) (P : Hp → Hp → Prop)
abbrev En := List Sl
/-- no more than S is looked at of the heap -/
def Stay (S : List Addr) (P : Hp → Hp → Prop) : Prop := ∀ R H R' H', Same R R' → (∀ a ∈ S, ∀ o, H a = some o → H' a = some o) → P R H → P R' H'
/-- the slots with facts -/
structure Facts (H0 R : Hp) (ρ : En) (σ : L2.St) (H : Hp) : Prop where
  at_ : ∀ (i : Nat) (v : V) (S : List Addr) (P : Hp → Hp → Prop), ρ[i]? = some (.fact v S P) → σ[i]? = some (some v) ∧ Stay S P ∧ P R H ∧ ∀ a ∈ S, H a ≠ none ∧ R a = none ∧ H0 a = none
  off : ∀ (i j : Nat) (v : V) (S : List Addr) (P : Hp → Hp → Prop) (ds : List D) (p : Addr), ρ[i]? = some (.fact v S P) → ρ[j]? = some (.own ds) → σ[j]? = some (some (.ref p)) → p ∉ S
  two : ∀ (i j : Nat) (v w : V) (S T : List Addr) (P Q : Hp → Hp → Prop), i ≠ j → ρ[i]? = some (.fact v S P) → ρ[j]? = some (.fact w T Q) → ∀ a ∈ S, a ∉ T
section
variable {H0 R H R' H' : Hp} {ρ ρ' : En} {σ σ' : L2.St}
theorem Facts.grow (f : Facts H0 R ρ σ H) (g : Grow R H R' H') : Facts H0 R' ρ σ H' := ⟨fun i v S P e => by
    obtain ⟨h1, h2, h3, h4⟩ := f.at_ i v S P e
    refine ⟨h1, h2, h2 R H R' H' g.rd (fun a _ o q => g.hp a o q) h3, fun a ha => ?_⟩
    obtain ⟨g1, g2, g3⟩ := h4 a ha
    refine ⟨fun z => ?_, ?_, g3⟩
    · cases q : H a with
      | none => exact g1 q
      | some o => rw [g.hp a o q] at z; cases z
    · cases q : R' a with
      | none => rfl
      | some o => exact absurd (g.new a g2 (by rw [q]; exact fun z => nomatch z)) g1, f.off, f.two⟩
/-- fewer facts, fewer own lists -/
theorem Facts.sub (f : Facts H0 R ρ σ H) (h1 : ∀ (j : Nat) (v : V) (S : List Addr) (P : Hp → Hp → Prop), ρ'[j]? = some (.fact v S P) → ρ[j]? = some (.fact v S P) ∧ σ'[j]? = σ[j]?) (h2 : ∀ (j : Nat) (ds : List D), ρ'[j]? = some (.own ds) → (∃ es, ρ[j]? = some (.own es)) ∧ σ'[j]? = σ[j]?) : Facts H0 R ρ' σ' H := ⟨fun i v S P e => by
    obtain ⟨a, b⟩ := h1 i v S P e
    rw [b]
    exact f.at_ i v S P a, fun i j v S P ds p e1 e2 e3 => by
    obtain ⟨a, b⟩ := h1 i v S P e1
    obtain ⟨⟨es, c⟩, d⟩ := h2 j ds e2
    rw [d] at e3
    exact f.off i j v S P es p a c e3, fun i j v w S T P Q n e1 e2 => f.two i j v w S T P Q n (h1 i v S P e1).1 (h1 j w T Q e2).1⟩
theorem Facts.setv (f : Facts H0 R ρ σ H) {i : Nat} {s : Sl} {v : Option V} (hs : ∀ v S P, s ≠ .fact v S P) (ho : ∀ ds, s ≠ .own ds) : Facts H0 R (ρ.set i s) (σ.set i v) H := f.sub (fun j v S P e => by
    by_cases hj : i = j
    · subst hj
      have hl : i < ρ.length := by have := (List.getElem?_eq_some_iff.mp e).1; rwa [List.length_set] at this
      rw [List.getElem?_set_self hl] at e
      exact absurd (Option.some.inj e) (hs v S P)
    · rw [List.getElem?_set_ne hj] at e
      exact ⟨e, List.getElem?_set_ne hj⟩) (fun j ds e => by
    by_cases hj : i = j
    · subst hj
      have hl : i < ρ.length := by have := (List.getElem?_eq_some_iff.mp e).1; rwa [List.length_set] at this
      rw [List.getElem?_set_self hl] at e
      exact absurd (Option.some.inj e) (ho ds)
    · rw [List.getElem?_set_ne hj] at e
      exact ⟨⟨ds, e⟩, List.getElem?_set_ne hj⟩)
theorem Facts.none_ (h : ∀ (j : Nat) (v : V) (S : List Addr) (P : Hp → Hp → Prop), ρ[j]? ≠ some (.fact v S P)) : Facts H0 R ρ σ H := ⟨fun i v S P e => absurd e (h i v S P), fun i j v S P ds p e => absurd e (h i v S P), fun i j v w S T P Q n e => absurd e (h i v S P)⟩
end
/-- the state: R0, H0 at the entry -/
structure At (K : Frag) (R0 H0 R : Hp) (ρ : En) (σ : L2.St) (H : Hp) : Prop where
  gr : Grow R0 H0 R H
  len : σ.length = ρ.length
  val : ∀ (i : Nat) (d : D), ρ[i]? = some (.val d) → ∃ v, σ[i]? = some (some v) ∧ Dp K R v d
  own : ∀ (i : Nat) (ds : List D), ρ[i]? = some (.own ds) → ∃ p vs, σ[i]? = some (some (.ref p)) ∧ H p = some (.lst vs) ∧ DpAll K R vs ds ∧ R p = none ∧ H0 p = none
  raw : ∀ (i : Nat) (v : V), ρ[i]? = some (.raw v) → σ[i]? = some (some v)
  apart : ∀ (i j : Nat) (p : Addr) (ds es : List D), i ≠ j → ρ[i]? = some (.own ds) → ρ[j]? = some (.own es) → σ[i]? = some (some (.ref p)) → σ[j]? ≠ some (some (.ref p))
  fa : Facts H0 R ρ σ H
section
variable {K : Frag} {R0 H0 R H R' H' : Hp} {ρ : En} {σ : L2.St}
theorem At.grow (a : At K R0 H0 R ρ σ H) (g : Grow R H R' H') : At K R0 H0 R' ρ σ H' where
  gr := a.gr.trans g
  len := a.len
  val := fun i d e => by
    obtain ⟨v, h1, h2⟩ := a.val i d e
    exact ⟨v, h1, dp_mono g.rd _ _ h2⟩
  own := fun i ds e => by
    obtain ⟨p, vs, h1, h2, h3, h4, h5⟩ := a.own i ds e
    refine ⟨p, vs, h1, g.hp _ _ h2, dpa_mono g.rd _ _ h3, ?_, h5⟩
    cases q : R' p with
    | none => rfl
    | some o =>
      have z := g.new p h4 (by rw [q]; exact fun z => nomatch z)
      rw [h2] at z
      cases z
  raw := a.raw
  apart := a.apart
  fa := a.fa.grow g
/-- a slot is stored: data -/
theorem At.set (a : At K R0 H0 R ρ σ H) {i : Nat} {v : V} {d : D} (h : Dp K R v d) : At K R0 H0 R (ρ.set i (.val d)) (σ.set i (some v)) H where
  gr := a.gr
  len := by rw [List.length_set, List.length_set, a.len]
  val := fun j e q => by
    by_cases hj : i = j
    · subst hj
      by_cases hl : i < ρ.length
      · rw [List.getElem?_set_self hl] at q
        cases q
        exact ⟨v, List.getElem?_set_self (by rw [a.len]; exact hl), h⟩
      · rw [List.getElem?_eq_none (by rw [List.length_set]; omega)] at q
        cases q
    · rw [List.getElem?_set_ne hj] at q
      obtain ⟨u, h1, h2⟩ := a.val j e q
      exact ⟨u, by rw [List.getElem?_set_ne hj]; exact h1, h2⟩
  own := fun j ds q => by
    by_cases hj : i = j
    · subst hj
      by_cases hl : i < ρ.length
      · rw [List.getElem?_set_self hl] at q
        cases q
      · rw [List.getElem?_eq_none (by rw [List.length_set]; omega)] at q
        cases q
    · rw [List.getElem?_set_ne hj] at q
      obtain ⟨p, vs, h1, h2⟩ := a.own j ds q
      exact ⟨p, vs, by rw [List.getElem?_set_ne hj]; exact h1, h2⟩
  raw := fun j e q => by
    by_cases hj : i = j
    · subst hj
      by_cases hl : i < ρ.length
      · rw [List.getElem?_set_self hl] at q
        cases q
      · rw [List.getElem?_eq_none (by rw [List.length_set]; omega)] at q
        cases q
    · rw [List.getElem?_set_ne hj] at q ⊢
      exact a.raw j e q
  apart := fun j k p ds es hjk q1 q2 => by
    have n1 : i ≠ j := fun e => by
      subst e
      by_cases hl : i < ρ.length
      · rw [List.getElem?_set_self hl] at q1; cases q1
      · rw [List.getElem?_eq_none (by rw [List.length_set]; omega)] at q1; cases q1
    have n2 : i ≠ k := fun e => by
      subst e
      by_cases hl : i < ρ.length
      · rw [List.getElem?_set_self hl] at q2; cases q2
      · rw [List.getElem?_eq_none (by rw [List.length_set]; omega)] at q2; cases q2
    rw [List.getElem?_set_ne n1] at q1
    rw [List.getElem?_set_ne n2] at q2
    rw [List.getElem?_set_ne n1, List.getElem?_set_ne n2]
    exact a.apart j k p ds es hjk q1 q2
  fa := a.fa.setv (fun _ _ _ z => nomatch z) (fun _ z => nomatch z)
/-- a slot is stored of which nothing is to be known -/
theorem At.set_un (a : At K R0 H0 R ρ σ H) {i : Nat} {v : Option V} : At K R0 H0 R (ρ.set i .un) (σ.set i v) H where
  gr := a.gr
  len := by rw [List.length_set, List.length_set, a.len]
  val := fun j e q => by
    by_cases hj : i = j
    · subst hj
      by_cases hl : i < ρ.length
      · rw [List.getElem?_set_self hl] at q
        cases q
      · rw [List.getElem?_eq_none (by rw [List.length_set]; omega)] at q
        cases q
    · rw [List.getElem?_set_ne hj] at q
      obtain ⟨u, h1, h2⟩ := a.val j e q
      exact ⟨u, by rw [List.getElem?_set_ne hj]; exact h1, h2⟩
  own := fun j ds q => by
    by_cases hj : i = j
    · subst hj
      by_cases hl : i < ρ.length
      · rw [List.getElem?_set_self hl] at q
        cases q
      · rw [List.getElem?_eq_none (by rw [List.length_set]; omega)] at q
        cases q
    · rw [List.getElem?_set_ne hj] at q
      obtain ⟨p, vs, h1, h2⟩ := a.own j ds q
      exact ⟨p, vs, by rw [List.getElem?_set_ne hj]; exact h1, h2⟩
  raw := fun j e q => by
    by_cases hj : i = j
    · subst hj
      by_cases hl : i < ρ.length
      · rw [List.getElem?_set_self hl] at q
        cases q
      · rw [List.getElem?_eq_none (by rw [List.length_set]; omega)] at q
        cases q
    · rw [List.getElem?_set_ne hj] at q ⊢
      exact a.raw j e q
  apart := fun j k p ds es hjk q1 q2 => by
    have n1 : i ≠ j := fun e => by
      subst e
      by_cases hl : i < ρ.length
      · rw [List.getElem?_set_self hl] at q1; cases q1
      · rw [List.getElem?_eq_none (by rw [List.length_set]; omega)] at q1; cases q1
    have n2 : i ≠ k := fun e => by
      subst e
      by_cases hl : i < ρ.length
      · rw [List.getElem?_set_self hl] at q2; cases q2
      · rw [List.getElem?_eq_none (by rw [List.length_set]; omega)] at q2; cases q2
    rw [List.getElem?_set_ne n1] at q1
    rw [List.getElem?_set_ne n2] at q2
    rw [List.getElem?_set_ne n1, List.getElem?_set_ne n2]
    exact a.apart j k p ds es hjk q1 q2
  fa := a.fa.setv (fun _ _ _ z => nomatch z) (fun _ z => nomatch z)
/-- a slot is stored: a bare value -/
theorem At.set_raw (a : At K R0 H0 R ρ σ H) {i : Nat} {v : V} : At K R0 H0 R (ρ.set i (.raw v)) (σ.set i (some v)) H where
  gr := a.gr
  len := by rw [List.length_set, List.length_set, a.len]
  val := fun j e q => by
    by_cases hj : i = j
    · subst hj
      by_cases hl : i < ρ.length
      · rw [List.getElem?_set_self hl] at q
        cases q
      · rw [List.getElem?_eq_none (by rw [List.length_set]; omega)] at q
        cases q
    · rw [List.getElem?_set_ne hj] at q
      obtain ⟨u, h1, h2⟩ := a.val j e q
      exact ⟨u, by rw [List.getElem?_set_ne hj]; exact h1, h2⟩
  own := fun j ds q => by
    by_cases hj : i = j
    · subst hj
      by_cases hl : i < ρ.length
      · rw [List.getElem?_set_self hl] at q
        cases q
      · rw [List.getElem?_eq_none (by rw [List.length_set]; omega)] at q
        cases q
    · rw [List.getElem?_set_ne hj] at q
      obtain ⟨p, vs, h1, h2⟩ := a.own j ds q
      exact ⟨p, vs, by rw [List.getElem?_set_ne hj]; exact h1, h2⟩
  raw := fun j e q => by
    by_cases hj : i = j
    · subst hj
      by_cases hl : i < ρ.length
      · rw [List.getElem?_set_self hl] at q
        cases q
        exact List.getElem?_set_self (by rw [a.len]; exact hl)
      · rw [List.getElem?_eq_none (by rw [List.length_set]; omega)] at q
        cases q
    · rw [List.getElem?_set_ne hj] at q ⊢
      exact a.raw j e q
  apart := fun j k p ds es hjk q1 q2 => by
    have n1 : i ≠ j := fun e => by
      subst e
      by_cases hl : i < ρ.length
      · rw [List.getElem?_set_self hl] at q1; cases q1
      · rw [List.getElem?_eq_none (by rw [List.length_set]; omega)] at q1; cases q1
    have n2 : i ≠ k := fun e => by
      subst e
      by_cases hl : i < ρ.length
      · rw [List.getElem?_set_self hl] at q2; cases q2
      · rw [List.getElem?_eq_none (by rw [List.length_set]; omega)] at q2; cases q2
    rw [List.getElem?_set_ne n1] at q1
    rw [List.getElem?_set_ne n2] at q2
    rw [List.getElem?_set_ne n1, List.getElem?_set_ne n2]
    exact a.apart j k p ds es hjk q1 q2
  fa := a.fa.setv (fun _ _ _ z => nomatch z) (fun _ z => nomatch z)
/-- a slot is stored: a new list of one's own -/
theorem At.set_own (a : At K R0 H0 R ρ σ H) {i : Nat} {p : Addr} {vs : List V} {ds : List D} (hp : H p = some (.lst vs)) (h : DpAll K R vs ds) (rp : R p = none) (h0 : H0 p = none)
    (np : ∀ (j : Nat) (es : List D), i ≠ j → ρ[j]? = some (.own es) → σ[j]? ≠ some (some (.ref p))) (nf : ∀ (j : Nat) (v : V) (S : List Addr) (P : Hp → Hp → Prop), ρ[j]? = some (.fact v S P) → p ∉ S) : At K R0 H0 R (ρ.set i (.own ds)) (σ.set i (some (.ref p))) H where
  gr := a.gr
  len := by rw [List.length_set, List.length_set, a.len]
  val := fun j e q => by
    by_cases hj : i = j
    · subst hj
      by_cases hl : i < ρ.length
      · rw [List.getElem?_set_self hl] at q
        cases q
      · rw [List.getElem?_eq_none (by rw [List.length_set]; omega)] at q
        cases q
    · rw [List.getElem?_set_ne hj] at q
      obtain ⟨u, h1, h2⟩ := a.val j e q
      exact ⟨u, by rw [List.getElem?_set_ne hj]; exact h1, h2⟩
  own := fun j es q => by
    by_cases hj : i = j
    · subst hj
      by_cases hl : i < ρ.length
      · rw [List.getElem?_set_self hl] at q
        cases q
        exact ⟨p, vs, List.getElem?_set_self (by rw [a.len]; exact hl), hp, h, rp, h0⟩
      · rw [List.getElem?_eq_none (by rw [List.length_set]; omega)] at q
        cases q
    · rw [List.getElem?_set_ne hj] at q
      obtain ⟨p, vs, h1, h2⟩ := a.own j es q
      exact ⟨p, vs, by rw [List.getElem?_set_ne hj]; exact h1, h2⟩
  raw := fun j e q => by
    by_cases hj : i = j
    · subst hj
      by_cases hl : i < ρ.length
      · rw [List.getElem?_set_self hl] at q
        cases q
      · rw [List.getElem?_eq_none (by rw [List.length_set]; omega)] at q
        cases q
    · rw [List.getElem?_set_ne hj] at q ⊢
      exact a.raw j e q
  apart := fun j k b es fs hjk q1 q2 s1 => by
    by_cases hj : i = j
    · subst hj
      have hk : i ≠ k := hjk
      rw [List.getElem?_set_ne hk] at q2
      rw [List.getElem?_set_ne hk]
      by_cases hl : i < σ.length
      · rw [List.getElem?_set_self hl] at s1
        cases s1
        exact np k fs hk q2
      · rw [List.getElem?_eq_none (by rw [List.length_set]; omega)] at s1
        cases s1
    · rw [List.getElem?_set_ne hj] at q1 s1
      by_cases hk : i = k
      · subst hk
        intro z
        by_cases hl : i < σ.length
        · rw [List.getElem?_set_self hl] at z
          cases z
          exact np j es hj q1 s1
        · rw [List.getElem?_eq_none (by rw [List.length_set]; omega)] at z
          cases z
      · rw [List.getElem?_set_ne hk] at q2
        rw [List.getElem?_set_ne hk]
        exact a.apart j k b es fs hjk q1 q2 s1
  fa := ⟨fun j v S P e => by
    by_cases hj : i = j
    · subst hj
      have hl : i < ρ.length := by have := (List.getElem?_eq_some_iff.mp e).1; rwa [List.length_set] at this
      rw [List.getElem?_set_self hl] at e
      cases e
    · rw [List.getElem?_set_ne hj] at e
      rw [List.getElem?_set_ne hj]
      exact a.fa.at_ j v S P e, fun j k v S P es b e1 e2 e3 => by
    have hj : i ≠ j := fun hj => by
      subst hj
      have hl : i < ρ.length := by have := (List.getElem?_eq_some_iff.mp e1).1; rwa [List.length_set] at this
      rw [List.getElem?_set_self hl] at e1
      cases e1
    rw [List.getElem?_set_ne hj] at e1
    by_cases hk : i = k
    · subst hk
      have hl : i < ρ.length := by have := (List.getElem?_eq_some_iff.mp e2).1; rwa [List.length_set] at this
      rw [List.getElem?_set_self (by rw [a.len]; exact hl)] at e3
      cases e3
      exact nf j v S P e1
    · rw [List.getElem?_set_ne hk] at e2 e3
      exact a.fa.off j k v S P es b e1 e2 e3, fun j k v w S T P Q n e1 e2 => by
    have nj : ∀ {j : Nat} {v : V} {S : List Addr} {P : Hp → Hp → Prop}, (ρ.set i (.own ds))[j]? = some (.fact v S P) → ρ[j]? = some (.fact v S P) := fun {j v S P} e => by
      by_cases hj : i = j
      · subst hj
        have hl : i < ρ.length := by have := (List.getElem?_eq_some_iff.mp e).1; rwa [List.length_set] at this
        rw [List.getElem?_set_self hl] at e
        cases e
      · rwa [List.getElem?_set_ne hj] at e
    exact a.fa.two j k v w S T P Q n (nj e1) (nj e2)⟩
/-- an own list changes -/
theorem At.put (a : At K R0 H0 R ρ σ H) {i : Nat} {p : Addr} {ds ds' : List D} {vs' : List V} (e : ρ[i]? = some (.own ds)) (s : σ[i]? = some (some (.ref p))) (h : DpAll K R vs' ds') : At K R0 H0 R (ρ.set i (.own ds')) σ (upd H p (.lst vs')) := by
  obtain ⟨p', vs, h1, h2, h3, h4, h5⟩ := a.own i ds e
  rw [s] at h1
  cases h1
  have hl : i < ρ.length := (List.getElem?_eq_some_iff.mp e).1
  have nj : ∀ {j : Nat} {v : V} {S : List Addr} {P : Hp → Hp → Prop}, (ρ.set i (.own ds'))[j]? = some (.fact v S P) → ρ[j]? = some (.fact v S P) := fun {j v S P} e => by
    by_cases hj : i = j
    · subst hj
      rw [List.getElem?_set_self hl] at e
      cases e
    · rwa [List.getElem?_set_ne hj] at e
  have fa' : Facts H0 R (ρ.set i (.own ds')) σ (upd H p (.lst vs')) := ⟨fun j v S P q => by
    have q' := nj q
    obtain ⟨g1, g2, g3, g4⟩ := a.fa.at_ j v S P q'
    have np := a.fa.off j i v S P ds p q' e s
    have ne : ∀ b ∈ S, b ≠ p := fun b hb z => np (z ▸ hb)
    refine ⟨g1, g2, g2 R H R _ (Same.refl R) (fun b hb o z => by rw [upd_ne (ne b hb)]; exact z) g3, fun b hb => ?_⟩
    rw [upd_ne (ne b hb)]
    exact g4 b hb, fun j k v S P es b e1 e2 e3 => by
    by_cases hk : i = k
    · subst hk
      exact a.fa.off j i v S P ds b (nj e1) e e3
    · rw [List.getElem?_set_ne hk] at e2
      exact a.fa.off j k v S P es b (nj e1) e2 e3, fun j k v w S T P Q n e1 e2 => a.fa.two j k v w S T P Q n (nj e1) (nj e2)⟩
  refine ⟨⟨a.gr.rd, fun b o q => ?_, fun b o q => ?_, a.gr.new⟩, by rw [List.length_set]; exact a.len, fun j d q => ?_, fun j es q => ?_, fun j v q => ?_, fun j k b es fs hjk q1 q2 s1 => ?_, fa'⟩
  · rw [upd_ne (ne_of_none q h5)]; exact a.gr.hp _ _ q
  · rw [upd_ne (ne_of_none q h4)]; exact a.gr.sub _ _ q
  · have hj : i ≠ j := fun z => by
      subst z
      rw [List.getElem?_set_self hl] at q
      cases q
    rw [List.getElem?_set_ne hj] at q
    exact a.val j d q
  · by_cases hj : i = j
    · subst hj
      rw [List.getElem?_set_self hl] at q
      cases q
      exact ⟨p, vs', s, upd_same, h, h4, h5⟩
    · rw [List.getElem?_set_ne hj] at q
      obtain ⟨p2, vs2, g1, g2, g3, g4, g5⟩ := a.own j es q
      have np : p2 ≠ p := fun z => a.apart i j p ds es hj e q s (by rw [← z]; exact g1)
      exact ⟨p2, vs2, g1, by rw [upd_ne np]; exact g2, g3, g4, g5⟩
  · have hj : i ≠ j := fun z => by
      subst z
      rw [List.getElem?_set_self hl] at q
      cases q
    rw [List.getElem?_set_ne hj] at q
    exact a.raw j v q
  · by_cases hj : i = j
    · subst hj
      rw [List.getElem?_set_ne hjk] at q2
      exact a.apart i k b ds fs hjk e q2 s1
    · rw [List.getElem?_set_ne hj] at q1
      by_cases hk : i = k
      · subst hk
        exact a.apart j i b es ds hjk q1 e s1
      · rw [List.getElem?_set_ne hk] at q2
        exact a.apart j k b es fs hjk q1 q2 s1
theorem Facts.freeze {H0 R H : Hp} {ρ : En} {σ : L2.St} (f : Facts H0 R ρ σ H) {i : Nat} {p : Addr} {ds : List D} {vs : List V} {d : D} (e : ρ[i]? = some (.own ds)) (s : σ[i]? = some (some (.ref p))) (h4 : R p = none) : Facts H0 (upd R p (.lst vs)) (ρ.set i (.val d)) σ H := by
  have hl : i < ρ.length := (List.getElem?_eq_some_iff.mp e).1
  have nj : ∀ {j : Nat} {v : V} {S : List Addr} {P : Hp → Hp → Prop}, (ρ.set i (.val d))[j]? = some (.fact v S P) → ρ[j]? = some (.fact v S P) := fun {j v S P} e => by
    by_cases hj : i = j
    · subst hj
      rw [List.getElem?_set_self hl] at e
      cases e
    · rwa [List.getElem?_set_ne hj] at e
  refine ⟨fun j v S P q => ?_, fun j k v S P es b e1 e2 e3 => ?_, fun j k v w S T P Q n e1 e2 => f.two j k v w S T P Q n (nj e1) (nj e2)⟩
  · have q' := nj q
    obtain ⟨g1, g2, g3, g4⟩ := f.at_ j v S P q'
    have np := f.off j i v S P ds p q' e s
    have ne : ∀ b ∈ S, b ≠ p := fun b hb z => np (z ▸ hb)
    refine ⟨g1, g2, g2 R H _ H (same_upd h4) (fun b hb o z => z) g3, fun b hb => ?_⟩
    rw [upd_ne (ne b hb)]
    exact g4 b hb
  · have hk : i ≠ k := fun hk => by
      subst hk
      rw [List.getElem?_set_self hl] at e2
      cases e2
    rw [List.getElem?_set_ne hk] at e2
    exact f.off j k v S P es b (nj e1) e2 e3
/-- an own list is given up: from now on it stays -/
theorem At.freeze (a : At K R0 H0 R ρ σ H) {i : Nat} {ds : List D} (e : ρ[i]? = some (.own ds)) : ∃ R', Same R R' ∧ At K R0 H0 R' (ρ.set i (.val (.list ds))) σ H := by
  obtain ⟨p, vs, h1, h2, h3, h4, h5⟩ := a.own i ds e
  have hl : i < ρ.length := (List.getElem?_eq_some_iff.mp e).1
  have rr : Same R (upd R p (.lst vs)) := same_upd h4
  refine ⟨upd R p (.lst vs), rr, a.gr.show_ h5 h2, by rw [List.length_set]; exact a.len, fun j d q => ?_, fun j es q => ?_, fun j v q => ?_, fun j k b es fs hjk q1 q2 s1 => ?_, a.fa.freeze e h1 h4⟩
  · by_cases hj : i = j
    · subst hj
      rw [List.getElem?_set_self hl] at q
      cases q
      exact ⟨_, h1, .lst (SqL.of upd_same) (dpa_mono rr _ _ h3)⟩
    · rw [List.getElem?_set_ne hj] at q
      obtain ⟨v, g1, g2⟩ := a.val j d q
      exact ⟨v, g1, dp_mono rr _ _ g2⟩
  · have hj : i ≠ j := fun z => by
      subst z
      rw [List.getElem?_set_self hl] at q
      cases q
    rw [List.getElem?_set_ne hj] at q
    obtain ⟨p2, vs2, g1, g2, g3, g4, g5⟩ := a.own j es q
    have np : p2 ≠ p := fun z => a.apart i j p ds es hj e q h1 (by rw [← z]; exact g1)
    exact ⟨p2, vs2, g1, g2, dpa_mono rr _ _ g3, by rw [upd_ne np]; exact g4, g5⟩
  · have hj : i ≠ j := fun z => by
      subst z
      rw [List.getElem?_set_self hl] at q
      cases q
    rw [List.getElem?_set_ne hj] at q
    exact a.raw j v q
  · have n1 : i ≠ j := fun z => by
      subst z
      rw [List.getElem?_set_self hl] at q1; cases q1
    have n2 : i ≠ k := fun z => by
      subst z
      rw [List.getElem?_set_self hl] at q2; cases q2
    rw [List.getElem?_set_ne n1] at q1
    rw [List.getElem?_set_ne n2] at q2
    exact a.apart j k b es fs hjk q1 q2 s1
/-- the entry moved on to a later one -/
theorem At.later (a : At K R0 H0 R ρ σ H) {R1 H1 : Hp} (g : Grow R0 H0 R1 H1) (e : Same R1 R) : At K R1 H0 R ρ σ H where
  gr := ⟨e, a.gr.hp, a.gr.sub, fun x h n => by
    by_cases q : R0 x = none
    · exact a.gr.new x q n
    · cases q' : R0 x with
      | none => exact absurd q' q
      | some o =>
        rw [g.rd x o q'] at h
        cases h⟩
  len := a.len
  val := a.val
  own := a.own
  raw := a.raw
  apart := a.apart
  fa := a.fa
theorem At.back (a : At K R' H0 R ρ σ H) {H1 : Hp} (g : Grow R0 H0 R' H1) : At K R0 H0 R ρ σ H where
  gr := ⟨g.rd.trans a.gr.rd, a.gr.hp, a.gr.sub, fun x h n => by
    by_cases q : R' x = none
    · exact a.gr.new x q n
    · exact g.new x h q⟩
  len := a.len
  val := a.val
  own := a.own
  raw := a.raw
  apart := a.apart
  fa := a.fa
end
end Pu
set_option maxRecDepth 100000
namespace Pu
open PySem PySem.Spec PyProof.Rows L2
/-! ### what evaluates to what -/
/-- to data that stays -/
def Ev (K : Frag) (te : TE) (ρ : En) (d : D) : Prop := ∀ R0 H0 R σ H, At K R0 H0 R ρ σ H → ∀ Q : VK, (∀ v R' H', Grow R H R' H' → Dp K R' v d → Q v H') → te σ H Q
/-- to a list that is to be read at once -/
def EvL (K : Frag) (te : TE) (ρ : En) (ds : List D) : Prop := ∀ R0 H0 R σ H, At K R0 H0 R ρ σ H → ∀ Q : VK, (∀ p vs R' H', Grow R H R' H' → SqL K H' p vs → DpAll K R' vs ds → Q (.ref p) H') → te σ H Q
/-- to a new list -/
def EvF (K : Frag) (te : TE) (ρ : En) (ds : List D) : Prop := ∀ R0 H0 R σ H, At K R0 H0 R ρ σ H → ∀ Q : VK, (∀ p vs R' H', Grow R H R' H' → H p = none → R' p = none → H' p = some (.lst vs) → DpAll K R' vs ds → Q (.ref p) H') → te σ H Q
def EvA (K : Frag) (ta : TA) (ρ : En) (ds : List D) : Prop := ∀ R0 H0 R σ H, At K R0 H0 R ρ σ H → ∀ Q : List V → Hp → Prop, (∀ vs R' H', Grow R H R' H' → DpAll K R' vs ds → Q vs H') → ta σ H Q
def EvT (K : Frag) (tt : TT) (ρ : En) (b : Bool) : Prop := ∀ R0 H0 R σ H, At K R0 H0 R ρ σ H → ∀ Q : Bool → Hp → Prop, (∀ R' H', Grow R H R' H' → Q b H') → tt σ H Q
def EvO (K : Frag) (to : TO) (ρ : En) (o : Option Int) : Prop := ∀ R0 H0 R σ H, At K R0 H0 R ρ σ H → ∀ Q : Option Int → Hp → Prop, (∀ R' H', Grow R H R' H' → Q o H') → to σ H Q
/-- lets an exception out -/
def EvX (K : Frag) (W : WX) (te : TE) (ρ : En) (c : Value) : Prop := ∀ R0 H0 R σ H, At K R0 H0 R ρ σ H → ∀ Q : VK, (∀ R' H', At K R0 H0 R' ρ σ H' → W c none σ H') → te σ H Q
def isNone : D → Bool
  | .none => true
  | _ => false
section
variable {K : Frag} {ρ : En} {ta tb tc te tx : TE} {tt tu : TT} {d d1 d2 : D} {ds es : List D} {r : R2} {W : WX} {c : Value}
theorem Ev.is (h : Ev K te ρ d) (e : d = d1) : Ev K te ρ d1 := e ▸ h
theorem EvT.is {b b' : Bool} (h : EvT K tt ρ b) (e : b = b') : EvT K tt ρ b' := e ▸ h
theorem EvF.is (h : EvF K te ρ ds) (e : ds = es) : EvF K te ρ es := e ▸ h
theorem Ev.l (h : Ev K te ρ (.list ds)) : EvL K te ρ ds := fun R0 H0 R σ H a Q q => h R0 H0 R σ H a Q fun v R' H' g dv => by
  cases dv with
  | lst hs ha => exact q _ _ R' H' g (g.sub.seq hs) ha
theorem EvF.l (h : EvF K te ρ ds) : EvL K te ρ ds := fun R0 H0 R σ H a Q q => h R0 H0 R σ H a Q fun p vs R' H' g h0 r0 hp dv => q p vs R' H' g (SqL.of hp) dv
theorem EvF.v (h : EvF K te ρ ds) : Ev K te ρ (.list ds) := fun R0 H0 R σ H a Q q => h R0 H0 R σ H a Q fun p vs R' H' g h0 r0 hp dv =>
  q _ _ H' (g.show_ h0 hp) (.lst (SqL.of upd_same) (dpa_mono (same_upd r0) _ _ dv))
theorem ev_var {i : Nat} (h : ρ[i]? = some (.val d)) : Ev K (tVar i) ρ d := fun R0 H0 R σ H a Q q => by
  obtain ⟨v, h1, h2⟩ := a.val i d h
  exact ⟨v, h1, q v R H (Grow.refl a.gr.sub) h2⟩
theorem evl_own {i : Nat} (h : ρ[i]? = some (.own ds)) : EvL K (tVar i) ρ ds := fun R0 H0 R σ H a Q q => by
  obtain ⟨p, vs, h1, h2, h3, h4, h5⟩ := a.own i ds h
  exact ⟨_, h1, q p vs R H (Grow.refl a.gr.sub) (SqL.of h2) h3⟩
theorem ev_int {i : Int} : Ev K (tC (.int i)) ρ (.int i) := fun R0 H0 R σ H a Q q => q _ R H (Grow.refl a.gr.sub) (.int i)
theorem ev_bl {b : Bool} : Ev K (tC (.bl b)) ρ (.bool b) := fun R0 H0 R σ H a Q q => q _ R H (Grow.refl a.gr.sub) (.bl b)
theorem ev_non : Ev K (tC .non) ρ .none := fun R0 H0 R σ H a Q q => q _ R H (Grow.refl a.gr.sub) .non
theorem ev_str {x : Str} : Ev K (tC (.str x)) ρ (.str x) := fun R0 H0 R σ H a Q q => q _ R H (Grow.refl a.gr.sub) (.str x)
/-- two operands, then an operation -/
theorem ev_op2 (ha : Ev K ta ρ d1) (hb : Ev K tb ρ d2) (hr : ∀ R H x y, Same R H → Dp K R x d1 → Dp K R y d2 → ∀ Q : VK, (∀ v R' H', Grow R H R' H' → Dp K R' v d → Q v H') → r x y H Q) : Ev K (tOp r ta tb) ρ d :=
  fun R0 H0 R σ H a Q q => ha R0 H0 R σ H a _ fun x R1 H1 g1 dx => hb R0 H0 R1 σ H1 (a.grow g1) _ fun y R2 H2 g2 dy =>
    hr R2 H2 x y g2.sub (dp_mono g2.rd _ _ dx) dy Q fun v R3 H3 g3 dv => q v R3 H3 ((g1.trans g2).trans g3) dv
theorem ev_I {C : Int → Int → Prop} {f : Int → Int → V} {i j : Int} (ha : Ev K ta ρ (.int i)) (hb : Ev K tb ρ (.int j)) (hc : C i j) (hd : ∀ R, Dp K R (f i j) d) : Ev K (tOp (rI C f) ta tb) ρ d :=
  ev_op2 ha hb fun R H x y s dx dy Q q => by
    cases dx; cases dy
    exact ⟨i, j, rfl, rfl, hc, q _ R H (Grow.refl s) (hd R)⟩
theorem ev_I0 {f : Int → Int → V} {i j : Int} (ha : Ev K ta ρ (.int i)) (hb : Ev K tb ρ (.int j)) (hd : ∀ R, Dp K R (f i j) d) : Ev K (tOp (rI0 f) ta tb) ρ d :=
  ev_op2 ha hb fun R H x y s dx dy Q q => by
    cases dx; cases dy
    exact ⟨i, j, rfl, rfl, q _ R H (Grow.refl s) (hd R)⟩
theorem ev_neg {i : Int} (ha : Ev K ta ρ (.int i)) : Ev K (tUn (rU fun i => .int (-i)) ta) ρ (.int (-i)) := fun R0 H0 R σ H a Q q => ha R0 H0 R σ H a _ fun x R1 H1 g1 dx => by
  cases dx
  exact ⟨i, rfl, q _ R1 H1 g1 (.int _)⟩
/-- == at any depth -/
theorem ev_eqD (ha : Ev K ta ρ d1) (hb : Ev K tb ρ d2) (h1 : SeqAt.shaped d1 = true) (h2 : SeqAt.shaped d2 = true) : Ev K (tOp (rEqD K) ta tb) ρ (.bool (PyData.eqv d1 d2)) :=
  ev_op2 ha hb fun R H x y s dx dy Q q => ⟨d1, d2, dp_mono s _ _ dx, dp_mono s _ _ dy, h1, h2, q _ R H (Grow.refl s) (.bl _)⟩
theorem ev_neD (ha : Ev K ta ρ d1) (hb : Ev K tb ρ d2) (h1 : SeqAt.shaped d1 = true) (h2 : SeqAt.shaped d2 = true) : Ev K (tOp (rNeD K) ta tb) ρ (.bool (!PyData.eqv d1 d2)) :=
  ev_op2 ha hb fun R H x y s dx dy Q q => ⟨d1, d2, dp_mono s _ _ dx, dp_mono s _ _ dy, h1, h2, q _ R H (Grow.refl s) (.bl _)⟩
theorem ev_isN (ha : Ev K ta ρ d) : Ev K (tOp (fun x y H Q => y = .non ∧ Q (.bl (decide (x = .non))) H) ta (tC .non)) ρ (.bool (isNone d)) :=
  ev_op2 (d2 := .none) ha ev_non fun R H x y s dx dy Q q => by
    cases dy
    refine ⟨rfl, ?_⟩
    have e : decide (x = V.non) = isNone d := by
      cases dx <;> first | rfl | exact decide_eq_false (fun z => nomatch z)
    rw [e]
    exact q _ R H (Grow.refl s) (.bl _)
theorem ev_notN (ha : Ev K ta ρ d) : Ev K (tOp (fun x y H Q => y = .non ∧ Q (.bl (!decide (x = .non))) H) ta (tC .non)) ρ (.bool (!isNone d)) :=
  ev_op2 (d2 := .none) ha ev_non fun R H x y s dx dy Q q => by
    cases dy
    refine ⟨rfl, ?_⟩
    have e : decide (x = V.non) = isNone d := by
      cases dx <;> first | rfl | exact decide_eq_false (fun z => nomatch z)
    rw [e]
    exact q _ R H (Grow.refl s) (.bl _)
/-! ### items -/
theorem ixN_get {α β : Type} {xs : List α} {ys : List β} {i : Int} (h : xs.length = ys.length) {y : β} (e : atI ys i = some y) : ∃ j, ixN xs.length i = some j ∧ ys[j]? = some y := by
  unfold atI at e
  rw [h]
  cases q : ixN ys.length i with
  | none => rw [q] at e; cases e
  | some j =>
    rw [q] at e
    exact ⟨j, rfl, e⟩
theorem atI_of {α : Type} {xs : List α} {i : Int} {j : Nat} {x : α} (h : ixN xs.length i = some j) (e : xs[j]? = some x) : atI xs i = some x := by
  unfold atI
  rw [h]
  exact e
theorem dpa_at {H : Hp} {vs : List V} {i : Int} (h : DpAll K H vs ds) (e : atI ds i = some d) : ∃ v, atI vs i = some v ∧ Dp K H v d := by
  obtain ⟨j, h1, h2⟩ := ixN_get (xs := vs) (dpa_len h) e
  obtain ⟨v, h3, h4⟩ := dpa_get h h2
  exact ⟨v, atI_of h1 h3, h4⟩
/-- a list or a tuple (or a text) -/
theorem ev_ixST {i : Int} (ha : Ev K ta ρ (.tuple ds)) (hb : Ev K tb ρ (.int i)) (e : atI ds i = some d) : Ev K (tOp (rIx K) ta tb) ρ d :=
  fun R0 H0 R σ H a Q q => ha R0 H0 R σ H a _ fun x R1 H1 g1 dx => hb R0 H0 R1 σ H1 (a.grow g1) _ fun y R2 H2 g2 dy => by
    cases dy
    cases dx with
    | tup hs hall =>
      obtain ⟨v, h1, h2⟩ := dpa_at hall e
      exact .inr (.inl ⟨_, _, i, v, rfl, rfl, sqt_mono (g2.rd.trans g2.sub) hs, h1, q v R2 H2 (g1.trans g2) (dp_mono g2.rd _ _ h2)⟩)
theorem ev_ixSL {i : Int} (ha : EvL K ta ρ ds) (hb : Ev K tb ρ (.int i)) (e : atI ds i = some d) : Ev K (tOp (rIx K) ta tb) ρ d :=
  fun R0 H0 R σ H a Q q => ha R0 H0 R σ H a _ fun p vs R1 H1 g1 sq dx => hb R0 H0 R1 σ H1 (a.grow g1) _ fun y R2 H2 g2 dy => by
    cases dy
    obtain ⟨v, h1, h2⟩ := dpa_at dx e
    exact .inl ⟨p, vs, i, v, rfl, rfl, g2.hp.seq sq, h1, q v R2 H2 (g1.trans g2) (dp_mono g2.rd _ _ h2)⟩
/-! ### arguments, displays -/
theorem ea_nil : EvA K tNil ρ [] := fun R0 H0 R σ H a Q q => q [] R H (Grow.refl a.gr.sub) .nil
theorem ea_cons {tr : TA} (h : Ev K te ρ d) (hr : EvA K tr ρ ds) : EvA K (tCons te tr) ρ (d :: ds) := fun R0 H0 R σ H a Q q => h R0 H0 R σ H a _ fun x R1 H1 g1 dx =>
  hr R0 H0 R1 σ H1 (a.grow g1) _ fun xs R2 H2 g2 dxs => q _ R2 H2 (g1.trans g2) (.cons (dp_mono g2.rd _ _ dx) dxs)
theorem ev_tup {tr : TA} (h : EvA K tr ρ ds) (hl : ds.length ≤ 100000) : Ev K (tTup tr) ρ (.tuple ds) := fun R0 H0 R σ H a Q q => h R0 H0 R σ H a _ fun xs R1 H1 g1 dx =>
  ⟨Nat.le_trans (by rw [dpa_len dx]; exact hl) (by decide), fun p hp => q _ _ _ (g1.trans (Grow.alloc g1.sub hp)) (.tup (SqT.of upd_same) (dpa_mono (Grow.alloc g1.sub hp).rd _ _ dx))⟩
theorem evf_lst {tr : TA} (h : EvA K tr ρ ds) (hl : ds.length ≤ 100000) : EvF K (tLst tr) ρ ds := fun R0 H0 R σ H a Q q => h R0 H0 R σ H a _ fun xs R1 H1 g1 dx =>
  ⟨Nat.le_trans (by rw [dpa_len dx]; exact hl) (by decide), fun p hp => q p xs R1 _ (g1.trans (Grow.hide g1.sub hp)) (g1.hp.free hp) (g1.sub.free hp) upd_same dx⟩
/-! ### tests -/
theorem et_test {b : Bool} (h : Ev K te ρ (.bool b)) : EvT K (tTest te) ρ b := fun R0 H0 R σ H a Q q => h R0 H0 R σ H a _ fun v R1 H1 g1 dv => by
  cases dv
  exact ⟨b, rfl, q R1 H1 g1⟩
theorem et_B {b : Bool} (h : Ev K te ρ (.bool b)) : EvT K (tB te) ρ b := fun R0 H0 R σ H a Q q => h R0 H0 R σ H a _ fun v R1 H1 g1 dv => by
  cases dv
  exact ⟨b, rfl, q R1 H1 g1⟩
theorem et_and {x y : Bool} (h1 : EvT K tt ρ x) (h2 : x = true → EvT K tu ρ y) : EvT K (tAnd tt tu) ρ (x && y) := fun R0 H0 R σ H a Q q => h1 R0 H0 R σ H a _ fun R1 H1 g1 => by
  cases x with
  | true => exact iteT (h2 rfl R0 H0 R1 σ H1 (a.grow g1) Q fun R2 H2 g2 => q R2 H2 (g1.trans g2))
  | false => exact iteF (q R1 H1 g1)
theorem et_or {x y : Bool} (h1 : EvT K tt ρ x) (h2 : x = false → EvT K tu ρ y) : EvT K (tOr tt tu) ρ (x || y) := fun R0 H0 R σ H a Q q => h1 R0 H0 R σ H a _ fun R1 H1 g1 => by
  cases x with
  | true => exact iteT (q R1 H1 g1)
  | false => exact iteF (h2 rfl R0 H0 R1 σ H1 (a.grow g1) Q fun R2 H2 g2 => q R2 H2 (g1.trans g2))
theorem et_not {x : Bool} (h : EvT K tt ρ x) : EvT K (tNot tt) ρ (!x) := fun R0 H0 R σ H a Q q => h R0 H0 R σ H a _ fun R1 H1 g1 => q R1 H1 g1
theorem ev_andV {x y : Bool} (h1 : Ev K ta ρ (.bool x)) (h2 : x = true → Ev K tb ρ (.bool y)) : Ev K (tAndV ta tb) ρ (.bool (x && y)) := fun R0 H0 R σ H a Q q => h1 R0 H0 R σ H a _ fun v R1 H1 g1 dv => by
  cases dv
  refine ⟨x, rfl, ?_⟩
  cases x with
  | true => exact iteT (h2 rfl R0 H0 R1 σ H1 (a.grow g1) Q fun v R2 H2 g2 dv => q v R2 H2 (g1.trans g2) dv)
  | false => exact iteF (q _ R1 H1 g1 (.bl _))
theorem ev_orV {x y : Bool} (h1 : Ev K ta ρ (.bool x)) (h2 : x = false → Ev K tb ρ (.bool y)) : Ev K (tOrV ta tb) ρ (.bool (x || y)) := fun R0 H0 R σ H a Q q => h1 R0 H0 R σ H a _ fun v R1 H1 g1 dv => by
  cases dv
  refine ⟨x, rfl, ?_⟩
  cases x with
  | true => exact iteT (q _ R1 H1 g1 (.bl _))
  | false => exact iteF (h2 rfl R0 H0 R1 σ H1 (a.grow g1) Q fun v R2 H2 g2 dv => q v R2 H2 (g1.trans g2) dv)
theorem ev_notV {x : Bool} (h1 : Ev K ta ρ (.bool x)) : Ev K (tNotV ta) ρ (.bool (!x)) := fun R0 H0 R σ H a Q q => h1 R0 H0 R σ H a _ fun v R1 H1 g1 dv => by
  cases dv
  exact ⟨x, rfl, q _ R1 H1 g1 (.bl _)⟩
/-- a < b < c of whole numbers -/
theorem ev_chainI {f g : Int → Int → Bool} {i j k : Int} (ha : Ev K ta ρ (.int i)) (hb : Ev K tb ρ (.int j)) (hc : f i j = true → Ev K tc ρ (.int k)) :
    Ev K (tChain (rI0 fun i j => .bl (f i j)) (rI0 fun i j => .bl (g i j)) ta tb tc) ρ (.bool (f i j && g j k)) := fun R0 H0 R σ H a Q q => ha R0 H0 R σ H a _ fun x R1 H1 g1 dx => hb R0 H0 R1 σ H1 (a.grow g1) _ fun y R2 H2 g2 dy => by
  cases dx; cases dy
  refine ⟨i, j, rfl, rfl, f i j, rfl, ?_⟩
  have a2 := a.grow (g1.trans g2)
  have fin : ∀ b, f i j = b → (if b = true then tc σ H2 fun w' H4 => (rI0 fun i j => .bl (g i j)) (.int j) w' H4 Q else Q (.bl false) H2) := fun b e => by
    cases b with
    | true =>
      refine iteT (hc e R0 H0 R2 σ H2 a2 _ fun z R3 H3 g3 dz => ?_)
      cases dz
      refine ⟨j, k, rfl, rfl, q _ R3 H3 ((g1.trans g2).trans g3) ?_⟩
      rw [e, Bool.true_and]
      exact .bl _
    | false =>
      refine iteF (q _ R2 H2 (g1.trans g2) ?_)
      rw [e, Bool.false_and]
      exact .bl _
  exact fin _ rfl
end
end Pu
set_option maxRecDepth 100000
namespace Pu
open PySem PySem.Spec PyProof.Rows L2
/-! ### contracts -/
structure Kc where
  rt : D → Prop
  rl : List D → Prop
  ex : Value → Prop
abbrev Ct := List D → Kc → Prop
/-- what a contract says in terms of heaps -/
def spc (K : Frag) (c : Ct) : Sp := fun vs H Q E => ∃ (R : Hp) (ds : List D) (k : Kc), Same R H ∧ DpAll K R vs ds ∧ c ds k ∧
  (∀ d v R' H', k.rt d → Grow R H R' H' → Dp K R' v d → Q v H') ∧
  (∀ es p vs' R' H', k.rl es → Grow R H R' H' → H p = none → R' p = none → H' p = some (.lst vs') → DpAll K R' vs' es → Q (.ref p) H') ∧
  (∀ x R' H', k.ex x → Grow R H R' H' → E x none H')
/-- it gives d; a new list; an exception -/
def kv (d : D) : Kc := ⟨fun e => e = d, fun _ => False, fun _ => False⟩
def kl (ds : List D) : Kc := ⟨fun _ => False, fun es => es = ds, fun _ => False⟩
def kx (c : Value) : Kc := ⟨fun _ => False, fun _ => False, fun x => x = c⟩
section
variable {K : Frag} {ρ : En} {te : TE} {ta : TA} {c : Ct} {d : D} {ds es : List D} {E : L2.St → XK} {W : WX} {x : Value}
theorem ev_call (ha : EvA K ta ρ ds) (hc : c ds (kv d)) : Ev K (tCallS (spc K c) E ta) ρ d := fun R0 H0 R σ H a Q q => ha R0 H0 R σ H a _ fun vs R1 H1 g1 dx =>
  ⟨R1, ds, kv d, g1.sub, dx, hc, fun e v R' H' h g dv => by cases (show e = d from h); exact q v R' H' (g1.trans g) dv, fun _ _ _ _ _ h => h.elim, fun _ _ _ h => h.elim⟩
theorem evf_call (ha : EvA K ta ρ ds) (hc : c ds (kl es)) : EvF K (tCallS (spc K c) E ta) ρ es := fun R0 H0 R σ H a Q q => ha R0 H0 R σ H a _ fun vs R1 H1 g1 dx =>
  ⟨R1, ds, kl es, g1.sub, dx, hc, fun _ _ _ _ h => h.elim, fun fs p vs' R' H' h g hn hr hp dv => by cases (show fs = es from h); exact q p vs' R' H' (g1.trans g) (g1.hp.free hn) hr hp dv, fun _ _ _ h => h.elim⟩
theorem evx_call (ha : EvA K ta ρ ds) (hc : c ds (kx x)) : EvX K W (tCallS (spc K c) (WE W) ta) ρ x := fun R0 H0 R σ H a Q q => ha R0 H0 R σ H a _ fun vs R1 H1 g1 dx =>
  ⟨R1, ds, kx x, g1.sub, dx, hc, fun _ _ _ _ h => h.elim, fun _ _ _ _ _ h => h.elim, fun y R' H' h g => by cases (show y = x from h); exact q R' H' (a.grow (g1.trans g))⟩
end
/-! ### statements -/
structure Ko where
  nx : En → Prop
  rt : D → Prop
  rl : List D → Prop
  bk : En → Prop := fun _ => False
  ct : En → Prop := fun _ => False
  /-- a return, told by the slots and one more for what is returned -/
  rg : En → Prop := fun _ => False
structure Meets (K : Frag) (R0 H0 : Hp) (k : Ko) (D : Ends) : Prop where
  nx : ∀ ρ R σ H, k.nx ρ → At K R0 H0 R ρ σ H → D.nx σ H
  rt : ∀ d v R H, k.rt d → Grow R0 H0 R H → Dp K R v d → D.rt v H
  rl : ∀ ds p vs R H, k.rl ds → Grow R0 H0 R H → H0 p = none → R p = none → H p = some (.lst vs) → DpAll K R vs ds → D.rt (.ref p) H
  bk : ∀ ρ R σ H, k.bk ρ → At K R0 H0 R ρ σ H → D.bk σ H
  ct : ∀ ρ R σ H, k.ct ρ → At K R0 H0 R ρ σ H → D.ct σ H
  rg : ∀ ρ v R σ H, k.rg ρ → At K R0 H0 R ρ (σ ++ [some v]) H → D.rt v H
def OkW (K : Frag) (W : WX) (ex : Value → En → Prop) (R0 H0 : Hp) : Prop := ∀ c ρ R σ H, ex c ρ → At K R0 H0 R ρ σ H → W c none σ H
/-- the statement leads to k (or lets out what ex says) -/
def Sd (K : Frag) (W : WX) (ex : Value → En → Prop) (ts : TS) (ρ : En) (k : Ko) : Prop := ∀ R0 H0, OkW K W ex R0 H0 → ∀ R σ H, At K R0 H0 R ρ σ H → ∀ D, Meets K R0 H0 k D → ts D σ H
theorem Grow.back {R0 H0 R' H1 R H : Hp} (a : Grow R' H0 R H) (g : Grow R0 H0 R' H1) : Grow R0 H0 R H := ⟨g.rd.trans a.rd, a.hp, a.sub, fun x h n => by
    by_cases q : R' x = none
    · exact a.new x q n
    · exact g.new x h q⟩
theorem OkW.back {K : Frag} {W : WX} {ex : Value → En → Prop} {R0 H0 R' H1 : Hp} (h : OkW K W ex R0 H0) (g : Grow R0 H0 R' H1) : OkW K W ex R' H0 := fun c ρ R σ H e a => h c ρ R σ H e (a.back g)
theorem Meets.back {K : Frag} {R0 H0 R' H1 : Hp} {k : Ko} {D : Ends} (m : Meets K R0 H0 k D) (g : Grow R0 H0 R' H1) : Meets K R' H0 k D where
  nx := fun ρ R σ H e a => m.nx ρ R σ H e (a.back g)
  rt := fun d v R H e a dv => m.rt d v R H e (a.back g) dv
  rl := fun ds p vs R H e a h0 r hp dv => m.rl ds p vs R H e (a.back g) h0 r hp dv
  bk := fun ρ R σ H e a => m.bk ρ R σ H e (a.back g)
  ct := fun ρ R σ H e a => m.ct ρ R σ H e (a.back g)
  rg := fun ρ v R σ H e a => m.rg ρ v R σ H e (a.back g)
section
variable {K : Frag} {ρ ρ2 : En} {te ti : TE} {ta : TA} {tt : TT} {t u ts tb : TS} {g : TG} {c : Ct} {d d1 d2 : D} {ds es : List D} {W : WX} {ex : Value → En → Prop} {k : Ko} {x : Value} {i j : Nat}
theorem sd_next (h : k.nx ρ) : Sd K W ex tNext ρ k := fun R0 H0 ok R σ H a D m => m.nx ρ R σ H h a
theorem sd_seq (h : Sd K W ex t ρ { k with nx := fun ρ' => Sd K W ex u ρ' k }) : Sd K W ex (tSeq t u) ρ k := fun R0 H0 ok R σ H a D m =>
  h R0 H0 ok R σ H a _ ⟨fun ρ' R' σ' H' s a' => s R0 H0 ok R' σ' H' a' D m, m.rt, m.rl, m.bk, m.ct, m.rg⟩
theorem sd_ifS {b : Bool} (hc : EvT K tt ρ b) (h1 : b = true → Sd K W ex t ρ k) (h2 : b = false → Sd K W ex u ρ k) : Sd K W ex (tIfS tt t u) ρ k := fun R0 H0 ok R σ H a D m =>
  hc R0 H0 R σ H a _ fun R1 H1 g1 => by
    cases b with
    | true => exact iteT (h1 rfl R0 H0 ok R1 σ H1 (a.grow g1) D m)
    | false => exact iteF (h2 rfl R0 H0 ok R1 σ H1 (a.grow g1) D m)
theorem sd_set (h : Ev K te ρ d) (hk : k.nx (ρ.set i (.val d))) : Sd K W ex (tAsg te (gName i)) ρ k := fun R0 H0 ok R σ H a D m =>
  h R0 H0 R σ H a _ fun v R1 H1 g1 dv => m.nx _ R1 _ H1 hk ((a.grow g1).set dv)
theorem sd_own (h : EvF K te ρ ds) (hk : k.nx (ρ.set i (.own ds))) : Sd K W ex (tAsg te (gName i)) ρ k := fun R0 H0 ok R σ H a D m =>
  h R0 H0 R σ H a _ fun p vs R1 H1 g1 hn hr hp dv => m.nx _ R1 _ H1 hk ((a.grow g1).set_own hp dv hr (a.gr.hp.free hn) (fun j fs _ q z => by
    obtain ⟨p2, vs2, q1, q2, _⟩ := a.own j fs q
    rw [z] at q1
    cases q1
    rw [hn] at q2
    cases q2) fun j v S P q z => ((a.fa.at_ j v S P q).2.2.2 p z).1 hn)
theorem sd_drop (h : Ev K te ρ d) (hk : k.nx ρ) : Sd K W ex (tDrop te) ρ k := fun R0 H0 ok R σ H a D m =>
  h R0 H0 R σ H a _ fun v R1 H1 g1 dv => m.nx _ R1 _ H1 hk (a.grow g1)
theorem sd_dropx (h : EvX K W te ρ x) (he : ex x ρ) : Sd K W ex (tDrop te) ρ k := fun R0 H0 ok R σ H a D m => h R0 H0 R σ H a _ fun R1 H1 a1 => ok x ρ R1 σ H1 he a1
theorem sd_ret (h : Ev K te ρ d) (hk : k.rt d) : Sd K W ex (tRet te) ρ k := fun R0 H0 ok R σ H a D m =>
  h R0 H0 R σ H a _ fun v R1 H1 g1 dv => m.rt d v R1 H1 hk (a.gr.trans g1) dv
theorem sd_retf (h : EvF K te ρ ds) (hk : k.rl ds) : Sd K W ex (tRet te) ρ k := fun R0 H0 ok R σ H a D m =>
  h R0 H0 R σ H a _ fun p vs R1 H1 g1 hn hr hp dv => m.rl ds p vs R1 H1 hk (a.gr.trans g1) (a.gr.hp.free hn) hr hp dv
theorem sd_retx (h : EvX K W te ρ x) (he : ex x ρ) : Sd K W ex (tRet te) ρ k := fun R0 H0 ok R σ H a D m => h R0 H0 R σ H a _ fun R1 H1 a1 => ok x ρ R1 σ H1 he a1
/-- return told, an own list -/
theorem sd_reto (e : ρ[i]? = some (.own ds)) (hk : k.rl ds) : Sd K W ex (tRet (tVar i)) ρ k := fun R0 H0 ok R σ H a D m => by
  obtain ⟨p, vs, h1, h2, h3, h4, h5⟩ := a.own i ds e
  exact ⟨_, h1, m.rl ds p vs R H hk a.gr h5 h4 h2 h3⟩
/-- raise C(..) -/
def tRaiseC (W : WX) (C : Addr) : TS := fun _ σ H => W (.ref C) none σ H
theorem sd_raise {C : Addr} (he : ex (.ref C) ρ) : Sd K W ex (tRaiseC W C) ρ k := fun R0 H0 ok R σ H a D m => ok _ ρ R σ H he a
/-- an own list is given up -/
theorem sd_freeze (i : Nat) (e : ρ[i]? = some (.own ds)) (h : Sd K W ex ts (ρ.set i (.val (.list ds))) k) : Sd K W ex ts ρ k := fun R0 H0 ok R σ H a D m => by
  obtain ⟨R', rr, a'⟩ := a.freeze e
  exact h R0 H0 ok R' σ H a' D m
/-- a slot is forgotten -/
theorem Sd.imp {k' : Ko} (h : Sd K W ex ts ρ k) (h1 : ∀ ρ, k.nx ρ → k'.nx ρ) (h2 : ∀ d, k.rt d → k'.rt d) (h3 : ∀ d, k.rl d → k'.rl d) (h4 : ∀ ρ, k.bk ρ → k'.bk ρ) (h5 : ∀ ρ, k.ct ρ → k'.ct ρ) (h6 : ∀ ρ, k.rg ρ → k'.rg ρ := by exact fun _ h => h) : Sd K W ex ts ρ k' := fun R0 H0 ok R σ H a D m =>
  h R0 H0 ok R σ H a D ⟨fun ρ R σ H q => m.nx ρ R σ H (h1 ρ q), fun d v R H q => m.rt d v R H (h2 d q), fun ds p vs R H q => m.rl ds p vs R H (h3 ds q), fun ρ R σ H q => m.bk ρ R σ H (h4 ρ q), fun ρ R σ H q => m.ct ρ R σ H (h5 ρ q), fun ρ v R σ H q => m.rg ρ v R σ H (h6 ρ q)⟩
/-! ### own lists that change -/
theorem sd_append (e : ρ[i]? = some (.own ds)) (h : Ev K te ρ d) (hl : ds.length ≤ 100000) (hk : k.nx (ρ.set i (.own (ds ++ [d])))) : Sd K W ex (tDrop (tBM K "list" rAppend (tVar i) (tCons te tNil))) ρ k := fun R0 H0 ok R σ H a D m => by
  obtain ⟨p, vs, h1, h2, h3, h4, h5⟩ := a.own i ds e
  refine ⟨_, h1, .inl ⟨rfl, _, SqL.of h2⟩, h R0 H0 R σ H a _ fun v R1 H1 g1 dv => ?_⟩
  have a1 := a.grow g1
  refine ⟨p, vs, v, rfl, rfl, g1.hp _ _ h2, ?_, m.nx _ R1 _ _ hk (a1.put e h1 (dpa_snoc (dpa_mono g1.rd _ _ h3) dv))⟩
  rw [dpa_len h3]
  exact Nat.lt_of_le_of_lt hl (by decide)
theorem sd_extend (e : ρ[i]? = some (.own ds)) (h : EvF K te ρ es) (hl : ds.length + es.length ≤ 100000) (hk : k.nx (ρ.set i (.own (ds ++ es)))) : Sd K W ex (tDrop (tBM K "list" rExtend (tVar i) (tCons te tNil))) ρ k := fun R0 H0 ok R σ H a D m => by
  obtain ⟨p, vs, h1, h2, h3, h4, h5⟩ := a.own i ds e
  refine ⟨_, h1, .inl ⟨rfl, _, SqL.of h2⟩, h R0 H0 R σ H a _ fun b ws R1 H1 g1 hn hr hp dv => ?_⟩
  have a1 := a.grow g1
  refine ⟨p, b, vs, ws, rfl, rfl, g1.hp _ _ h2, hp, ?_, m.nx _ R1 _ _ hk (a1.put e h1 (dpa_append (dpa_mono g1.rd _ _ h3) dv))⟩
  rw [dpa_len h3, dpa_len dv]
  exact Nat.le_trans hl (by decide)
/-! ### while -/
/-! ### for -/
def Yl (K : Frag) (J : It) (R' : Hp) (ds : List D) : Prop := ∀ R2 H2, Same R' R2 → Same R2 H2 → (∀ i d, ds[i]? = some d → J.go i H2 ∧ ∀ x H3, J.yld i H2 x H3 → ∃ R3, Grow R2 H2 R3 H3 ∧ Dp K R3 x d) ∧ J.stop ds.length H2
/-- what is walked: the data ds, one by one -/
def Id (K : Frag) (wi : TI) (ρ : En) (ds : List D) : Prop := ∀ R0 H0 R σ H, At K R0 H0 R ρ σ H → ∀ Rr : It → Hp → Prop, (∀ J R' H', Grow R H R' H' → Yl K J R' ds → Rr J H') → wi σ H Rr
def Gd (K : Frag) (g : TG) (d : D) (ρ ρ2 : En) : Prop := ∀ R0 H0 R v σ H, At K R0 H0 R ρ σ H → Dp K R v d → ∀ Q : L2.St → Hp → Prop, (∀ σ', At K R0 H0 R ρ2 σ' H → Q σ' H) → g v σ H Q
theorem gd_name : Gd K (gName i) d ρ (ρ.set i (.val d)) := fun R0 H0 R v σ H a dv Q q => q _ (a.set dv)
theorem gd_tup2 {ρ1 ρ3 : En} {g1 g2 : TG} (h1 : Gd K g1 d1 ρ ρ1) (h2 : Gd K g2 d2 ρ1 ρ3) : Gd K (gTup K 2 (gCons g1 (gCons g2 gNil))) (.tuple [d1, d2]) ρ ρ3 := fun R0 H0 R v σ H a dv Q q => by
  cases dv with
  | tup hs ha =>
    cases ha with
    | cons e1 ha =>
      cases ha with
      | cons e2 ha =>
        cases ha
        exact ⟨_, _, rfl, sqt_mono a.gr.sub hs, rfl, _, _, rfl, h1 R0 H0 R _ σ H a e1 _ fun σ1 a1 => ⟨_, _, rfl, h2 R0 H0 R _ σ1 H a1 e2 _ fun σ2 a2 => ⟨rfl, q σ2 a2⟩⟩⟩
theorem sd_asg (h : Ev K te ρ d) (hg : Gd K g d ρ ρ2) (hk : k.nx ρ2) : Sd K W ex (tAsg te g) ρ k := fun R0 H0 ok R σ H a D m =>
  h R0 H0 R σ H a _ fun v R1 H1 g1 dv => hg R0 H0 R1 v σ H1 (a.grow g1) dv _ fun σ' a' => m.nx _ R1 _ H1 hk a'
theorem sd_for {wi : TI} (Inv : Nat → En → Prop) (hI : Id K wi ρ ds) (h0 : Inv 0 ρ)
    (hs : ∀ i d ρ', ds[i]? = some d → Inv i ρ' → ∃ ρ2, Gd K g d ρ' ρ2 ∧ Sd K W ex tb ρ2 { k with nx := Inv (i + 1), ct := Inv (i + 1), bk := k.nx }) (hd : ∀ ρ', Inv ds.length ρ' → k.nx ρ') : Sd K W ex (tFor wi g tb) ρ k := fun R0 H0 ok R σ H a D m => by
  refine hI R0 H0 R σ H a _ fun J R' H' gr yl => ?_
  refine ⟨fun i n σ' H2 => n = ds.length - i ∧ i ≤ ds.length ∧ ∃ ρ' R2, Inv i ρ' ∧ At K R0 H0 R2 ρ' σ' H2 ∧ Same R' R2, ⟨ds.length, by simp, Nat.zero_le _, ρ, R', h0, a.grow gr, Same.refl _⟩, ?_⟩
  rintro i n σ' H2 ⟨rfl, hi, ρ', R2, w, a2, s2⟩
  obtain ⟨y1, y2⟩ := yl R2 H2 s2 a2.gr.sub
  by_cases hlt : i < ds.length
  · obtain ⟨go, yld⟩ := y1 i ds[i] (List.getElem?_eq_getElem hlt)
    refine .inr ⟨go, fun σ3 H3 => ∃ ρ3 R3, Inv (i + 1) ρ3 ∧ At K R0 H0 R3 ρ3 σ3 H3 ∧ Same R' R3, fun σ3 H3 ⟨ρ3, R3, w3, a3, s3⟩ => ⟨ds.length - (i + 1), by omega, rfl, hlt, ρ3, R3, w3, a3, s3⟩, fun x H3 y => ?_⟩
    obtain ⟨R3, g3, dx⟩ := yld x H3 y
    obtain ⟨ρ2, hg, hb⟩ := hs i ds[i] ρ' (List.getElem?_eq_getElem hlt) w
    have a3 := a2.grow g3
    refine hg R0 H0 R3 x σ' H3 a3 dx _ fun σ4 a4 => ?_
    have G := a3.gr
    refine hb R3 H0 (ok.back G) R3 σ4 H3 (a4.later G (Same.refl _)) _ ⟨fun r R5 σ5 H5 q a5 => ⟨r, R5, q, a5.back G, (s2.trans g3.rd).trans a5.gr.rd⟩, (m.back G).rt, (m.back G).rl, fun r R5 σ5 H5 q a5 => m.nx r R5 σ5 H5 q (a5.back G), fun r R5 σ5 H5 q a5 => ⟨r, R5, q, a5.back G, (s2.trans g3.rd).trans a5.gr.rd⟩, (m.back G).rg⟩
  · have e : i = ds.length := by omega
    subst e
    exact .inl ⟨y2, m.nx _ _ _ _ (hd ρ' w) a2⟩
/-! ### what is walked -/
def rangeD (lo : Int) (n : Nat) : List D := (List.range n).map fun i : Nat => .int (lo + (i : Int))
theorem rangeD_len {lo : Int} {n : Nat} : (rangeD lo n).length = n := by unfold rangeD; rw [List.length_map, List.length_range]
theorem rangeD_get {lo : Int} {n i : Nat} {d : D} (h : (rangeD lo n)[i]? = some d) : i < n ∧ d = .int (lo + (i : Int)) := by
  unfold rangeD at h
  rw [List.getElem?_map] at h
  have hl : i < n := by
    by_cases z : i < n
    · exact z
    · rw [List.getElem?_eq_none (by rw [List.length_range]; omega)] at h
      cases h
  rw [List.getElem?_range hl] at h
  exact ⟨hl, (Option.some.inj h).symm⟩
theorem yl_range {lo : Int} {n : Nat} {R : Hp} : Yl K (Itr lo n) R (rangeD lo n) := fun R2 H2 s2 sh => by
  refine ⟨fun i d e => ?_, by rw [rangeD_len]; exact Nat.le_refl n⟩
  obtain ⟨hl, rfl⟩ := rangeD_get e
  refine ⟨hl, fun x H3 y => ?_⟩
  obtain ⟨rfl, rfl⟩ := y
  exact ⟨R2, Grow.refl sh, .int _⟩
theorem id_rng1 {j : Int} (h : EvA K ta ρ [.int j]) (h1 : -(2 ^ 62) ≤ j) (h2 : j < 2 ^ 62) : Id K (iRng1 ta) ρ (rangeD 0 j.toNat) := fun R0 H0 R σ H a Rr q => h R0 H0 R σ H a _ fun vs R1 H1 g1 dv => by
  cases dv with
  | cons e1 dv =>
    cases dv
    cases e1
    exact ⟨j, rfl, h1, h2, q _ R1 H1 g1 yl_range⟩
end
/-! ### a def's body -/
theorem at_start {K : Frag} {R H : Hp} {vs : List V} {ds : List D} {N : List Str} (s : Same R H) (h : DpAll K R vs ds) : At K R H R (ds.map Sl.val ++ List.replicate (N.length - ds.length) Sl.un) (L2.start N vs) H := by
  have hl := dpa_len h
  have key : ∀ (i : Nat) (x : Sl), (ds.map Sl.val ++ List.replicate (N.length - ds.length) Sl.un)[i]? = some x → x = .un ∨ ∃ d, x = .val d ∧ ds[i]? = some d := fun i x q => by
    by_cases hi : i < ds.length
    · rw [List.getElem?_append_left (by rw [List.length_map]; exact hi), List.getElem?_map, List.getElem?_eq_getElem hi] at q
      exact .inr ⟨ds[i], (Option.some.inj q).symm, List.getElem?_eq_getElem hi⟩
    · rw [List.getElem?_append_right (by rw [List.length_map]; omega), List.getElem?_replicate] at q
      split at q
      · exact .inl (Option.some.inj q).symm
      · cases q
  refine ⟨Grow.refl s, ?_, fun i d q => ?_, fun i es q => ?_, fun i v q => ?_, fun i j p es fs _ q => ?_, Facts.none_ fun i v S P q => ?_⟩
  · unfold L2.start
    rw [List.length_append, List.length_append, List.length_map, List.length_map, List.length_replicate, List.length_replicate, hl]
  · rcases key i _ q with z | ⟨e, z, g⟩
    · cases z
    · cases z
      obtain ⟨v, h1, h2⟩ := dpa_get h g
      refine ⟨v, ?_, h2⟩
      unfold L2.start
      have hi : i < vs.length := (List.getElem?_eq_some_iff.mp h1).1
      rw [List.getElem?_append_left (by rw [List.length_map]; exact hi), List.getElem?_map, h1]
      rfl
  · rcases key i _ q with z | ⟨e, z, g⟩ <;> cases z
  · rcases key i _ q with z | ⟨e, z, g⟩ <;> cases z
  · rcases key i _ q with z | ⟨e, z, g⟩ <;> cases z
  · rcases key i _ q with z | ⟨e, z, g⟩ <;> cases z
/-- the reading of a def's body from its contract -/
theorem body_of {K : Frag} {c : Ct} {vs : List V} {H : Hp} {Q : VK} {E : XK} {N : List Str} {t : TS} (h : spc K c vs H Q E)
    (hs : ∀ (ds : List D) (k : Kc), c ds k → Sd K (fun cls d _ H => E cls d H) (fun x _ => k.ex x) t (ds.map Sl.val ++ List.replicate (N.length - ds.length) Sl.un) { nx := fun _ => k.rt .none, rt := k.rt, rl := k.rl }) :
    t { nx := fun _ H' => Q .non H', rt := Q } (L2.start N vs) H := by
  obtain ⟨R, ds, k, s, hd, hc, q1, q2, q3⟩ := h
  refine hs ds k hc R H (fun x ρ R' σ H' hx a => q3 x R' H' hx a.gr) R _ H (at_start s hd) _ ⟨fun ρ R' σ H' hr a => q1 _ _ R' H' hr a.gr .non, fun d v R' H' hr g dv => q1 d v R' H' hr g dv, fun es p vs' R' H' hr g hn hr' hp dv => q2 es p vs' R' H' hr g hn hr' hp dv, fun _ _ _ _ q => q.elim, fun _ _ _ _ q => q.elim, fun _ _ _ _ _ q => q.elim⟩
theorem spc_len {K : Frag} {c : Ct} {n : Nat} (h : ∀ ds k, c ds k → ds.length = n) : ∀ vs H Q E, spc K c vs H Q E → vs.length = n := fun vs H Q E ⟨R, ds, k, s, hd, hc, _⟩ => (dpa_len hd).trans (h ds k hc)
end Pu
set_option maxRecDepth 100000
namespace Pu
open PySem PySem.Spec PyProof.Rows L2
/-! ### rules over the machine, with names for their readings -/
def CDivX (i j : Int) : Prop := j ≠ 0 ∧ j.natAbs.log2 < 9000
def CPowW (i j : Int) : Prop := 0 ≤ j ∧ (Builtin.Int.intBits i : Int) * j ≤ 2 ^ 27
def CMulB (i j : Int) : Prop := i.natAbs.log2 + j.natAbs.log2 < 100000000
theorem CMulB.ok {i j : Int} (h : CMulB i j) : IntMulOk i j := by
  have b : ∀ x : Int, Builtin.Int.intBits x ≤ x.natAbs.log2 + 1 := fun x => by
    unfold Builtin.Int.intBits
    split <;> omega
  have h1 := b i
  have h2 := b j
  have h3 : i.natAbs.log2 + j.natAbs.log2 < 100000000 := h
  have e : bitsLine = 134217728 := by decide
  unfold IntMulOk
  intro z
  rw [Bool.and_eq_true] at z
  have z2 := z.2
  unfold Builtin.Int.intTooBig at z2
  have z3 := of_decide_eq_true z2
  rw [e] at z3
  omega
def rFdiv : R2 := rI CDivX fun i j => .int (i.fdiv j)
def rMod : R2 := rI (fun _ j => j ≠ 0) fun i j => .int (i.fmod j)
def rMul : R2 := rI CMulB fun i j => .int (i * j)
def rPow : R2 := rI CPowW fun i j => .int (i ^ j.toNat)
def rAdd : R2 := rI0 fun i j => .int (i + j)
def rSub : R2 := rI0 fun i j => .int (i - j)
def rLt : R2 := rI0 fun i j => .bl (decide (i < j))
def rLe : R2 := rI0 fun i j => .bl (decide (i ≤ j))
def rGt : R2 := rI0 fun i j => .bl (decide (j < i))
def rGe : R2 := rI0 fun i j => .bl (decide (j ≤ i))
def rNeg : V → Hp → VK → Prop := rU fun i => .int (-i)
def rIsNn : R2 := fun x y H Q => y = .non ∧ Q (.bl (decide (x = .non))) H
def rNotNn : R2 := fun x y H Q => y = .non ∧ Q (.bl (!decide (x = .non))) H
def rLen (K : Frag) : List V → Hp → VK → Prop := fun xs H Q => ∃ p ys, xs = [.ref p] ∧ (SqL K H p ys ∨ SqT K H p ys) ∧ Q (.int ys.length) H
def rAbs : List V → Hp → VK → Prop := fun xs H Q => ∃ i, xs = [.int i] ∧ Q (.int (if i < 0 then -i else i)) H
def rMx2 : List V → Hp → VK → Prop := fun xs H Q => ∃ i j, xs = [.int i, .int j] ∧ Q (.int (if j > i then j else i)) H
def rMn2 : List V → Hp → VK → Prop := fun xs H Q => ∃ i j, xs = [.int i, .int j] ∧ Q (.int (if j < i then j else i)) H
def rLst (K : Frag) : List V → Hp → VK → Prop := fun xs H Q => ∃ p ys, xs = [.ref p] ∧ (SqL K H p ys ∨ SqT K H p ys) ∧ ∀ l, H l = none → Q (.ref l) (upd H l (.lst ys))
def rTpl (K : Frag) : List V → Hp → VK → Prop := fun xs H Q => ∃ p ys, xs = [.ref p] ∧ ((SqL K H p ys ∧ ∀ l, H l = none → Q (.ref l) (upd H l (.tup ys))) ∨ (SqT K H p ys ∧ Q (.ref p) H))
section
variable {X : Cx}
theorem o_fdiv : OpR X (binaryOp .FloorDiv) rFdiv := opI fun i j _ _ _ _ _ hc q => floordiv_int hc.1 q (.inl (PyProof.noPylong_of_log2 hc.2))
theorem o_mod : OpR X (binaryOp .Mod) rMod := op_modN
theorem o_mul : OpR X (binaryOp .Mult) rMul := opI fun _ _ _ _ _ _ _ hc q => mul_int q hc.ok
theorem o_pow : OpR X (binaryOp .Pow) rPow := opI fun _ _ _ _ _ _ _ hc q => pow_int hc.1 hc.2 q
theorem o_add : OpR X (binaryOp .Add) rAdd := op_add
theorem o_lt : OpR X (compareOp .Lt) rLt := op_lt
theorem o_le : OpR X (compareOp .LtE) rLe := op_le
theorem o_gt : OpR X (compareOp .Gt) rGt := op_gt
theorem o_neg : UnR X (unaryOp .USub) rNeg := un_neg
theorem o_isN : OpR X (compareOp .Is) rIsNn := op_isN
theorem o_notN : OpR X (compareOp .IsNot) rNotNn := op_notN
theorem c_len : CallR X (.builtin "len") (rLen X.K) := call_len_seq
theorem c_min2 (hc : X.calm = true) : CallR X (.builtin "min") rMn2 := call_min2 hc
theorem c_list : CallR X (.type "list") (rLst X.K) := call_list_of
theorem c_tuple : CallR X (.type "tuple") (rTpl X.K) := call_tuple_of
/-- raise C('..') -/
theorem ps_raiseC {W : WX} {C : Addr} {x m : Str} {j : Nat} {p p2 pos pos2 : Pos} (hc : X.calm = true) (tk : Takes X W) (q : PySem.W.excIn X.K C [.type "ValueError", .type "Exception", .type "BaseException", .type "object"] "ValueError.__new__" = true) (gC : X.mg x = some (.ref C))
    (kC : PySem.W.keepIn X.K (.ref C) = true) (h1 : PySem.W.subIn X.K (.ref C) (.type "BaseException") = some true) (h2 : PySem.W.typeIn X.K (.ref C) = some (.type "type")) (hg : Gl X x) (hdb : (x == ("__debug__" : Str)) = false := by decide) :
    PS X (.Raise (some (.Call (.Name x p) [.Constant (.str m) j p2] [] pos)) none pos2) (tRaiseC W C) :=
  ps_raise hc tk (pmk_own PySem.F.excBase_ValueError q gC kC (raises_own h1 h2) hg hdb)
/-- over a list or a tuple -/
def iSeq (K : Frag) (tl : TE) : TI := fun σ H R => tl σ H fun x H1 => ∃ a, x = .ref a ∧ (((∃ xs, SqL K H1 a xs) ∧ R (Itl K a) H1) ∨ ((∃ xs, SqT K H1 a xs) ∧ R (Itt K a) H1))
theorem pi_seq {tg l : Expr} {tl : TE} (hl : PE X l tl) : PI X tg l (iSeq X.K tl) := by
  refine ⟨fun pins s σ H R I h => ?_⟩
  refine thn (hl.run pins s σ H _ I h) fun v s1 ⟨x, H1, I1, r1, q1⟩ => ?_
  obtain ⟨a, e, q⟩ := q1
  subst e
  cases r1
  rcases q with ⟨⟨xs, hq⟩, q⟩ | ⟨⟨xs, hq⟩, q⟩
  · obtain ⟨its, rv, p, hz⟩ := I1.list hq
    refine wpAny_pyIter_list p.isList ?_
    refine ⟨s1.heap.objs.size, [s1.heap.objs.size], _, _, H1, rfl, I1.kept (t' := s1.toks) fun b o e => Heap.get?_push_of_some _ e, turn_list a _, ⟨_, Heap.get?_push_size _ rfl, rfl, rfl⟩, fun b hb => ?_, q⟩
    have e : b = s1.heap.objs.size := by simpa using hb
    subst e
    exact I1.fpOk (Nat.le_refl _) (I1.hok.fresh (Nat.le_refl _))
  · obtain ⟨its, rv, p, hz⟩ := I1.tuple hq
    refine wpAny_pyIter_tuple (show s1.heap.IsTuple a its.toArray from p) ?_
    refine ⟨s1.heap.objs.size, [s1.heap.objs.size], _, _, H1, rfl, I1.kept (t' := s1.toks) fun b o e => Heap.get?_push_of_some _ e, turn_tuple a _, ⟨_, Heap.get?_push_size _ rfl, rfl, rfl⟩, fun b hb => ?_, q⟩
    have e : b = s1.heap.objs.size := by simpa using hb
    subst e
    exact I1.fpOk (Nat.le_refl _) (I1.hok.fresh (Nat.le_refl _))
end
/-- isinstance(e, (C, ..)), e the exception that the suite holds, the tuple just laid -/
def rIsET (K : Frag) (D a : Addr) : List V → Hp → VK → Prop := fun xs H Q => ∃ (tp : Addr) (cs : List V) (us : List Value) (b : Bool), xs = [.ref a, .ref tp] ∧ H tp = some (.tup cs) ∧ Paired ClsV cs us ∧ PySem.W.kitAny K (.ref D) us = some b ∧ Q (.bl b) H
theorem c_isET {X : Cx} {a D : Addr} {oe : Obj} {pn : List (Addr × Obj)} (C : ExcC X.K D) (hz : Zc (.ref D) none oe) (hf : ∃ vs, oe.data = .fields vs) : CallR (X.suite a ((a, oe) :: pn)) (.builtin "isinstance") (rIsET X.K D a) := by
  intro pins s σ H xs us Q I r h
  obtain ⟨tp, cs, ws, b, rfl, hT, k, e, q⟩ := h
  obtain ⟨u1, u2, rfl, r1, r2⟩ := vals2 r
  cases (show u1 = Value.ref a from r1)
  cases (show u2 = Value.ref tp from r2)
  obtain ⟨_, its, rv, o, h1, h2, n, h3⟩ := (show ObjOk X.prog X.w H s.heap tp (.tup cs) from I.hok tp _ hT)
  have e3 := ClsV.all k rv
  subst e3
  obtain ⟨hget, _⟩ := I.pin (a, oe) (List.mem_append.mpr (.inl List.mem_cons_self))
  obtain ⟨vs, hv⟩ := hf
  have J : PySem.W.InstAt s.heap a oe D none := by
    obtain ⟨oc, od, oda, osl⟩ := oe
    obtain ⟨h1, h2⟩ := hz
    dsimp only at h1 h2 hv
    subst h1 h2 hv
    exact ⟨hget, rfl, rfl, trivial⟩
  obtain ⟨oc, od, oda, osl⟩ := o
  dsimp only at h2 h3
  subst h2 h3
  exact PySem.W.kia_tup (PySem.W.handS_kitx_exc C.hg C.hk C.hs C.hd C.ha C.hn C.ht C.hm) I.kIn J h1 e (fun z => nomatch z) fun tk => ⟨.bl b, H, I.kept (t' := tk) fun _ _ z => z, rfl, q⟩
/-! ### their values over data -/
section
variable {K : Frag} {ρ : En} {ta tb tc te : TE} {tr : TA} {d d1 d2 : D} {ds es : List D}
theorem v_sub {i j : Int} (ha : Ev K ta ρ (.int i)) (hb : Ev K tb ρ (.int j)) : Ev K (tOp rSub ta tb) ρ (.int (i - j)) := ev_I0 ha hb fun R => .int _
theorem v_mul {i j : Int} (ha : Ev K ta ρ (.int i)) (hb : Ev K tb ρ (.int j)) (hc : CMulB i j) : Ev K (tOp rMul ta tb) ρ (.int (i * j)) := ev_I ha hb hc fun R => .int _
theorem v_fdiv {i j : Int} (ha : Ev K ta ρ (.int i)) (hb : Ev K tb ρ (.int j)) (hc : CDivX i j) : Ev K (tOp rFdiv ta tb) ρ (.int (i.fdiv j)) := ev_I ha hb hc fun R => .int _
theorem v_div {i j : Int} (ha : Ev K ta ρ (.int i)) (hb : Ev K tb ρ (.int j)) (h0 : 0 < j) (hc : j.natAbs.log2 < 9000) : Ev K (tOp rFdiv ta tb) ρ (.int (i / j)) := ev_I ha hb ⟨by omega, hc⟩ fun R => by
  rw [Int.fdiv_eq_ediv_of_nonneg i (by omega)]
  exact .int _
theorem v_emod {i j : Int} (ha : Ev K ta ρ (.int i)) (hb : Ev K tb ρ (.int j)) (h0 : 0 < j) : Ev K (tOp rMod ta tb) ρ (.int (i % j)) := ev_I ha hb (by omega) fun R => by
  rw [Int.fmod_eq_emod_of_nonneg i (by omega)]
  exact .int _
theorem v_pow {i j : Int} (ha : Ev K ta ρ (.int i)) (hb : Ev K tb ρ (.int j)) (hc : CPowW i j) : Ev K (tOp rPow ta tb) ρ (.int (i ^ j.toNat)) := ev_I ha hb hc fun R => .int _
theorem v_neg {i : Int} (ha : Ev K ta ρ (.int i)) : Ev K (tUn rNeg ta) ρ (.int (-i)) := ev_neg ha
theorem v_lt {i j : Int} (ha : Ev K ta ρ (.int i)) (hb : Ev K tb ρ (.int j)) : Ev K (tOp rLt ta tb) ρ (.bool (decide (i < j))) := ev_I0 ha hb fun R => .bl _
theorem v_le {i j : Int} (ha : Ev K ta ρ (.int i)) (hb : Ev K tb ρ (.int j)) : Ev K (tOp rLe ta tb) ρ (.bool (decide (i ≤ j))) := ev_I0 ha hb fun R => .bl _
theorem v_gt {i j : Int} (ha : Ev K ta ρ (.int i)) (hb : Ev K tb ρ (.int j)) : Ev K (tOp rGt ta tb) ρ (.bool (decide (j < i))) := ev_I0 ha hb fun R => .bl _
theorem v_ge {i j : Int} (ha : Ev K ta ρ (.int i)) (hb : Ev K tb ρ (.int j)) : Ev K (tOp rGe ta tb) ρ (.bool (decide (j ≤ i))) := ev_I0 ha hb fun R => .bl _
theorem v_isN (ha : Ev K ta ρ d) : Ev K (tOp rIsNn ta (tC .non)) ρ (.bool (isNone d)) := ev_isN ha
theorem v_notN (ha : Ev K ta ρ d) : Ev K (tOp rNotNn ta (tC .non)) ρ (.bool (!isNone d)) := ev_notN ha
theorem v_call1 {r : List V → Hp → VK → Prop} (ha : Ev K ta ρ d1) (hr : ∀ R H x, Same R H → Dp K R x d1 → ∀ Q : VK, (∀ v R' H', Grow R H R' H' → Dp K R' v d → Q v H') → r [x] H Q) : Ev K (tCB r (tCons ta tNil)) ρ d :=
  fun R0 H0 R σ H a Q q => ha R0 H0 R σ H a _ fun x R1 H1 g1 dx => hr R1 H1 x g1.sub dx Q fun v R2 H2 g2 dv => q v R2 H2 (g1.trans g2) dv
theorem v_abs {i : Int} (ha : Ev K ta ρ (.int i)) : Ev K (tCB rAbs (tCons ta tNil)) ρ (.int (i.natAbs : Int)) := v_call1 ha fun R H x s dx Q q => by
  cases dx
  refine ⟨i, rfl, ?_⟩
  have e : (if i < 0 then -i else i) = (i.natAbs : Int) := by split <;> omega
  rw [e]
  exact q _ R H (Grow.refl s) (.int _)
theorem v_call2 {r : List V → Hp → VK → Prop} (ha : Ev K ta ρ d1) (hb : Ev K tb ρ d2) (hr : ∀ R H x y, Same R H → Dp K R x d1 → Dp K R y d2 → ∀ Q : VK, (∀ v R' H', Grow R H R' H' → Dp K R' v d → Q v H') → r [x, y] H Q) : Ev K (tCB r (tCons ta (tCons tb tNil))) ρ d :=
  fun R0 H0 R σ H a Q q => ha R0 H0 R σ H a _ fun x R1 H1 g1 dx => hb R0 H0 R1 σ H1 (a.grow g1) _ fun y R2 H2 g2 dy => hr R2 H2 x y g2.sub (dp_mono g2.rd _ _ dx) dy Q fun v R3 H3 g3 dv => q v R3 H3 ((g1.trans g2).trans g3) dv
theorem v_max2 {i j : Int} (ha : Ev K ta ρ (.int i)) (hb : Ev K tb ρ (.int j)) : Ev K (tCB rMx2 (tCons ta (tCons tb tNil))) ρ (.int (max i j)) := v_call2 ha hb fun R H x y s dx dy Q q => by
  cases dx; cases dy
  refine ⟨i, j, rfl, ?_⟩
  have e : (if j > i then j else i) = max i j := by split <;> omega
  rw [e]
  exact q _ R H (Grow.refl s) (.int _)
theorem v_min2 {i j : Int} (ha : Ev K ta ρ (.int i)) (hb : Ev K tb ρ (.int j)) : Ev K (tCB rMn2 (tCons ta (tCons tb tNil))) ρ (.int (min i j)) := v_call2 ha hb fun R H x y s dx dy Q q => by
  cases dx; cases dy
  refine ⟨i, j, rfl, ?_⟩
  have e : (if j < i then j else i) = min i j := by split <;> omega
  rw [e]
  exact q _ R H (Grow.refl s) (.int _)
theorem f_listL (ha : EvL K ta ρ ds) : EvF K (tCB (rLst K) (tCons ta tNil)) ρ ds := fun R0 H0 R σ H a Q q => ha R0 H0 R σ H a _ fun p vs R1 H1 g1 sq dx =>
  ⟨p, vs, rfl, .inl sq, fun l hl => q l vs R1 _ (g1.trans (Grow.hide g1.sub hl)) (g1.hp.free hl) (g1.sub.free hl) upd_same dx⟩
theorem f_listT (ha : Ev K ta ρ (.tuple ds)) : EvF K (tCB (rLst K) (tCons ta tNil)) ρ ds := fun R0 H0 R σ H a Q q => ha R0 H0 R σ H a _ fun x R1 H1 g1 dx => by
  cases dx with
  | tup hs hall => exact ⟨_, _, rfl, .inr (sqt_mono g1.sub hs), fun l hl => q l _ R1 _ (g1.trans (Grow.hide g1.sub hl)) (g1.hp.free hl) (g1.sub.free hl) upd_same hall⟩
theorem v_tupleL (ha : EvL K ta ρ ds) : Ev K (tCB (rTpl K) (tCons ta tNil)) ρ (.tuple ds) := fun R0 H0 R σ H a Q q => ha R0 H0 R σ H a _ fun p vs R1 H1 g1 sq dx =>
  ⟨p, vs, rfl, .inl ⟨sq, fun l hl => q _ _ _ (g1.trans (Grow.alloc g1.sub hl)) (.tup (SqT.of upd_same) (dpa_mono (Grow.alloc g1.sub hl).rd _ _ dx))⟩⟩
theorem v_tupleT (ha : Ev K ta ρ (.tuple ds)) : Ev K (tCB (rTpl K) (tCons ta tNil)) ρ (.tuple ds) := v_call1 ha fun R H x s dx Q q => by
  cases dx with
  | tup hs hall => exact ⟨_, _, rfl, .inr ⟨sqt_mono s hs, q _ R H (Grow.refl s) (.tup hs hall)⟩⟩
/-! ### isinstance -/
def tyName : D → String
  | .none => "NoneType"
  | .bool _ => "bool"
  | .int _ => "int"
  | .str _ => "str"
  | .list _ => "list"
  | .tuple _ => "tuple"
  | .dict _ => "dict"
theorem dp_ty {R H : Hp} {x : V} (s : Same R H) (h : Dp K R x d) : TyX K H x (.type (tyName d)) := by
  cases h with
  | non => exact .base .non
  | bl b => exact .base (.bl b)
  | int i => exact .base (.int i)
  | str x => exact .base (.str x)
  | lst hs ha =>
    rcases s.seq hs with (h | ⟨o, h⟩) | ⟨o, its, n, h, hc, _⟩
    · exact .base (.lst h)
    · exact .base (.frz h)
    · exact .kList h hc
  | tup hs ha =>
    rcases sqt_mono s hs with (h | ⟨o, h⟩) | ⟨o, its, n, h, hc, _⟩
    · exact .base (.tup h)
    · exact .fTuple h
    · exact .kTuple h hc
theorem v_isi {T : String} {b : Bool} (ha : Ev K ta ρ d) (h : kitB (tyName d) T = some b) : Ev K (tCB (rIsi K) (tCons ta (tCons (tC (.ty T)) tNil))) ρ (.bool b) := fun R0 H0 R σ H a Q q => ha R0 H0 R σ H a _ fun x R1 H1 g1 dx =>
  ⟨x, .ty T, _, _, b, rfl, .ty T, dp_ty g1.sub dx, kit_ty h, q _ R1 H1 g1 (.bl b)⟩
/-! ### slices -/
def cutD (ds : List D) (lo hi : Option Int) : List D := (ds.drop (HT.sIx ds.length 0 lo)).take (HT.sIx ds.length ds.length hi - HT.sIx ds.length 0 lo)
theorem o_none : EvO K tNoPart ρ none := fun R0 H0 R σ H a Q q => q R H (Grow.refl a.gr.sub)
theorem o_some {i : Int} (h : Ev K te ρ (.int i)) : EvO K (tPart te) ρ (some i) := fun R0 H0 R σ H a Q q => h R0 H0 R σ H a _ fun v R1 H1 g1 dv => by
  cases dv
  exact ⟨i, rfl, q R1 H1 g1⟩
end
/-! ### list comprehensions -/
theorem wipe_get (σ : L2.St) (n : Nat) : ∀ vs : List Nat, (wipe σ vs)[n]? = if n ∈ vs then σ[n]?.map (fun _ => none) else σ[n]?
  | [] => by simp [wipe]
  | v :: vs => by
    unfold wipe
    by_cases e : v = n
    · subst e
      rw [if_pos List.mem_cons_self]
      by_cases hl : v < (wipe σ vs).length
      · rw [List.getElem?_set_self hl]
        rw [wipe_length] at hl
        rw [List.getElem?_eq_getElem hl]
        rfl
      · rw [List.getElem?_eq_none (by rw [List.length_set]; omega)]
        rw [wipe_length] at hl
        rw [List.getElem?_eq_none (by omega)]
        rfl
    · rw [List.getElem?_set_ne e, wipe_get σ n vs]
      by_cases h : n ∈ vs
      · rw [if_pos h, if_pos (List.mem_cons_of_mem _ h)]
      · rw [if_neg h, if_neg (by
          intro z
          rcases List.mem_cons.mp z with z | z
          · exact e z.symm
          · exact h z)]
theorem wipe_set {σ : L2.St} {i : Nat} {v : Option V} {vs : List Nat} (h : i ∈ vs) : wipe (σ.set i v) vs = wipe σ vs := by
  apply List.ext_getElem?
  intro n
  rw [wipe_get, wipe_get]
  by_cases e : n ∈ vs
  · rw [if_pos e, if_pos e]
    by_cases hi : i = n
    · subst hi
      by_cases hl : i < σ.length
      · rw [List.getElem?_set_self hl, List.getElem?_eq_getElem hl]
        rfl
      · rw [List.getElem?_eq_none (by rw [List.length_set]; omega), List.getElem?_eq_none (by omega)]
    · rw [List.getElem?_set_ne hi]
  · rw [if_neg e, if_neg e, List.getElem?_set_ne (fun z => e (by rw [← z]; exact h))]
theorem wipe_wipe {σ : L2.St} {vs : List Nat} : wipe (wipe σ vs) vs = wipe σ vs := by
  apply List.ext_getElem?
  intro n
  rw [wipe_get, wipe_get]
  by_cases e : n ∈ vs
  · rw [if_pos e, if_pos e, Option.map_map]
    rfl
  · rw [if_neg e, if_neg e]
def wipeE (ρ : En) : List Nat → En
  | [] => ρ
  | v :: vs => (wipeE ρ vs).set v .un
section
variable {K : Frag} {ρ : En} {te : TE} {tt : TT} {g : TG} {d d1 d2 : D} {ds es : List D}
theorem At.wipe {R0 H0 R H : Hp} {σ : L2.St} (a : At K R0 H0 R ρ σ H) : ∀ vs : List Nat, At K R0 H0 R (wipeE ρ vs) (L2.wipe σ vs) H
  | [] => a
  | v :: vs => (At.wipe a vs).set_un
/-- the target's names are the comprehension's own -/
def Gw (g : TG) (vs : List Nat) : Prop := ∀ v σ H (Q : L2.St → Hp → Prop), L2.wipe σ vs = σ → g v σ H (fun σ' H' => L2.wipe σ' vs = σ → Q σ' H') → g v σ H (fun σ' H' => L2.wipe σ' vs = σ ∧ Q σ' H')
theorem gw_name {i : Nat} {vs : List Nat} (h : i ∈ vs) : Gw (gName i) vs := fun v σ H Q e q => by
  have z : L2.wipe (σ.set i (some v)) vs = σ := (wipe_set h).trans e
  exact ⟨z, q z⟩
theorem et_yes : EvT K tYes ρ true := fun R0 H0 R σ H a Q q => q R H (Grow.refl a.gr.sub)
end
/-! ### try .. except C as n -/
def tTryAs (K : Frag) (c : Value) (i : Nat) (tb : WX → TS) (ts : Addr → Value → Option Addr → TS) (Wout : WX) : TS := fun D σ H => tb (wAs K c i ts Wout D) D σ H
def tTry (K : Frag) (c : Value) (tb : WX → TS) (ts : Addr → Value → Option Addr → TS) (Wout : WX) : TS := fun D σ H => tb (wOnly K c ts Wout D) D σ H
section
variable {K : Frag} {ρ : En} {W : WX} {ex : Value → En → Prop} {k : Ko} {c : Value} {i : Nat} {tb : WX → TS} {ts : Addr → Value → Option Addr → TS}
/-- what the body may let out -/
def exAs (K : Frag) (W : WX) (ex : Value → En → Prop) (k : Ko) (c : Value) (i : Nat) (ts : Addr → Value → Option Addr → TS) : Value → En → Prop := fun cls ρ' =>
  ∃ b, PySem.W.exmOne K cls c = some b ∧ (b = true → ∀ a, Sd K W ex (ts a cls none) (ρ'.set i (.raw (.ref a))) { nx := fun r => k.nx (r.set i .un), rt := k.rt, rl := k.rl, bk := fun r => k.bk (r.set i .un), ct := fun r => k.ct (r.set i .un), rg := k.rg }) ∧ (b = false → ex cls ρ')
theorem sd_tryAs (h : ∀ W', Sd K W' (exAs K W ex k c i ts) (tb W') ρ k) : Sd K W ex (tTryAs K c i tb ts W) ρ k := fun R0 H0 ok R σ H a D m => by
  refine h _ R0 H0 (fun cls ρ' R' σ' H' ⟨b, hb, h1, h2⟩ a' => ⟨b, hb, fun e x _ => ?_, fun e => ok cls ρ' R' σ' H' (h2 e) a'⟩) R σ H a D m
  exact h1 e x R0 H0 ok R' _ H' (a'.set_raw (v := .ref x)) _ ⟨fun r R2 σ2 H2 q a2 => m.nx _ R2 _ H2 q (a2.set_un (v := none)), m.rt, m.rl, fun r R2 σ2 H2 q a2 => m.bk _ R2 _ H2 q (a2.set_un (v := none)), fun r R2 σ2 H2 q a2 => m.ct _ R2 _ H2 q (a2.set_un (v := none)), m.rg⟩
def exOnly (K : Frag) (W : WX) (ex : Value → En → Prop) (k : Ko) (c : Value) (ts : Addr → Value → Option Addr → TS) : Value → En → Prop := fun cls ρ' =>
  ∃ b, PySem.W.exmOne K cls c = some b ∧ (b = true → ∀ a, Sd K W ex (ts a cls none) ρ' k) ∧ (b = false → ex cls ρ')
theorem sd_try (h : ∀ W', Sd K W' (exOnly K W ex k c ts) (tb W') ρ k) : Sd K W ex (tTry K c tb ts W) ρ k := fun R0 H0 ok R σ H a D m => by
  refine h _ R0 H0 (fun cls ρ' R' σ' H' ⟨b, hb, h1, h2⟩ a' => ⟨b, hb, fun e x _ => ?_, fun e => ok cls ρ' R' σ' H' (h2 e) a'⟩) R σ H a D m
  exact h1 e x R0 H0 ok R' _ H' a' _ m
end
end Pu
set_option maxRecDepth 100000
namespace Pu
open PySem PySem.Spec PyProof.Rows L2
/-! ### rules that take a value of any of the forms; K is told -/
section
variable {X : Cx} {K : Frag}
section
open PyProof
/-- two lists, whatever they are, one behind the other -/
theorem meets_cat (l b : Addr) (xs ys : Array Value) (n m : Nat) (sl sl2 : Array (Option Value)) (hsz : xs.size + ys.size ≤ sizeLine) :
    PySem.Meets (Builtin.«list.__add__» ⟨[.ref l, .ref b], []⟩) (fun _ R s => (s.heap.get? l = some ⟨.type "list", none, .seq xs n, sl⟩ ∧ s.heap.get? b = some ⟨.type "list", none, .seq ys m, sl2⟩) ∧
      R (.ok (.ret (Value.ref s.heap.objs.size))) { s with heap := s.heap.push { cls := Value.type "list", data := Data.seq (xs ++ ys) }, toks := s.toks }) :=
  .of_wp fun prog w A R s z => by
    obtain ⟨hp, g, d, tk, os⟩ := s
    obtain ⟨⟨h1, h2⟩, z⟩ := z
    have q1 := sub_list_list
    have q2 := sub_list_tuple
    wp_walk using wpAny_loadPart' h1, wpAny_loadPart' h2
    exact ⟨_, rfl, z⟩
theorem plain_cat {prog : Program} {w : World} {A : Around} {E : Value → Shared → Prop} {s : Shared} {l b : Addr} {xs ys : Array Value} {Q : Value → Shared → Prop} (h1 : PlainL s.heap l xs) (h2 : PlainL s.heap b ys) (hsz : xs.size + ys.size ≤ sizeLine)
    (h : Q (.ref s.heap.objs.size) { s with heap := s.heap.push { cls := .type "list", data := .seq (xs ++ ys) } }) : wpAny (model prog w) A (binaryOp .Add (.ref l) (.ref b)) Q E s := by
  obtain ⟨⟨c, d, dt, sl⟩, n, e, rfl, rfl, rfl⟩ := h1
  obtain ⟨⟨c, d, dt, sl2⟩, m, e2, rfl, rfl, rfl⟩ := h2
  exact concat_meets ⟨_, e, rfl⟩ ⟨_, e2, rfl⟩ noFill_list_add seq_list_add F.slot_list_add F.entry_list_add (F.args_list_add_2 _ _) (meets_cat l b xs ys n m sl sl2 hsz) ⟨⟨e, e2⟩, h⟩
def rCatL (K : Frag) : R2 := fun x y H Q => ∃ l b xs zs, x = .ref l ∧ y = .ref b ∧ SqL K H l xs ∧ SqL K H b zs ∧ xs.length + zs.length ≤ sizeLine ∧ ∀ p, H p = none → Q (.ref p) (upd H p (.lst (xs ++ zs)))
theorem op_catL {X : Cx} : OpR X (binaryOp .Add) (rCatL X.K) := by
  intro pins s σ H x y v u Q I rx ry h
  obtain ⟨l, b, xs, zs, rfl, rfl, hH, hB, hz, q⟩ := h
  cases rx
  cases ry
  obtain ⟨its, r, e, _⟩ := I.list hH
  obtain ⟨its2, r2, e2, _⟩ := I.list hB
  have n1 := r.length
  have n2 := r2.length
  refine plain_cat e e2 (by rw [List.size_toArray, List.size_toArray]; omega) ?_
  rw [show its.toArray ++ its2.toArray = (its ++ its2).toArray by simp]
  exact ⟨.ref _, _, I.lnew (t' := s.toks) (r.append r2) (by rw [List.length_append]; omega), rfl, q _ I.fresh⟩
end
def rCatA (K : Frag) : R2 := fun x y H Q => rAdd x y H Q ∨ rCatL K x y H Q ∨ rCatT K x y H Q ∨ (∃ i j, x = .str i ∧ y = .str j ∧ i.length + j.length ≤ sizeLine ∧ Q (.str (i ++ j)) H)
theorem OpR_or {f : Value → Value → Sem Value} {r r' : R2} (h : OpR X f r) (h' : OpR X f r') : OpR X f (fun x y H Q => r x y H Q ∨ r' x y H Q) := by
  intro pins s σ H x y v u Q I rx ry q
  rcases q with q | q
  · exact h pins s σ H x y v u Q I rx ry q
  · exact h' pins s σ H x y v u Q I rx ry q
theorem o_plus (hK : X.K = K := by rfl) : OpR X (binaryOp .Add) (rCatA K) := by
  subst hK
  exact OpR_or o_add (OpR_or op_catL (OpR_or op_catT op_add_str))
theorem i_any (hK : X.K = K := by rfl) : IxR X (rIx K) := by subst hK; exact ix_seq
def rLenA (K : Frag) : List V → Hp → VK → Prop := fun xs H Q => rLen K xs H Q ∨ (∃ z, xs = [.str z] ∧ z.length ≤ sizeLine ∧ Q (.int z.length) H)
theorem c_lenA (hK : X.K = K := by rfl) : CallR X (.builtin "len") (rLenA K) := by
  subst hK
  exact CallR.or c_len call_len_str
theorem c_listA (hK : X.K = K := by rfl) : CallR X (.type "list") (rLst K) := by subst hK; exact c_list
theorem c_tupleA (hK : X.K = K := by rfl) : CallR X (.type "tuple") (rTpl K) := by subst hK; exact c_tuple
theorem c_isiA (hK : X.K = K := by rfl) : CallR X (.builtin "isinstance") (rIsi K) := by subst hK; exact call_isi
theorem o_eq (hu : X.A.units + 64 < cLine) (hK : X.K = K := by rfl) : OpR X (compareOp .Eq) (rEqD K) := by subst hK; exact op_eqD hu
theorem o_ne (hu : X.A.units + 64 < cLine) (hK : X.K = K := by rfl) : OpR X (compareOp .NotEq) (rNeD K) := by subst hK; exact op_neD hu
def rSlA (K : Frag) : V → Option Int → Option Int → Hp → VK → Prop := fun x lo hi H Q => rSlL K x lo hi H Q ∨ rSlT K x lo hi H Q ∨ rSlS x lo hi H Q
theorem s_any (hK : X.K = K := by rfl) : SlR X (rSlA K) := by
  subst hK
  exact sl_list.or (sl_tup.or sl_str)
theorem w_seq {tg l : Expr} {tl : TE} (hl : PE X l tl) (hK : X.K = K := by rfl) : PI X tg l (iSeq K tl) := by subst hK; exact pi_seq hl
theorem g_tup {es : List Expr} {kk : Nat} {t : TGs} {n : Nat} {pos : Pos} (hc : X.calm = true) (h : PGs X es t) (hn : (assignEach es X.env).length = n := by rfl) (hst : (assignEach es X.env).findIdx? (·.1) = none := by rfl) (hK : X.K = K := by rfl) : PG X (.Tuple es kk pos) (gTup K n t) := by
  subst hK
  exact pg_tup hc h hn hst
theorem b_m {T id : String} {r : V → List V → Hp → VK → Prop} {o e : Expr} {es : List Expr} {name : Str} {to : TE} {t : TA} {apos cpos : Pos} (pa : PlainAttrs T) (slot : Slot T name id) (hty : typeOf (.builtin id) = pure (.type "method_descriptor")) (hm : MtR X id r) (ho : PE X o to) (ha : PA X (e :: es) t)
    (hbase : attributeBase o name X.env (eval o X.env) = eval o X.env := by rfl)
    (hfew : ((backTo cpos (starEach (e :: es) X.env)).all (fun x => !x.1) && (backToKw cpos (keywordEach [] X.env)).all (fun x => x.1.isSome)
      && decide ((e :: es).length + ([] : List Keyword).length + (if ([] : List Keyword).isEmpty then 0 else 1) < 30)) = true := by rfl)
    (hline : (apos.endLine == cpos.line) = true := by rfl) (hs : starEach (e :: es) X.env = (false, eval e X.env) :: starEach es X.env := by rfl) (hplain : (backTo cpos (starEach es X.env)).any (·.1) = false := by rfl) (hK : X.K = K := by rfl) :
    PE X (.Call (.Attribute o name apos) (e :: es) [] cpos) (tBM K T r to t) := by
  subst hK
  exact pe_bm pa slot hty hm ho ha hbase hfew hline hs hplain
/-- x in t, a tuple or a list of flat things -/
theorem o_in (hK : X.K = K := by rfl) : OpR X (compareOp .In) (rIn K false) := by subst hK; exact op_in_seq
theorem o_notIn (hK : X.K = K := by rfl) : OpR X (compareOp .NotIn) (rIn K true) := by subst hK; exact op_notIn_seq
theorem t_tryAs {x n : Str} {c : Value} {i : Nat} {body suite : List Stmt} {b₀ : Stmt} {np pos pos' : Pos} {tb : WX → TS} {ts : Addr → Value → Option Addr → TS} {Wout : WX} (hs : X.stack = X.env :: X.outer) (hf : X.env.frame = some X.env.locals) (hN : X.N.Nodup) (hi : X.N[i]? = some n) (hln : X.env.kindOf n = some .local) (hc : Names X x c) (tk : Takes X Wout)
    (hb : ∀ (W : WX) (pn : List (Addr × Obj)) (xe : Value → Shared → Prop), Takes (X.tr pn xe) W → PassesOwn (model X.prog X.w) X.A X.env xe → PSs (X.tr pn xe) body (tb W))
    (hsu : ∀ (a : Addr) (oe : Obj) (cls : Value) (d : Option Addr) (pn : List (Addr × Obj)), Zc cls d oe → (∃ vs, oe.data = .fields vs) → PSs (X.suite a ((a, oe) :: pn)) (b₀ :: suite) (ts a cls d)) (hK : X.K = K := by rfl) :
    PS X (.Try body [.ExceptHandler (some (.Name x np)) (some n) (b₀ :: suite) pos'] [] [] pos) (tTryAs K c i tb ts Wout) := by
  subst hK
  exact ps_try_as hs hf hN hi hln hc tk hb hsu
/-- isinstance of the exception in hand: one class, or a tuple of classes -/
def rIsX (K : Frag) (cls : Value) (d : Option Addr) (a : Addr) : List V → Hp → VK → Prop := fun xs H Q => ∃ D, cls = .ref D ∧ d = none ∧ ExcC K D ∧ (rIsE K D a xs H Q ∨ rIsET K D a xs H Q)
theorem c_isX {a : Addr} {oe : Obj} {cls : Value} {d : Option Addr} {pn : List (Addr × Obj)} (hz : Zc cls d oe) (hf : ∃ vs, oe.data = .fields vs) (hK : X.K = K := by rfl) : CallR (X.suite a ((a, oe) :: pn)) (.builtin "isinstance") (rIsX K cls d a) := by
  subst hK
  intro pins s σ H xs us Q I r h
  obtain ⟨D, rfl, rfl, C, q | q⟩ := h
  · exact call_isE C hz hf pins s σ H xs us Q I r q
  · exact c_isET C hz hf pins s σ H xs us Q I r q
end
/-! ### defs -/
structure FnAt (K : Frag) (mg : Str → Option Value) (x : Str) (st : Stmt) (ps : List Str) (f : Addr) : Prop where
  g : mg x = some (.ref f)
  fn : ∃ fd, Fun K x x st f fd ∧ Binds K fd ps []
/-- the def called x keeps the promise sp at level k -/
def Ok (P : Program) (w : World) (K : Frag) (mg : Str → Option Value) (base : Heap) (k : Nat) (x : Str) (ps : List Str) (sp : Sp) : Prop :=
  ∃ f, mg x = some (.ref f) ∧ PySem.W.keepIn K (.ref f) = true ∧ ∃ fd, Binds K fd ps [] ∧ FnOk P w K mg base (L2.CX P w) k f fd ps sp
section
variable {P : Program} {w : World} {K : Frag} {mg : Str → Option Value} {base : Heap}
theorem FnAt.ok {x : Str} {st : Stmt} {ps N : List Str} {f : Addr} {k : Nat} (T : FnAt K mg x st ps f) (S : FnScope N ps (defScope st)) (c : Ct) (hl : ∀ ds k, c ds k → ds.length = ps.length)
    (hbody : ∀ (cdv : Value) (A : Around) (outer : List Env) (s : Shared) (H : Hp) (vs : List V) (Q : VK) (E : XK), Room k (A.deeper (envOfC x (defScope st) s.heap.objs.size f cdv)) → spc K c vs H Q E →
      ∃ t, PSs (cxOf (L2.CX P w) P w K mg base N x (defScope st) f cdv A outer s H E) (defBody st) t ∧ t { nx := fun _ H' => Q .non H', rt := Q } (L2.start N vs) H) : Ok P w K mg base (k + 1) x ps (spc K c) := by
  obtain ⟨g, fd, F, b⟩ := T
  exact ⟨f, g, F.kp, fd, b, F.okX S (spc_len hl) hbody⟩
/-- the law itself: nothing leaves it -/
theorem FnAt.law {x : Str} {st : Stmt} {ps N : List Str} {f : Addr} {k : Nat} {fd : FuncData} (F : Fun K x x st f fd) (S : FnScope N ps (defScope st)) (c : Ct) (hl : ∀ ds k, c ds k → ds.length = ps.length)
    (hbody : ∀ (cdv : Value) (A : Around) (outer : List Env) (s : Shared) (H : Hp) (vs : List V) (Q : VK) (E : XK), Room k (A.deeper (envOfC x (defScope st) s.heap.objs.size f cdv)) → spc K c vs H Q E →
      ∃ t, PSs (cxOf CX0 P w K mg base N x (defScope st) f cdv A outer s H E).nox (defBody st) t ∧ t { nx := fun _ H' => Q .non H', rt := Q } (L2.start N vs) H) : FnOk P w K mg base CX0 (k + 1) f fd ps (spc K c) :=
  F.ok S (spc_len hl) hbody
end
section
variable {X : Cx} {k : Nat} {x : Str} {ps : List Str} {sp : Sp} {W : WX} {p pos : Pos} {e : Expr} {es : List Expr} {ta : TA}
theorem pe_fn (o : Ok X.prog X.w X.K X.mg X.base k x ps sp) (hr : Room k X.A) (tk : Takes X W) (hg : Gl X x) (ha : PA X (e :: es) ta)
    (hdb : (x == ("__debug__" : Str)) = false := by decide) (he : starEach (e :: es) X.env = (false, eval e X.env) :: starEach es X.env := by rfl) (hpl : (backTo pos (starEach es X.env)).any (·.1) = false := by rfl) :
    PE X (.Call (.Name x p) (e :: es) [] pos) (tCallS sp (WE W) ta) := by
  obtain ⟨f, g, kp, fd, b, F⟩ := o
  exact pe_callS F hr hg g kp b (fun σ => passAt tk σ) ha hdb he hpl
end
/-- the body of the law -/
theorem body_law {K : Frag} {c : Ct} {vs : List V} {H : Hp} {Q : VK} {E : XK} {N : List Str} {t : TS} (h : spc K c vs H Q E)
    (hs : ∀ (ds : List D) (k : Kc), c ds k → Sd K (fun _ _ _ _ => False) (fun _ _ => False) t (ds.map Sl.val ++ List.replicate (N.length - ds.length) Sl.un) { nx := fun _ => k.rt .none, rt := k.rt, rl := k.rl }) :
    t { nx := fun _ H' => Q .non H', rt := Q } (L2.start N vs) H := by
  obtain ⟨R, ds, k, s, hd, hc, q1, q2, q3⟩ := h
  refine hs ds k hc R H (fun x ρ R' σ H' hx a => hx.elim) R _ H (at_start s hd) _ ⟨fun ρ R' σ H' hr a => q1 _ _ R' H' hr a.gr .non, fun d v R' H' hr g dv => q1 d v R' H' hr g dv, fun es p vs' R' H' hr g hn hr' hp dv => q2 es p vs' R' H' hr g hn hr' hp dv, fun _ _ _ _ q => q.elim, fun _ _ _ _ q => q.elim, fun _ _ _ _ _ q => q.elim⟩
/-- what the law is to answer -/
def cLaw : Ct := fun ds k => ∃ ns : List Int, ds = [.list (ns.map PyData.int)] ∧ ns.length ≤ 63 ∧ (∀ n ∈ ns, Builtin.Int.intBits n ≤ 1048576) ∧ k.rt (.bool true)
theorem cLaw_len : ∀ ds k, cLaw ds k → ds.length = (["script"] : List Str).length := fun ds k ⟨_, e, _⟩ => by rw [e]; rfl
/-- an if whose two ways come together -/
theorem sd_ifJ {K : Frag} {W : WX} {ex : Value → En → Prop} {tt : TT} {t u : TS} {ρ : En} {k : Ko} {b : Bool} (Pj : En → Prop) (hc : EvT K tt ρ b) (h1 : b = true → Sd K W ex t ρ { k with nx := Pj }) (h2 : b = false → Sd K W ex u ρ { k with nx := Pj }) (hP : ∀ ρ', Pj ρ' → k.nx ρ') : Sd K W ex (tIfS tt t u) ρ k :=
  Sd.imp (k := { k with nx := Pj }) (sd_ifS hc h1 h2) hP (fun _ h => h) (fun _ h => h) (fun _ h => h) (fun _ h => h)
/-! ### values of these readings -/
section
variable {K : Frag} {ρ : En} {ta tb tc te : TE} {tr : TA} {d d1 d2 : D} {ds es : List D} {i : Nat}
/-- to a list that stands at a tracked place -/
def EvM (K : Frag) (te : TE) (ρ : En) (ds : List D) : Prop := ∀ R0 H0 R σ H, At K R0 H0 R ρ σ H → ∀ Q : VK, (∀ p vs R' H', Grow R H R' H' → H' p = some (.lst vs) → DpAll K R' vs ds → Q (.ref p) H') → te σ H Q
theorem EvF.m (h : EvF K te ρ ds) : EvM K te ρ ds := fun R0 H0 R σ H a Q q => h R0 H0 R σ H a Q fun p vs R' H' g _ _ hp dv => q p vs R' H' g hp dv
theorem EvM.l (h : EvM K te ρ ds) : EvL K te ρ ds := fun R0 H0 R σ H a Q q => h R0 H0 R σ H a Q fun p vs R' H' g hp dv => q p vs R' H' g (SqL.of hp) dv
theorem evm_own (h : ρ[i]? = some (.own ds)) : EvM K (tVar i) ρ ds := fun R0 H0 R σ H a Q q => by
  obtain ⟨p, vs, h1, h2, h3, h4, h5⟩ := a.own i ds h
  exact ⟨_, h1, q p vs R H (Grow.refl a.gr.sub) h2 h3⟩
theorem a_add {i j : Int} (ha : Ev K ta ρ (.int i)) (hb : Ev K tb ρ (.int j)) : Ev K (tOp (rCatA K) ta tb) ρ (.int (i + j)) := fun R0 H0 R σ H a Q q =>
  ha R0 H0 R σ H a _ fun x R1 H1 g1 dx => hb R0 H0 R1 σ H1 (a.grow g1) _ fun y R2 H2 g2 dy => by
    cases dx; cases dy
    exact .inl ⟨i, j, rfl, rfl, q _ R2 H2 (g1.trans g2) (.int _)⟩
theorem a_catL (ha : EvL K ta ρ ds) (hb : EvL K tb ρ es) (hl : ds.length + es.length ≤ 100000) : EvF K (tOp (rCatA K) ta tb) ρ (ds ++ es) := fun R0 H0 R σ H a Q q =>
  ha R0 H0 R σ H a _ fun p vs R1 H1 g1 hp dx => hb R0 H0 R1 σ H1 (a.grow g1) _ fun b ws R2 H2 g2 hb dy => by
    have g := g1.trans g2
    refine .inr (.inl ⟨p, b, vs, ws, rfl, rfl, g2.hp.seq hp, hb, ?_, fun c hc => q c _ R2 _ (g.trans (Grow.hide g.sub hc)) (g.hp.free hc) (g.sub.free hc) upd_same (dpa_append (dpa_mono g2.rd _ _ dx) dy)⟩)
    rw [dpa_len dx, dpa_len dy]
    exact Nat.le_trans hl (by decide)
theorem a_cat (ha : EvM K ta ρ ds) (hb : EvM K tb ρ es) (hl : ds.length + es.length ≤ 100000) : EvF K (tOp (rCatA K) ta tb) ρ (ds ++ es) := a_catL ha.l hb.l hl
theorem a_catT (ha : Ev K ta ρ (.tuple ds)) (hb : Ev K tb ρ (.tuple es)) (hn : ds ≠ []) (hl : ds.length + es.length ≤ 100000) : Ev K (tOp (rCatA K) ta tb) ρ (.tuple (ds ++ es)) := fun R0 H0 R σ H a Q q =>
  ha R0 H0 R σ H a _ fun x R1 H1 g1 dx => hb R0 H0 R1 σ H1 (a.grow g1) _ fun y R2 H2 g2 dy => by
    have g := g1.trans g2
    cases dx with
    | tup hs hd =>
      cases dy with
      | tup ht he =>
        rename_i p vs b ws
        refine .inr (.inr (.inl ⟨p, b, vs, ws, rfl, rfl, sqt_mono (g2.rd.trans g2.sub) hs, sqt_mono g2.sub ht, fun z => ?_, ?_, fun z => ?_, fun z c hc => ?_⟩))
        · subst z
          cases hd
          exact hn rfl
        · rw [dpa_len hd, dpa_len he]
          exact Nat.le_trans hl (by decide)
        · subst z
          cases he
          rw [List.append_nil] at q
          exact q _ R2 H2 g (.tup (sqt_mono g2.rd hs) (dpa_mono g2.rd _ _ hd))
        · exact q _ _ _ (g.trans (Grow.alloc g.sub hc)) (.tup (SqT.of upd_same) (dpa_mono (Grow.alloc g.sub hc).rd _ _ (dpa_append (dpa_mono g2.rd _ _ hd) he)))
theorem a_lenT (ha : Ev K ta ρ (.tuple ds)) : Ev K (tCB (rLenA K) (tCons ta tNil)) ρ (.int ds.length) := v_call1 ha fun R H x s dx Q q => by
  cases dx with
  | tup hs hall => exact .inl ⟨_, _, rfl, .inr (sqt_mono s hs), by rw [dpa_len hall]; exact q _ R H (Grow.refl s) (.int _)⟩
theorem a_lenL (ha : EvL K ta ρ ds) : Ev K (tCB (rLenA K) (tCons ta tNil)) ρ (.int ds.length) := fun R0 H0 R σ H a Q q => ha R0 H0 R σ H a _ fun p vs R1 H1 g1 sq dx =>
  .inl ⟨p, vs, rfl, .inl sq, by rw [dpa_len dx]; exact q _ R1 H1 g1 (.int _)⟩
theorem a_lenS {z : Str} (ha : Ev K ta ρ (.str z)) (hz : z.length ≤ 100000) : Ev K (tCB (rLenA K) (tCons ta tNil)) ρ (.int z.length) := v_call1 ha fun R H x s dx Q q => by
  cases dx
  exact .inr ⟨_, rfl, Nat.le_trans hz (by decide), q _ R H (Grow.refl s) (.int _)⟩
theorem a_slL {tl th : TO} {lo hi : Option Int} (ha : EvL K te ρ ds) (h1 : EvO K tl ρ lo) (h2 : EvO K th ρ hi) : EvF K (tSl (rSlA K) te tl th) ρ (cutD ds lo hi) := fun R0 H0 R σ H a Q q =>
  ha R0 H0 R σ H a _ fun p vs R1 H1 g1 sq dx => h1 R0 H0 R1 σ H1 (a.grow g1) _ fun R2 H2 g2 => h2 R0 H0 R2 σ H2 (a.grow (g1.trans g2)) _ fun R3 H3 g3 => by
    have g := (g1.trans g2).trans g3
    have g23 := g2.trans g3
    exact .inl ⟨p, vs, rfl, g23.hp.seq sq, fun l hl => q l _ R3 _ (g.trans (Grow.hide g.sub hl)) (g.hp.free hl) (g.sub.free hl) upd_same (dpa_cut (dpa_mono g23.rd _ _ dx) lo hi)⟩
/-- over a list, over a tuple -/
theorem w_list (h : Ev K te ρ (.list ds)) : Id K (iSeq K te) ρ ds := fun R0 H0 R σ H a Rr q => by
  refine h R0 H0 R σ H a _ fun v R1 H1 g1 dv => ?_
  have z := dv
  cases dv with
  | lst hs ha =>
    rename_i p vs
    refine ⟨p, rfl, .inl ⟨⟨_, g1.sub.seq hs⟩, q _ R1 H1 g1 fun R2 H2 s2 sh => ⟨fun i d e => ?_, ⟨vs, sh.seq (s2.seq hs), Nat.le_of_eq (dpa_len ha)⟩⟩⟩⟩
    obtain ⟨v, h1, h2⟩ := dpa_get ha e
    refine ⟨⟨vs, v, sh.seq (s2.seq hs), h1⟩, fun x H3 y => ?_⟩
    obtain ⟨rfl, y⟩ := y
    have z := y vs (sh.seq (s2.seq hs))
    rw [h1] at z
    cases z
    exact ⟨R2, Grow.refl sh, dp_mono s2 _ _ h2⟩
theorem w_tup (h : Ev K te ρ (.tuple ds)) : Id K (iSeq K te) ρ ds := fun R0 H0 R σ H a Rr q => h R0 H0 R σ H a _ fun v R1 H1 g1 dv => by
  cases dv with
  | tup hs ha =>
    rename_i p vs
    refine ⟨p, rfl, .inr ⟨⟨_, sqt_mono g1.sub hs⟩, q _ R1 H1 g1 fun R2 H2 s2 sh => ⟨fun i d e => ?_, ⟨vs, sqt_mono sh (sqt_mono s2 hs), Nat.le_of_eq (dpa_len ha)⟩⟩⟩⟩
    obtain ⟨v, h1, h2⟩ := dpa_get ha e
    refine ⟨⟨vs, v, sqt_mono sh (sqt_mono s2 hs), h1⟩, fun x H3 y => ?_⟩
    obtain ⟨rfl, y⟩ := y
    have z := y vs (sqt_mono sh (sqt_mono s2 hs))
    rw [h1] at z
    cases z
    exact ⟨R2, Grow.refl sh, dp_mono s2 _ _ h2⟩
/-- a thing of the module's own top -/
theorem ev_ref {a : Addr} (h : ∀ H, Dp K H (.ref a) d) : Ev K (tC (.ref a)) ρ d := fun R0 H0 R σ H A Q q => q _ R H (Grow.refl A.gr.sub) (h R)
/-- isinstance of the exception in hand -/
theorem a_isX {C a : Addr} {b : Bool} {cv : V} {cu : Value} {dd : Option Addr} (h : ρ[i]? = some (.raw (.ref a))) (hC : ExcC K C) (hc : ∀ u, RelV cv u → u = cu) (hk : PySem.W.kitOne K (.ref C) cu = some b) (hd : dd = none) :
    Ev K (tCB (rIsX K (.ref C) dd a) (tCons (tVar i) (tCons (tC cv) tNil))) ρ (.bool b) := fun R0 H0 R σ H A Q q =>
  ⟨_, A.raw i _ h, C, rfl, hd, hC, .inl ⟨cv, cu, b, rfl, hc, hk, q _ R H (Grow.refl A.gr.sub) (.bl b)⟩⟩
/-- the classes of a written tuple -/
def tClasses : List Addr → TA
  | [] => tNil
  | c :: r => tCons (tC (.ref c)) (tClasses r)
theorem classes_run {cs : List Addr} : ∀ {σ : L2.St} {H : Hp} {Q : List V → Hp → Prop}, Q (cs.map V.ref) H → tClasses cs σ H Q := by
  induction cs with
  | nil => intro σ H Q q; exact q
  | cons c r ih => intro σ H Q q; exact ih (Q := fun xs H2 => Q (V.ref c :: xs) H2) q
theorem classes_pair : ∀ cs : List Addr, Paired ClsV (cs.map V.ref) (cs.map Value.ref)
  | [] => .nil
  | c :: r => .cons (.own c) (classes_pair r)
theorem a_isXT {C a : Addr} {b : Bool} {cs : List Addr} {t : TA} {dd : Option Addr} (h : ρ[i]? = some (.raw (.ref a))) (ht : t = tClasses cs) (hC : ExcC K C) (hk : PySem.W.kitAny K (.ref C) (cs.map Value.ref) = some b) (hl : cs.length ≤ 1000) (hd : dd = none) :
    Ev K (tCB (rIsX K (.ref C) dd a) (tCons (tVar i) (tCons (tTup t) tNil))) ρ (.bool b) := fun R0 H0 R σ H A Q q => by
  subst ht
  refine ⟨_, A.raw i _ h, classes_run ⟨by rw [List.length_map]; exact Nat.le_trans hl (by decide), fun p hp => ?_⟩⟩
  have g := Grow.hide (o := .tup (cs.map V.ref)) A.gr.sub hp
  exact ⟨C, rfl, hd, hC, .inr ⟨p, _, _, b, rfl, upd_same, classes_pair cs, hk, q _ R _ g (.bl b)⟩⟩
end
end Pu
set_option maxRecDepth 100000
/-! // of numbers of any size, where the machine's base has no seer -/
namespace Pu
open PySem PySem.Spec PyProof.Rows L2
def rFdivA : R2 := rI (fun _ j => j ≠ 0) fun i j => .int (i.fdiv j)
section
variable {K : Frag} {ρ : En} {ta tb : TE}
theorem v_fdivA {i j : Int} (ha : Ev K ta ρ (.int i)) (hb : Ev K tb ρ (.int j)) (hc : j ≠ 0) : Ev K (tOp rFdivA ta tb) ρ (.int (i.fdiv j)) := ev_I ha hb hc fun R => .int _
theorem v_divA {i j : Int} (ha : Ev K ta ρ (.int i)) (hb : Ev K tb ρ (.int j)) (h0 : 0 < j) : Ev K (tOp rFdivA ta tb) ρ (.int (i / j)) := ev_I ha hb (by omega) fun R => by
  rw [Int.fdiv_eq_ediv_of_nonneg i (by omega)]
  exact .int _
end
/-- the head: as in the layer, and the base has no seer -/
theorem law_callS {P : Program} {w : World} {K : PySem.W.Frag} {mg mb : Str → Option Value} {CX : CXT} {k : Nat} {fa a : Addr} {fd : FuncData} {x : Str} {sp : Sp} {s₁ : Shared} {vs : List Value} {ns : List Int}
    (KX : K.In s₁.heap) (hns : s₁.heap.Ns mainGlobals mg) (hb : s₁.heap.Ns builtinsNs mb) (hbb : ∀ x : Str, x ≠ "__name__" → mb x = bootBuiltins x) (hlim : s₁.heap.NoLimit) (hsee : s₁.heap.NoSeer) (hg : s₁.gens = #[])
    (ha : s₁.heap.get? a = some { cls := .type "list", data := .seq vs.toArray }) (hi : IntsAre vs ns) (hl : ns.length ≤ sizeLine) (hr : Room k callerA)
    (F : ∀ base : Heap, K.In base → base.Ns mainGlobals mg → base.NoSeer → FnOk P w K mg base CX k fa fd [x] sp) (hbind : ∀ (s : Shared) (u : Value), BindsTo s fd ⟨[u], []⟩ [(x, u)])
    (hsp : ∀ H : Hp, Only H → SqL K H a (ns.map V.int) → sp [.ref a] H (fun v _ => v = .bl true) fun _ _ _ => False)
    (hCX : ∀ H e s', CX [] H s₁ (fun _ _ _ => False) e s' → False) :
    codeAny (model P w) callerA (.call (.ref fa) ⟨[.ref a], []⟩) (fun r s' => r = .ok (.ret (.bool true)) ∧ OldK s₁.heap s'.heap ∧ s'.os = s₁.os ∧ AllBare s'.gens) s₁ := by
  have rv := vals_ints hi
  have lenV := hi.length
  have core : ∀ H : Hp, Only H → SqL K H a (ns.map V.int) → HOk P w H s₁.heap → (∀ b, H b ≠ none → b = a) → (H a ≠ none → K.lookup a = none) →
      codeAny (model P w) callerA (.call (.ref fa) ⟨[.ref a], []⟩) (fun r s' => r = .ok (.ret (.bool true)) ∧ OldK s₁.heap s'.heap ∧ s'.os = s₁.os ∧ AllBare s'.gens) s₁ := by
    intro H hO hS hok hA hK
    have base_of : ∀ {b : Addr} {o : Obj}, s₁.heap.get? b = some o → H b = none → (hidT s₁.heap H).get? b = some o := fun e n => hidT_get e n
    have noA : ∀ {b : Addr} {o : Obj} {es : Array DictEntry} {ep : Nat}, s₁.heap.get? b = some o → o.data = .dict es ep → H b = none := fun {b o es ep} e d => by
      cases q : H b with
      | none => rfl
      | some u =>
        have e' : b = a := hA b (by rw [q]; simp)
        subst e'
        rw [ha] at e; cases e
        have d' : Data.seq vs.toArray _ = Data.dict es ep := d
        cases d'
    have nsK : ∀ {b : Addr} {m : Str → Option Value}, s₁.heap.Ns b m → (hidT s₁.heap H).Ns b m := fun {b m} ⟨o, es, ep, e, d, r⟩ => ⟨o, es, ep, base_of e (noA e d), d, r⟩
    have noM : ∀ {b : Addr} {o : Obj}, s₁.heap.get? b = some o → o.cls = .type "module" → H b = none := fun {b o} e d => by
      cases q : H b with
      | none => rfl
      | some u =>
        have e' : b = a := hA b (by rw [q]; simp)
        subst e'
        rw [ha] at e; cases e
        have d' : Value.type "list" = Value.type "module" := d
        injection d' with d'
        exact absurd d' (by decide)
    have hSb : (hidT s₁.heap H).NoSeer :=
      ⟨(let ⟨mc, p, q⟩ := hsee.statics; ⟨mc, nsK p, q⟩), (let ⟨mc, p, q⟩ := hsee.mods; ⟨mc, nsK p, q⟩), (let ⟨mc, p, q⟩ := hsee.imp; ⟨mc, nsK p, q⟩), (let ⟨mg', bm, ob, p, q, c, d, e⟩ := hsee.main; ⟨mg', bm, ob, nsK p, q, base_of c (noM c d), d, e⟩)⟩
    have hKb : K.In (hidT s₁.heap H) := fun b o e => base_of (KX b o e) (by
      cases q : H b with
      | none => rfl
      | some u =>
        have e' : b = a := hA b (by rw [q]; simp)
        subst e'
        rw [hK (by rw [q]; simp)] at e; cases e)
    have hM : Mod K mg (hidT s₁.heap H) := ⟨hKb, nsK hns, ⟨mb, nsK hb, hbb⟩, let ⟨mc, h1, h2⟩ := hlim; ⟨mc, nsK h1, h2⟩⟩
    have e0 : Env0 P w K mg (hidT s₁.heap H) callerA [] s₁ H := ⟨rfl, hM, fun b o e => of_hidT e, Nat.le_of_eq (hidT_size _ _), trivial, fun b hb => absurd (show b ∈ ([] : List Addr) from hb) (by simp), hok, .of_eq hg⟩
    refine codeAny_mono ((F _ hKb (nsK hns) hSb).run callerA [] s₁ H ⟨[.ref a], []⟩ [.ref a] [.ref a] _ _ hr e0 (hbind s₁ (.ref a)) (.cons rfl .nil) (hsp H hO hS)) fun r s' h => ?_
    cases r with
    | error e => exact (hCX H e s' h).elim
    | ok fl =>
      cases fl with
      | next => exact False.elim h
      | brk => exact False.elim h
      | cont => exact False.elim h
      | ret u =>
        obtain ⟨v, H', os, bare, un, hok', r', q⟩ := h
        have q' : v = .bl true := q
        subst q'
        obtain rfl : u = Value.bool true := r'
        refine ⟨rfl, OldK.of_keep fun b o e => ?_, os, bare⟩
        cases q : H b with
        | none => exact un.keep b o e q (by intro z; exact absurd (show b ∈ ([] : List Addr) from z) (by simp)) (by simp)
        | some u =>
          rcases hO b with z | ⟨ob, xs, z⟩
          · rw [q] at z; cases z
          · have z2 := un.frzs b ob _ z
            obtain ⟨e1, _⟩ := hok b _ z
            obtain ⟨e2, _⟩ := hok' b _ z2
            rw [e] at e1; cases e1
            exact e2
  cases hk : K.lookup a with
  | some o =>
    have e := KX a o hk
    rw [ha] at e
    cases e
    refine core (fun _ => none) (fun _ => .inl rfl) (.inr ⟨_, vs.toArray, _, hk, rfl, rfl, rfl, by rw [List.size_toArray, lenV]; exact hl, by simpa using rv⟩) (fun b u z => by have z' : (none : Option HO) = some u := z; cases z') (fun b z => absurd rfl z) fun z => absurd rfl z
  | none =>
    refine core (fun b => if b = a then some (.frz { cls := .type "list", data := .seq vs.toArray } (.lst (ns.map V.int))) else none) (fun b => ?_) (.inl (.inr ⟨{ cls := .type "list", data := .seq vs.toArray }, if_pos rfl⟩)) (fun b u z => ?_) (fun b z => ?_) fun _ => hk
    · by_cases hb : b = a
      · exact .inr ⟨_, _, if_pos hb⟩
      · exact .inl (if_neg hb)
    · by_cases hb : b = a
      · have z' := (if_pos hb).symm.trans z
        cases z'
        subst hb
        exact ⟨ha, by rw [List.length_map]; exact hl, vs, _, rv, ha⟩
      · have z' := (if_neg hb).symm.trans z
        cases z'
    · by_cases hb : b = a
      · exact hb
      · exact absurd (if_neg hb) z
theorem walk_ofS {l : PySem.W.OpenLaw} {n k : Nat} {q : Program} {loose : List Str} {XP : (Str → Option Value) → Heap → Prop} {YP : World → Heap → Prop} {d : DefRec} {K : Params → PySem.W.Frag} {CX : World → CXT} {sp : World → Sp} {x : Str}
    (hn : l.most = some n) (hn2 : n ≤ sizeLine) (hdf : d.params.defaults = []) (hr : Room k callerA) (hq : importsNone q = true)
    (hY : ∀ (w : World) (h : Heap), YP w h → (K w.params).In h)
    (F : ∀ (w : World) (mg : Str → Option Value) (fa : Addr) (h : Heap), (K w.params).In h → h.Ns mainGlobals mg → mg d.name = some (.ref fa) →
      ∃ fd : FuncData, (∀ (s : Shared) (u : Value), BindsTo s fd ⟨[u], []⟩ [(x, u)]) ∧
        ∀ base : Heap, (K w.params).In base → base.Ns mainGlobals mg → base.NoSeer → FnOk l.prog w (K w.params) mg base (CX w) k fa fd [x] (sp w))
    (hsp : ∀ (w : World) (H : Hp) (a : Addr) (ns : List Int), ns.length ≤ n → (∀ z ∈ ns, Builtin.Int.intBits z ≤ 1048576) → Only H → SqL (K w.params) H a (ns.map V.int) → sp w [.ref a] H (fun v _ => v = .bl true) fun _ _ _ => False)
    (hCX : ∀ (w : World) (H : Hp) (s : Shared) (e : Value) (s' : Shared), CX w [] H s (fun _ _ _ => False) e s' → False) :
    PySem.W.WalkO q loose XP YP l.row.toRowW d [] (fun f vs => PySem.call f vs) := by
  refine Att.attach_callB hn hdf fun w s₀ s₁ mg mb fa o pm cd doc a vs ns G Y ho hd hcd hmg hobj hints hlen hbits hg => ?_
  have KX := hY w _ Y
  obtain ⟨fd, hb, hF⟩ := F w mg fa _ KX G.T.g hmg
  exact law_callS KX G.T.g G.T.b G.T.builtins G.T.nolimit (G.T.seer hq) hg hobj hints (Nat.le_trans hlen hn2) hr hF hb (fun H hO hS => hsp w H a ns hlen hbits hO hS) fun H e s' => hCX w H s₁ e s'
end Pu
set_option maxRecDepth 100000
namespace Pu
open PySem PySem.Spec PyProof.Rows L2
/-! ### fractions -/
def fr (q : Rat) : D := .tuple [.int q.num, .int (q.den : Int)]
/-- parts below 2 ^ n -/
def bt (q : Rat) (n : Nat) : Prop := q.num.natAbs < 2 ^ n ∧ q.den < 2 ^ n
theorem bt.mono {q : Rat} {n m : Nat} (h : bt q n) (e : n ≤ m) : bt q m := ⟨Nat.lt_of_lt_of_le h.1 (Nat.pow_le_pow_right (by decide) e), Nat.lt_of_lt_of_le h.2 (Nat.pow_le_pow_right (by decide) e)⟩
theorem bt.pos {q : Rat} {n : Nat} (h : bt q n) : 0 < n := by
  cases n with
  | zero =>
    have h1 := h.2
    have h2 := q.den_pos
    rw [Nat.pow_zero] at h1
    omega
  | succ n => exact Nat.succ_pos n
/-- powers and sizes -/
theorem log2_of {n k : Nat} (h : n < 2 ^ k) (h0 : 0 < k) : n.log2 < k := PySem.Flt.log2_lt_of h0 h
theorem cmul_of {i j : Int} {a b : Nat} (ha : i.natAbs < 2 ^ a) (hb : j.natAbs < 2 ^ b) (h : a + b ≤ 50000000) : CMulB i j := by
  have x := PySem.Flt.log2_lt_of (Nat.succ_pos a) (Nat.lt_of_lt_of_le ha (Nat.pow_le_pow_right (by decide) (Nat.le_succ a)))
  have y := PySem.Flt.log2_lt_of (Nat.succ_pos b) (Nat.lt_of_lt_of_le hb (Nat.pow_le_pow_right (by decide) (Nat.le_succ b)))
  unfold CMulB
  omega
/-! ### the form of a fraction -/
/-- the size of a made fraction -/
theorem bt_divInt {a b : Int} {n : Nat} (h0 : b ≠ 0) (ha : a.natAbs < 2 ^ n) (hb : b.natAbs < 2 ^ n) : bt (Rat.divInt a b) n := by
  refine ⟨?_, ?_⟩
  · rw [Rat.num_divInt]
    have h1 : (b.sign * a / (b.gcd a : Int)).natAbs ≤ (b.sign * a).natAbs := Int.natAbs_ediv_le_natAbs _ _
    rw [Int.natAbs_mul] at h1
    have h2 : b.sign.natAbs ≤ 1 := by
      rcases Int.lt_trichotomy b 0 with z | z | z
      · rw [Int.sign_eq_neg_one_of_neg z]; decide
      · rw [z]; decide
      · rw [Int.sign_eq_one_of_pos z]; decide
    have h3 : b.sign.natAbs * a.natAbs ≤ 1 * a.natAbs := Nat.mul_le_mul_right _ h2
    omega
  · rw [Rat.den_divInt, if_neg h0]
    exact Nat.lt_of_le_of_lt (Nat.div_le_self _ _) hb
theorem eqv_int {a b : Int} : PyData.eqv (.int a) (.int b) = decide (a = b) := by
  show (a == b) = decide (a = b)
  by_cases e : a = b
  · rw [decide_eq_true e]; simpa using e
  · rw [decide_eq_false e]; simpa using e
/-- an item of the script, or nought -/
def cellAt (ns : List Int) (k : Int) : Int := ns.getD k.toNat 0
theorem atI_ints {ns : List Int} {k : Int} (h0 : 0 ≤ k) (h : k < (ns.length : Int)) : atI (ns.map PyData.int) k = some (.int (cellAt ns k)) := by
  have hk : k.toNat < ns.length := by omega
  have ek : k = ((k.toNat : Nat) : Int) := by omega
  have q : atI (ns.map PyData.int) ((k.toNat : Nat) : Int) = some (.int ns[k.toNat]) := atI_nat (by rw [List.getElem?_map, List.getElem?_eq_getElem hk] <;> rfl)
  rw [← ek] at q
  rw [q]
  unfold cellAt
  rw [List.getD_eq_getElem?_getD, List.getElem?_eq_getElem hk]
  rfl
theorem cellAt_out {ns : List Int} {k : Int} (h : ¬ k < (ns.length : Int)) : cellAt ns k = 0 := by
  unfold cellAt
  rw [List.getD_eq_getElem?_getD, List.getElem?_eq_none (by omega)]
  rfl
theorem kit_int_int : kitB "int" "int" = some true := by decide +kernel
theorem kit_int_bool : kitB "int" "bool" = some false := by decide +kernel
theorem kit_int_tuple : kitB "int" "tuple" = some false := by decide +kernel
theorem kit_int_list : kitB "int" "list" = some false := by decide +kernel
theorem kit_int_str : kitB "int" "str" = some false := by decide +kernel
theorem kit_bool_int : kitB "bool" "int" = some true := by decide +kernel
theorem kit_bool_bool : kitB "bool" "bool" = some true := by decide +kernel
theorem kit_bool_tuple : kitB "bool" "tuple" = some false := by decide +kernel
theorem kit_bool_list : kitB "bool" "list" = some false := by decide +kernel
theorem kit_bool_str : kitB "bool" "str" = some false := by decide +kernel
theorem kit_tuple_int : kitB "tuple" "int" = some false := by decide +kernel
theorem kit_tuple_bool : kitB "tuple" "bool" = some false := by decide +kernel
theorem kit_tuple_tuple : kitB "tuple" "tuple" = some true := by decide +kernel
theorem kit_tuple_list : kitB "tuple" "list" = some false := by decide +kernel
theorem kit_tuple_str : kitB "tuple" "str" = some false := by decide +kernel
theorem kit_list_int : kitB "list" "int" = some false := by decide +kernel
theorem kit_list_bool : kitB "list" "bool" = some false := by decide +kernel
theorem kit_list_tuple : kitB "list" "tuple" = some false := by decide +kernel
theorem kit_list_list : kitB "list" "list" = some true := by decide +kernel
theorem kit_list_str : kitB "list" "str" = some false := by decide +kernel
theorem kit_str_int : kitB "str" "int" = some false := by decide +kernel
theorem kit_str_bool : kitB "str" "bool" = some false := by decide +kernel
theorem kit_str_tuple : kitB "str" "tuple" = some false := by decide +kernel
theorem kit_str_list : kitB "str" "list" = some false := by decide +kernel
theorem kit_str_str : kitB "str" "str" = some true := by decide +kernel
theorem kit_NoneType_int : kitB "NoneType" "int" = some false := by decide +kernel
theorem kit_NoneType_bool : kitB "NoneType" "bool" = some false := by decide +kernel
theorem kit_NoneType_tuple : kitB "NoneType" "tuple" = some false := by decide +kernel
theorem kit_NoneType_list : kitB "NoneType" "list" = some false := by decide +kernel
theorem kit_NoneType_str : kitB "NoneType" "str" = some false := by decide +kernel
theorem kitAny_no {K : Frag} {t : Value} : ∀ {cs : List Value}, (∀ c ∈ cs, PySem.W.kitOne K t c = some false) → PySem.W.kitAny K t cs = some false
  | [], _ => rfl
  | c :: r, h => kitAny_cons (h c List.mem_cons_self) (fun _ => kitAny_no fun c' m => h c' (List.mem_cons_of_mem _ m)) (fun z => nomatch z)
/-! ### what the program's fractions do -/
/-- the four kinds of sums -/
theorem q_mk (q : Rat) : Rat.divInt q.num (q.den : Int) = q := Rat.num_divInt_den q
def cPlus : Ct := fun ds k => ∃ (p q : Rat) (a b : Nat), ds = [fr p, fr q] ∧ bt p a ∧ bt q b ∧ a + b ≤ 40000000 ∧ k.rt (fr (p + q))
theorem plus_v {p q : Rat} {a b : Nat} (hp : bt p a) (hq : bt q b) (h : a + b ≤ 40000000) : cPlus [fr p, fr q] (kv (fr (p + q))) := ⟨p, q, a, b, rfl, hp, hq, h, rfl⟩
def cMinus : Ct := fun ds k => ∃ (p q : Rat) (a b : Nat), ds = [fr p, fr q] ∧ bt p a ∧ bt q b ∧ a + b ≤ 40000000 ∧ k.rt (fr (p - q))
theorem minus_v {p q : Rat} {a b : Nat} (hp : bt p a) (hq : bt q b) (h : a + b ≤ 40000000) : cMinus [fr p, fr q] (kv (fr (p - q))) := ⟨p, q, a, b, rfl, hp, hq, h, rfl⟩
def cTimes : Ct := fun ds k => ∃ (p q : Rat) (a b : Nat), ds = [fr p, fr q] ∧ bt p a ∧ bt q b ∧ a + b ≤ 40000000 ∧ k.rt (fr (p * q))
theorem times_v {p q : Rat} {a b : Nat} (hp : bt p a) (hq : bt q b) (h : a + b ≤ 40000000) : cTimes [fr p, fr q] (kv (fr (p * q))) := ⟨p, q, a, b, rfl, hp, hq, h, rfl⟩
def cLess : Ct := fun ds k => ∃ (p q : Rat) (a b : Nat), ds = [fr p, fr q] ∧ bt p a ∧ bt q b ∧ a + b ≤ 40000000 ∧ k.rt (.bool (decide (p < q)))
theorem less_v {p q : Rat} {a b : Nat} (hp : bt p a) (hq : bt q b) (h : a + b ≤ 40000000) : cLess [fr p, fr q] (kv (.bool (decide (p < q)))) := ⟨p, q, a, b, rfl, hp, hq, h, rfl⟩
def cFloor : Ct := fun ds k => ∃ (p : Rat) (a : Nat), ds = [fr p] ∧ bt p a ∧ a ≤ 40000000 ∧ k.rt (.int p.floor)
theorem floor_v {p : Rat} {a : Nat} (hp : bt p a) (h : a ≤ 40000000) : cFloor [fr p] (kv (.int p.floor)) := ⟨p, a, rfl, hp, h, rfl⟩
/-- a helper of the laws: an item of the script or nought; a whole number; a common divisor; a fraction in its one form -/
def cCell : Ct := fun ds k => ∃ (ns : List Int) (i : Int), ds = [.list (ns.map PyData.int), .int i] ∧ 0 ≤ i ∧ k.rt (.int (cellAt ns i))
theorem cell_v {ns : List Int} {i : Int} (h : 0 ≤ i) : cCell [.list (ns.map PyData.int), .int i] (kv (.int (cellAt ns i))) := ⟨ns, i, rfl, h, rfl⟩
def cWhole : Ct := fun ds k => ∃ i : Int, ds = [.int i] ∧ k.rt (.bool true)
theorem whole_v {i : Int} : cWhole [.int i] (kv (.bool true)) := ⟨i, rfl, rfl⟩
def cGcd : Ct := fun ds k => ∃ a b : Int, ds = [.int a, .int b] ∧ 0 ≤ a ∧ 0 ≤ b ∧ k.rt (.int (Int.gcd a b : Int))
theorem gcd_v {a b : Int} (h0 : 0 ≤ a) (h1 : 0 ≤ b) : cGcd [.int a, .int b] (kv (.int (Int.gcd a b : Int))) := ⟨a, b, rfl, h0, h1, rfl⟩
theorem ev_fr0 {K : Frag} {ρ : En} : Ev K (tTup (tCons (tC (V.int 0)) (tCons (tC (V.int 1)) tNil))) ρ (fr 0) := ev_tup (ds := [.int 0, .int 1]) (ea_cons ev_int (ea_cons ev_int ea_nil)) (Nat.le_of_ble_eq_true rfl)
theorem ev_fr1 {K : Frag} {ρ : En} : Ev K (tTup (tCons (tC (V.int 1)) (tCons (tC (V.int 1)) tNil))) ρ (fr 1) := ev_tup (ds := [.int 1, .int 1]) (ea_cons ev_int (ea_cons ev_int ea_nil)) (Nat.le_of_ble_eq_true rfl)
end Pu
set_option maxRecDepth 100000
namespace Pu
open PySem PySem.Spec PyProof.Rows L2
section
variable {K : Frag} {ρ : En} {ta tb te : TE} {tt : TT} {g : TG} {d d1 d2 : D} {ds es : List D}
theorem getElem?_lt {α : Type} {xs : List α} {i : Nat} {x : α} (h : xs[i]? = some x) : i < xs.length := (List.getElem?_eq_some_iff.mp h).1
theorem take_snoc {α : Type} {xs : List α} {i : Nat} {x : α} (h : xs[i]? = some x) : xs.take (i + 1) = xs.take i ++ [x] := by
  rw [List.take_add_one, h]
  rfl
/-- a comprehension without a test, item by item -/
theorem f_maps {wi : TI} {vs : List Nat} (es : List D) (hI : Id K wi ρ ds) (hw : Gw g vs) (hn : es.length = ds.length)
    (hs : ∀ (i : Nat) (d e : D), ds[i]? = some d → es[i]? = some e → ∃ ρ2, Gd K g d (wipeE ρ vs) ρ2 ∧ Ev K te ρ2 e) (hl : ds.length ≤ 100000) : EvF K (tLc wi g tYes te vs) ρ es := fun R0 H0 R σ H a Q q => by
  refine hI R0 H0 R σ H a _ fun J R' H' gr yl => ?_
  intro Dd hD
  refine ⟨fun i n H2 => n = ds.length - i ∧ i ≤ ds.length ∧ ∃ R2 acc, Grow R' H' R2 H2 ∧ R2 Dd = none ∧ H2 Dd = some (.lst acc) ∧ DpAll K R2 acc (es.take i), ⟨ds.length, by simp, Nat.zero_le _, R', [], Grow.hide gr.sub hD, gr.sub.free hD, upd_same, .nil⟩, ?_⟩
  rintro i n H2 ⟨rfl, hi, R2, acc, g2, r2, h2, da⟩
  obtain ⟨y1, y2⟩ := yl R2 H2 g2.rd g2.sub
  by_cases hlt : i < ds.length
  · have hd : ds[i]? = some ds[i] := List.getElem?_eq_getElem hlt
    have he' : es[i]? = some (es[i]'(by omega)) := List.getElem?_eq_getElem (by omega)
    obtain ⟨go, yld⟩ := y1 i ds[i] hd
    refine .inr ⟨go, fun H3 => ∃ R3 acc, Grow R' H' R3 H3 ∧ R3 Dd = none ∧ H3 Dd = some (.lst acc) ∧ DpAll K R3 acc (es.take (i + 1)), fun H3 ⟨R3, acc, h⟩ => ⟨ds.length - (i + 1), by omega, rfl, hlt, R3, acc, h⟩, fun x H3 y => ?_⟩
    obtain ⟨R3, g3, dx⟩ := yld x H3 y
    obtain ⟨ρ2, hg, he⟩ := hs i ds[i] _ hd he'
    have a3 : At K R0 H0 R3 (wipeE ρ vs) (L2.wipe σ vs) H3 := (a.grow ((gr.trans g2).trans g3)).wipe vs
    refine hw x _ H3 _ wipe_wipe ?_
    refine hg R0 H0 R3 x _ H3 a3 dx _ fun σ4 a4 _ => ?_
    have keepD : ∀ {Rz Hz : Hp}, Grow R2 H2 Rz Hz → Rz Dd = none := fun {Rz Hz} gz => by
      cases e : Rz Dd with
      | none => rfl
      | some o =>
        have z := gz.new Dd r2 (by rw [e]; exact fun z => nomatch z)
        rw [h2] at z
        cases z
    refine et_yes (K := K) (ρ := ρ2) R0 H0 R3 σ4 H3 a4 _ fun R5 H5 g5 => ?_
    rw [if_pos rfl]
    refine he R0 H0 R5 σ4 H5 (a4.grow g5) _ fun y R6 H6 g6' dy => ?_
    have g6 := g5.trans g6'
    have g36 := g3.trans g6
    refine ⟨acc, g36.hp _ _ h2, ?_, R6, acc ++ [y], ?_, keepD g36, upd_same, ?_⟩
    · rw [dpa_len da, List.length_take]
      exact Nat.lt_of_le_of_lt (Nat.le_trans (Nat.min_le_right _ _) (by rw [hn]; exact hl)) (by decide)
    · have G := g2.trans g36
      have hD' : H' Dd = none := hD
      refine ⟨G.rd, fun b o e => ?_, fun b o e => ?_, G.new⟩
      · rw [upd_ne (ne_of_none e hD')]
        exact G.hp _ _ e
      · rw [upd_ne (ne_of_none e (keepD g36))]
        exact G.sub _ _ e
    · rw [take_snoc he']
      exact dpa_snoc (dpa_mono g36.rd _ _ da) dy
  · have e : i = ds.length := by omega
    subst e
    rw [← hn, List.take_length] at da
    exact .inl ⟨y2, q Dd acc R2 H2 (gr.trans g2) (gr.hp.free hD) r2 h2 da⟩
/-- the same over things that are told by a function -/
theorem f_mapA {α : Type} {enc : α → D} {xs : List α} {wi : TI} {vs : List Nat} (f : α → D) (hI : Id K wi ρ (xs.map enc)) (hw : Gw g vs)
    (hs : ∀ (i : Nat) (x : α), xs[i]? = some x → ∃ ρ2, Gd K g (enc x) (wipeE ρ vs) ρ2 ∧ Ev K te ρ2 (f x)) (hl : xs.length ≤ 100000) : EvF K (tLc wi g tYes te vs) ρ (xs.map f) :=
  f_maps (xs.map f) hI hw (by rw [List.length_map, List.length_map]) (fun i d e hd he => by
    rw [List.getElem?_map] at hd he
    cases q : xs[i]? with
    | none => rw [q] at hd; cases hd
    | some x =>
      rw [q] at hd he
      obtain rfl := Option.some.inj hd
      obtain rfl := Option.some.inj he
      exact hs i x q) (by rw [List.length_map]; exact hl)
/-- in, not in: a whole number among whole numbers -/
theorem inV_ints {i : Int} : ∀ {ns : List Int}, inV (.int i) (ns.map V.int) = ns.contains i
  | [] => rfl
  | n :: r => by
    have ih : inV (.int i) (r.map V.int) = r.contains i := inV_ints
    show ((n == i) || inV (.int i) (r.map V.int)) = (n :: r).contains i
    rw [ih, List.contains_cons]
    have e : (n == i) = (i == n) := by
      by_cases z : n = i
      · subst z; rfl
      · have z' : ¬ i = n := fun q => z q.symm
        rw [beq_eq_false_iff_ne.mpr z, beq_eq_false_iff_ne.mpr z']
    rw [e]
theorem ints_flat : ∀ ns : List Int, (ns.map V.int).all flatV = true
  | [] => rfl
  | _ :: r => by
    rw [List.map_cons, List.all_cons, ints_flat r]
    rfl
theorem a_inI {i : Int} {ns : List Int} (ha : Ev K ta ρ (.int i)) (hb : EvL K tb ρ (ns.map PyData.int)) : Ev K (tOp (rIn K false) ta tb) ρ (.bool (ns.contains i)) := fun R0 H0 R σ H a Q q =>
  ha R0 H0 R σ H a _ fun x R1 H1 g1 dx => hb R0 H0 R1 σ H1 (a.grow g1) _ fun p vs R2 H2 g2 sq dy => by
    cases dx
    obtain rfl := dpa_ints dy
    refine ⟨p, _, rfl, .inl sq, rfl, ints_flat ns, ?_⟩
    show Q (.bl (inV (.int i) (ns.map V.int))) H2
    rw [inV_ints]
    exact q _ R2 H2 (g1.trans g2) (.bl _)
theorem a_niI {i : Int} {ns : List Int} (ha : Ev K ta ρ (.int i)) (hb : EvL K tb ρ (ns.map PyData.int)) : Ev K (tOp (rIn K true) ta tb) ρ (.bool (!ns.contains i)) := fun R0 H0 R σ H a Q q =>
  ha R0 H0 R σ H a _ fun x R1 H1 g1 dx => hb R0 H0 R1 σ H1 (a.grow g1) _ fun p vs R2 H2 g2 sq dy => by
    cases dx
    obtain rfl := dpa_ints dy
    refine ⟨p, _, rfl, .inl sq, rfl, ints_flat ns, ?_⟩
    show Q (.bl (!inV (.int i) (ns.map V.int))) H2
    rw [inV_ints]
    exact q _ R2 H2 (g1.trans g2) (.bl _)
end
/-! ### slices -/
theorem cut_mid (ds : List D) (i k : Nat) : cutD ds (some (i : Int)) (some (k : Int)) = (ds.take k).drop i := by
  unfold cutD
  rw [HT.sIx_nat, HT.sIx_nat, List.drop_take]
  by_cases h : i ≤ ds.length
  · rw [Nat.min_eq_left h]
    by_cases hk : k ≤ ds.length
    · rw [Nat.min_eq_left hk]
    · rw [Nat.min_eq_right (by omega), List.take_of_length_le (by rw [List.length_drop]; omega), List.take_of_length_le (by rw [List.length_drop]; omega)]
  · rw [Nat.min_eq_right (a := i) (by omega), show ds.drop ds.length = [] from List.drop_length, show ds.drop i = [] from List.drop_of_length_le (by omega), List.take_nil, List.take_nil]
/-! ### sums of fractions -/
def qsum : List Rat → Rat
  | [] => 0
  | q :: r => q + qsum r
theorem qsum_append : ∀ (xs ys : List Rat), qsum (xs ++ ys) = qsum xs + qsum ys
  | [], ys => (Rat.zero_add _).symm
  | x :: xs, ys => by
    show x + qsum (xs ++ ys) = x + qsum xs + qsum ys
    rw [qsum_append xs ys, Rat.add_assoc]
def fls (qs : List Rat) : List D := qs.map fr
def cTotal : Ct := fun ds k => ∃ (qs : List Rat) (n B : Nat), ds = [.list (fls qs)] ∧ (∀ q ∈ qs, bt q n) ∧ (∀ i, i ≤ qs.length → bt (qsum (qs.take i)) B) ∧ B + n ≤ 40000000 ∧ k.rt (fr (qsum qs))
theorem total_v {qs : List Rat} {n B : Nat} (h : ∀ q ∈ qs, bt q n) (hB : ∀ i, i ≤ qs.length → bt (qsum (qs.take i)) B) (hl : B + n ≤ 40000000) : cTotal [.list (fls qs)] (kv (fr (qsum qs))) := ⟨qs, n, B, rfl, h, hB, hl, rfl⟩
/-- of depth n at most -/
def Sh (n : Nat) (d : D) : Prop := d.canLay0 = true ∧ d.depth ≤ n
theorem Sh.mono {n m : Nat} {d : D} (h : Sh n d) (e : n ≤ m) : Sh m d := ⟨h.1, Nat.le_trans h.2 e⟩
theorem Sh.shaped {n : Nat} {d : D} (h : Sh n d) (hn : n ≤ 64) : SeqAt.shaped d = true := by
  unfold SeqAt.shaped
  rw [h.1, decide_eq_true (Nat.le_trans h.2 hn)]
  rfl
/-! ### the script's numbers: their size -/
/-! ### constants of the module -/
theorem pe_gInt {X : Cx} {x : Str} {n : Int} {pos : Pos} (hg : Gl X x) (h : ∃ t, X.mg x = some (.int n t)) (hd : (x == ("__debug__" : Str)) = false := by decide) : PE X (.Name x pos) (tC (.int n)) := by
  obtain ⟨t, h⟩ := h
  exact pe_glob (v := .int n) hg h ⟨t, rfl⟩ hd
theorem pe_gStr {X : Cx} {x z : Str} {pos : Pos} (hg : Gl X x) (h : ∃ t, X.mg x = some (.str z t)) (hd : (x == ("__debug__" : Str)) = false := by decide) : PE X (.Name x pos) (tC (.str z)) := by
  obtain ⟨t, h⟩ := h
  exact pe_glob (v := .str z) hg h ⟨t, rfl⟩ hd
theorem dp_kT {K : Frag} {a : Addr} {dd : Option Addr} {its : Array Value} {n : Nat} {sl : Array (Option Value)} {vs : List V} {ds : List D} (l : K.lookup a = some ⟨.type "tuple", dd, .seq its n, sl⟩) (hv : Vals vs its.toList) (hd : ∀ H, DpAll K H vs ds) (hs : its.size ≤ 1000) : ∀ H, Dp K H (.ref a) (.tuple ds) := fun H =>
  .tup (.inr ⟨_, its, n, l, rfl, rfl, Nat.le_trans hs (by decide), hv⟩) (hd H)
/-! ### a list told over and over; picks -/
end Pu
set_option maxRecDepth 100000
namespace Pu
open PySem PySem.Spec PyProof.Rows L2
/-! ### broken lines -/
abbrev Pt := Rat × Rat
def pt (p : Pt) : D := .tuple [fr p.1, fr p.2]
def pts (ps : List Pt) : List D := ps.map pt
def bp (p : Pt) (n : Nat) : Prop := bt p.1 n ∧ bt p.2 n
def bl (ps : List Pt) (n : Nat) : Prop := ∀ p ∈ ps, bp p n
def straight (a b c : Pt) : Prop := (b.2 - a.2) * (c.1 - b.1) = (c.2 - b.2) * (b.1 - a.1)
instance (a b c : Pt) : Decidable (straight a b c) := inferInstanceAs (Decidable (_ = _))
/-- on and never down -/
def goodFrom : Pt → List Pt → Prop
  | _, [] => True
  | p, q :: r => p.1 < q.1 ∧ p.2 ≤ q.2 ∧ goodFrom q r
def goodDec : (p : Pt) → (r : List Pt) → Decidable (goodFrom p r)
  | _, [] => .isTrue trivial
  | p, q :: r =>
    have := goodDec q r
    inferInstanceAs (Decidable (p.1 < q.1 ∧ p.2 ≤ q.2 ∧ goodFrom q r))
instance (p : Pt) (r : List Pt) : Decidable (goodFrom p r) := goodDec p r
def GoodL : List Pt → Prop
  | [] => False
  | p :: r => p = (0, 0) ∧ goodFrom p r
instance : (ps : List Pt) → Decidable (GoodL ps)
  | [] => .isFalse id
  | p :: r => inferInstanceAs (Decidable (p = (0, 0) ∧ goodFrom p r))
/-! #### values -/
def interp (p q : Pt) (x : Rat) : Rat := p.2 + (x - p.1) * ((q.2 - p.2) / (q.1 - p.1))
def evF : Pt → List Pt → Rat → Rat
  | p, [], _ => p.2
  | p, q :: r, x => if x ≤ q.1 then interp p q x else evF q r x
def lineEv : List Pt → Rat → Rat
  | [], _ => 0
  | p :: r, x => evF p r x
def lastP : Pt → List Pt → Pt
  | p, [] => p
  | _, q :: r => lastP q r
theorem interp_ends {a b : Pt} (h : a.1 < b.1) : interp a b a.1 = a.2 ∧ interp a b b.1 = b.2 := by
  unfold interp
  have e : b.1 - a.1 ≠ 0 := by grind
  constructor <;> grind
/-- no point lies straight between its neighbours -/
def canonFrom : Pt → List Pt → Prop
  | a, b :: c :: r => ¬ straight a b c ∧ canonFrom b (c :: r)
  | _, _ => True
/-- of canonical lines there is just one for each course -/
theorem evF_at {a b : Pt} {r : List Pt} {x : Rat} (h : x ≤ b.1) : evF a (b :: r) x = interp a b x := if_pos h
theorem evF_beyond {a b : Pt} {r : List Pt} {x : Rat} (h : ¬ x ≤ b.1) : evF a (b :: r) x = evF b r x := if_neg h
theorem lastP_ge : ∀ (r : List Pt) (a : Pt), goodFrom a r → a.1 ≤ (lastP a r).1
  | [], a, _ => Rat.le_refl
  | b :: r, a, h => by
    have := lastP_ge r b h.2.2
    have := h.1
    show a.1 ≤ (lastP b r).1
    grind
/-! ### what the program's lines do -/
/-- a list or a tuple -/
def SeqD (d : D) (ds : List D) : Prop := d = .list ds ∨ d = .tuple ds
/-- top and bottom of the second less the first -/
def gapN (p q : Rat) : Int := q.num * (p.den : Int) - p.num * (q.den : Int)
def gapD (p q : Rat) : Int := (p.den : Int) * (q.den : Int)
def cGap : Ct := fun ds k => ∃ (p q : Rat) (n : Nat), ds = [fr p, fr q] ∧ bt p n ∧ bt q n ∧ n ≤ 10000000 ∧ k.rt (.tuple [.int (gapN p q), .int (gapD p q)])
theorem gap_v {p q : Rat} {n : Nat} (hp : bt p n) (hq : bt q n) (h : n ≤ 10000000) : cGap [fr p, fr q] (kv (.tuple [.int (gapN p q), .int (gapD p q)])) := ⟨p, q, n, rfl, hp, hq, h, rfl⟩
def slN (a b : Pt) : Int := gapN a.2 b.2 * gapD a.1 b.1
def slD (a b : Pt) : Int := gapD a.2 b.2 * gapN a.1 b.1
def cSlope : Ct := fun ds k => ∃ (a b : Pt) (n : Nat), ds = [pt a, pt b] ∧ bp a n ∧ bp b n ∧ n ≤ 5000000 ∧ k.rt (.tuple [.int (slN a b), .int (slD a b)])
theorem slope_v {a b : Pt} {n : Nat} (hp : bp a n) (hq : bp b n) (h : n ≤ 5000000) : cSlope [pt a, pt b] (kv (.tuple [.int (slN a b), .int (slD a b)])) := ⟨a, b, n, rfl, hp, hq, h, rfl⟩
def cStraight : Ct := fun ds k => ∃ (a b c : Pt) (n : Nat), ds = [pt a, pt b, pt c] ∧ bp a n ∧ bp b n ∧ bp c n ∧ n ≤ 2000000 ∧ k.rt (.bool (decide (straight a b c)))
theorem straight_v {a b c : Pt} {n : Nat} (ha : bp a n) (hb : bp b n) (hc : bp c n) (h : n ≤ 2000000) : cStraight [pt a, pt b, pt c] (kv (.bool (decide (straight a b c)))) := ⟨a, b, c, n, rfl, ha, hb, hc, h, rfl⟩
/-- a line's end -/
def lineEnd (ps : List Pt) : Pt := match ps with | [] => (0, 0) | p :: r => lastP p r
def cLength : Ct := fun ds k => ∃ ps : List Pt, ds = [.tuple (pts ps)] ∧ ps ≠ [] ∧ k.rt (fr (lineEnd ps).1)
theorem length_v {ps : List Pt} (h : ps ≠ []) : cLength [.tuple (pts ps)] (kv (fr (lineEnd ps).1)) := ⟨ps, rfl, h, rfl⟩
def cHeight : Ct := fun ds k => ∃ ps : List Pt, ds = [.tuple (pts ps)] ∧ ps ≠ [] ∧ k.rt (fr (lineEnd ps).2)
theorem height_v {ps : List Pt} (h : ps ≠ []) : cHeight [.tuple (pts ps)] (kv (fr (lineEnd ps).2)) := ⟨ps, rfl, h, rfl⟩
/-! ### lines told with fewest points -/
def Canon : List Pt → Prop
  | [] => True
  | a :: r => canonFrom a r
theorem cut_ints (ns : List Int) (i k : Nat) : cutD (ns.map PyData.int) (some (i : Int)) (some (k : Int)) = ((ns.take k).drop i).map PyData.int := by
  rw [cut_mid, ← List.map_take, ← List.map_drop]
theorem cut_intsL (ns : List Int) (i k : Nat) : ((ns.take k).drop i).length ≤ k - i := by
  rw [List.length_drop, List.length_take]
  omega
/-! #### values found -/
theorem goodFrom_le : ∀ (r : List Pt) (a : Pt) (j : Nat) (p : Pt), goodFrom a r → (a :: r)[j]? = some p → a.1 ≤ p.1
  | r, a, 0, p, _, h => by
    obtain rfl := Option.some.inj h
    exact Rat.le_refl
  | [], a, j + 1, p, _, h => by simp at h
  | b :: r, a, j + 1, p, g, h => by
    have := goodFrom_le r b j p g.2.2 h
    have := g.1
    grind
theorem goodFrom_lt {r : List Pt} {a p : Pt} {j : Nat} (g : goodFrom a r) (h : (a :: r)[j + 1]? = some p) : a.1 < p.1 := by
  cases r with
  | nil => simp at h
  | cons b r =>
    have := goodFrom_le r b j p g.2.2 h
    have := g.1
    grind
theorem evF_pt : ∀ (r : List Pt) (a : Pt) (j : Nat) (p : Pt), goodFrom a r → (a :: r)[j]? = some p → evF a r p.1 = p.2
  | [], a, 0, p, _, h => by
    obtain rfl := Option.some.inj h
    rfl
  | [], a, j + 1, p, _, h => by simp at h
  | b :: r, a, 0, p, g, h => by
    obtain rfl := Option.some.inj h
    have := g.1
    rw [evF_at (by grind)]
    exact (interp_ends g.1).1
  | b :: r, a, 1, p, g, h => by
    obtain rfl : b = p := Option.some.inj h
    rw [evF_at Rat.le_refl]
    exact (interp_ends g.1).2
  | b :: r, a, j + 2, p, g, h => by
    have := goodFrom_lt g.2.2 (j := j) h
    rw [evF_beyond (by grind)]
    exact evF_pt r b (j + 1) p g.2.2 h
theorem lineEv_pt {ps : List Pt} {j : Nat} {p : Pt} (g : GoodL ps) (h : ps[j]? = some p) : lineEv ps p.1 = p.2 := by
  cases ps with
  | nil => cases h
  | cons a r => exact evF_pt r a j p g.2 h
theorem good_nonneg {ps : List Pt} (h : GoodL ps) {p : Pt} (hp : p ∈ ps) : 0 ≤ p.1 ∧ p.1 ≤ (lineEnd ps).1 := by
  cases ps with
  | nil => exact h.elim
  | cons a r =>
    obtain ⟨rfl, g⟩ := h
    obtain ⟨j, hj⟩ := List.getElem?_of_mem hp
    refine ⟨goodFrom_le r (0, 0) j p g hj, ?_⟩
    have q : ∀ (r : List Pt) (a : Pt) (j : Nat), goodFrom a r → (a :: r)[j]? = some p → p.1 ≤ (lastP a r).1 := by
      intro r
      induction r with
      | nil =>
        intro a j _ h
        cases j with
        | zero => obtain rfl := Option.some.inj h; exact Rat.le_refl
        | succ j => simp at h
      | cons b r ih =>
        intro a j g h
        cases j with
        | zero =>
          obtain rfl := Option.some.inj h
          exact lastP_ge (b :: r) a g
        | succ j => exact ih b j g.2.2 h
    exact q r (0, 0) j g hj
end Pu
set_option maxRecDepth 100000
namespace Pu
open PySem PySem.Spec PyProof.Rows L2
/-! ### slices with a step -/
end Pu
set_option maxRecDepth 100000
namespace Pu
open PySem PySem.Spec PyProof.Rows L2
/-! ### walks: reversed, zip, enumerate -/
section
variable {K : Frag} {ρ : En} {te : TE} {ta tb : TE} {ds es : List D}
theorem a_lenQ {d0 : D} (hd : SeqD d0 ds) (ha : Ev K ta ρ d0) : Ev K (tCB (rLenA K) (tCons ta tNil)) ρ (.int ds.length) := by
  rcases hd with rfl | rfl
  · exact a_lenL ha.l
  · exact a_lenT ha
theorem w_seqQ {d0 : D} (hd : SeqD d0 ds) (ha : Ev K ta ρ d0) : Id K (iSeq K ta) ρ ds := by
  rcases hd with rfl | rfl
  · exact w_list ha
  · exact w_tup ha
end
end Pu
set_option maxRecDepth 100000
namespace Pu
open PySem PySem.Spec PyProof.Rows L2
/-! ### lines that follow a function; two lines merged -/
end Pu
set_option maxRecDepth 100000
namespace Pu
open PySem PySem.Spec PyProof.Rows L2
/-! ### one line behind another -/
end Pu
set_option maxRecDepth 100000
namespace Pu
open PySem PySem.Spec PyProof.Rows L2
/-! ### a line turned about; stretches -/
end Pu
set_option maxRecDepth 100000
namespace Pu
open PySem PySem.Spec PyProof.Rows L2
/-! ### sums, the least and the greatest, of lists and of tuples; places of items; texts among texts -/
section
variable {prog : Program} {w : World} {A : Around} {E : Value → Shared → Prop} {s : Shared} {l : Addr} {its : List Value} {ns : List Int} {Q : Value → Shared → Prop}
/-- the start of a walk over a tuple -/
theorem tup_walk {items : Array Value} (hl : s.heap.IsTuple l items)
    (h : ∀ s₂ : Shared, s₂ = { s with heap := s.heap.push { cls := .type "tuple_iterator", data := .fields #[.ref l, .int 0 0] } } → (s₂.heap.IsTupleIter s.heap.objs.size l 0 ∧ s₂.heap.IsTuple l items) → (∀ b ∈ [s.heap.objs.size, l], b < s₂.heap.objs.size) → l ≠ s.heap.objs.size →
      (∀ h' : Heap, (∀ b o, b ∉ [s.heap.objs.size] → s₂.heap.get? b = some o → h'.get? b = some o) → ∀ b o, s.heap.get? b = some o → h'.get? b = some o) → Q (.ref s.heap.objs.size) s₂) : wpAny (model prog w) A (pyIter (.ref l)) Q E s := by
  have hlt : l < s.heap.objs.size := by
    obtain ⟨o, e, _⟩ := hl
    exact Heap.lt_size e
  have hp : (s.heap.push { cls := .type "tuple_iterator", data := .fields #[.ref l, .int 0 0] }).IsTuple l items := by
    obtain ⟨o, e, r⟩ := hl
    exact ⟨o, Heap.get?_push_of_some _ e, r⟩
  refine wpAny_pyIter_tuple hl (h _ rfl ⟨⟨_, Heap.get?_push_size _ rfl, rfl, rfl⟩, hp⟩ (fun b hb => ?_) (Nat.ne_of_lt hlt) fun h' hk b o e => hk b o (fun hm => ?_) (Heap.get?_push_of_some _ e))
  · have hb' : b = s.heap.objs.size ∨ b = l := by simpa using hb
    show b < (s.heap.push _).objs.size
    rw [Heap.size_push]
    rcases hb' with e | e
    · rw [e]; exact Nat.lt_succ_self _
    · rw [e]; exact Nat.lt_succ_of_lt hlt
  · have hb' : b = s.heap.objs.size := by simpa using hm
    exact absurd (hb' ▸ Heap.lt_size e) (Nat.lt_irrefl _)
theorem val_at (hi : Vals (ns.map V.int) its) : ∀ (i : Nat) (v : Value), its.toArray[i]? = some v → ∃ t, v = .int (ns.getD i 0) t := fun i v h => by
  have h' : its[i]? = some v := by simpa using h
  have hl := hi.length
  have hlt := (List.getElem?_eq_some_iff.mp h').1
  rw [List.length_map] at hl
  have hx : (ns.map V.int)[i]? = some (.int (ns.getD i 0)) := by
    rw [List.getElem?_map, List.getD_eq_getElem?_getD, List.getElem?_eq_getElem (by omega)]
    rfl
  obtain ⟨u, hu, ru⟩ := hi.get hx
  rw [h'] at hu
  cases hu
  exact ru
theorem getD_mem' {ns : List Int} {j : Nat} (h : j < ns.length) : ns.getD j 0 ∈ ns := by
  rw [List.getD_eq_getElem?_getD, List.getElem?_eq_getElem h]
  exact List.getElem_mem h
theorem mem_getD' {ns : List Int} {a : Int} (h : a ∈ ns) : ∃ j, j < ns.length ∧ ns.getD j 0 = a := by
  obtain ⟨j, hj⟩ := List.getElem?_of_mem h
  exact ⟨j, (List.getElem?_eq_some_iff.mp hj).1, by rw [List.getD_eq_getElem?_getD, hj]; rfl⟩
theorem max_tup (hh : A.handled = none) (hl : s.heap.IsTuple l its.toArray) (hi : Vals (ns.map V.int) its) (hn : 0 < ns.length)
    (h : ∀ h' tk m t', (∀ b o, s.heap.get? b = some o → h'.get? b = some o) → m ∈ ns → (∀ a, a ∈ ns → a ≤ m) → Q (.int m t') { s with heap := h', toks := tk }) : wpAny (model prog w) A (call (.builtin "max") [.ref l]) Q E s := by
  have hsz : its.toArray.size = ns.length := by
    have := hi.length
    rw [List.length_map] at this
    rw [List.size_toArray, this]
  refine call_max_walk (tup_walk hl fun s₂ e st hfp hne hk => ?_)
  subst e
  refine ⟨_, _, _, _, _, _, _, rfl, Walks.tuple (A := A.in1) hh _ l hne its.toArray, st, hfp, by omega, CmpOf.ints_gt (fun i => ns.getD i 0) (val_at hi), fun v h' tk hv k => ?_⟩
  obtain ⟨t, rfl⟩ := val_at hi _ _ hv
  obtain ⟨h1, h2⟩ := argBest_gt (fun i => ns.getD i 0) (its.toArray.size - 1)
  refine h h' tk _ t (hk h' k) (getD_mem' (by omega)) fun a ha => ?_
  obtain ⟨j, hj, rfl⟩ := mem_getD' ha
  exact h2 j (by omega)
end
def rMaxA (K : Frag) : List V → Hp → VK → Prop := fun vs H Q => ∃ (a : Addr) (ns : List Int), vs = [V.ref a] ∧ (SqL K H a (ns.map V.int) ∨ SqT K H a (ns.map V.int)) ∧ 0 < ns.length ∧ ∀ m, m ∈ ns → (∀ y, y ∈ ns → y ≤ m) → Q (.int m) H
section
variable {X : Cx} {K : Frag}
theorem c_maxL (hc : X.calm = true) (hK : X.K = K := by rfl) : CallR X (.builtin "max") (rMaxA K) := by
  subst hK
  intro pins s σ H vs us Q I r h
  obtain ⟨a, ns, rfl, hs | hs, hn, q⟩ := h
  · exact cr_max hc pins s σ H _ us Q I r ⟨a, ns, rfl, hs, hn, q⟩
  · obtain ⟨its, rv, hl, _⟩ := I.tuple hs
    rw [Vals.ref1 r]
    exact max_tup (I.ok.hd hc) hl rv hn fun h' tk m t' hk h1 h2 => ⟨.int _, H, I.kept hk, ⟨_, rfl⟩, q m h1 h2⟩
theorem c_allA (hc : X.calm = true) (hK : X.K = K := by rfl) : CallR X (.builtin "all") (rAll K) := by subst hK; exact cr_all hc
theorem strs_are : ∀ {zs : List Str} {us : List Value}, Vals (zs.map V.str) us → StrsAre us zs
  | [], _, h => by cases h; exact .nil
  | z :: zs, _, h => by
    cases h with
    | cons h1 h2 =>
      obtain ⟨t, rfl⟩ := h1
      exact .cons z t (strs_are h2)
end
section
variable {K : Frag} {ρ : En} {ta tb te : TE} {ds es : List D} {d d0 : D}
theorem v_maxQ {ns : List Int} {m : Int} (hd : SeqD d0 (ns.map PyData.int)) (ha : Ev K ta ρ d0) (hm : m ∈ ns) (hle : ∀ y ∈ ns, y ≤ m) : Ev K (tCB (rMaxA K) (tCons ta tNil)) ρ (.int m) := v_call1 ha fun R H x s dx Q q => by
  have key : ∀ k, k ∈ ns → (∀ y, y ∈ ns → y ≤ k) → Q (.int k) H := fun k h1 h2 => by
    have : k = m := Int.le_antisymm (hle k h1) (h2 m hm)
    subst this
    exact q _ R H (Grow.refl s) (.int _)
  rcases hd with rfl | rfl
  · cases dx with
    | lst hs hall =>
      obtain rfl := dpa_ints hall
      exact ⟨_, ns, rfl, .inl (s.seq hs), List.length_pos_of_mem hm, key⟩
  · cases dx with
    | tup hs hall =>
      obtain rfl := dpa_ints hall
      exact ⟨_, ns, rfl, .inr (sqt_mono s hs), List.length_pos_of_mem hm, key⟩
/-- the greatest and the least there are -/
theorem int_max : ∀ {ns : List Int}, ns ≠ [] → ∃ m ∈ ns, ∀ y ∈ ns, y ≤ m
  | [], h => absurd rfl h
  | [n], _ => ⟨n, List.mem_cons_self, fun y hy => by rw [List.mem_singleton.mp hy]; exact Int.le_refl _⟩
  | n :: k :: r, _ => by
    obtain ⟨m, hm, hle⟩ := int_max (ns := k :: r) (by simp)
    by_cases h : m ≤ n
    · exact ⟨n, List.mem_cons_self, fun y hy => by
        rcases List.mem_cons.mp hy with e | hy
        · omega
        · have := hle y hy; omega⟩
    · exact ⟨m, List.mem_cons_of_mem _ hm, fun y hy => by
        rcases List.mem_cons.mp hy with e | hy
        · omega
        · exact hle y hy⟩
theorem v_allL {bs : List Bool} (ha : EvL K ta ρ (bs.map PyData.bool)) : Ev K (tCB (rAll K) (tCons ta tNil)) ρ (.bool (bs.all id)) := fun R0 H0 R σ H a Q q => ha R0 H0 R σ H a _ fun p vs R1 H1 g1 sq dx => by
  obtain rfl := dpa_bools dx
  exact ⟨p, bs, rfl, sq, q _ R1 H1 g1 (.bl _)⟩
/-! texts -/
theorem dpa_strs : ∀ {R : Hp} {vs : List V} {zs : List Str}, DpAll K R vs (zs.map PyData.str) → vs = zs.map V.str
  | _, [], [], _ => rfl
  | _, _, [], h => by cases h; rfl
  | _, _, z :: zs, h => by
    cases h with
    | cons h1 h2 =>
      cases h1
      rw [dpa_strs h2]
      rfl
theorem inV_strs {z : Str} : ∀ {zs : List Str}, inV (.str z) (zs.map V.str) = zs.contains z
  | [] => rfl
  | y :: r => by
    have ih : inV (.str z) (r.map V.str) = r.contains z := inV_strs
    show ((y == z) || inV (.str z) (r.map V.str)) = (y :: r).contains z
    rw [ih, List.contains_cons]
    congr 1
    by_cases e : y = z
    · subst e; rfl
    · have e' : ¬ z = y := fun q => e q.symm
      rw [beq_eq_false_iff_ne.mpr e, beq_eq_false_iff_ne.mpr e']
theorem strs_flat : ∀ zs : List Str, (zs.map V.str).all flatV = true
  | [] => rfl
  | _ :: r => by
    rw [List.map_cons, List.all_cons, strs_flat r]
    rfl
theorem in_strs {z : Str} {zs : List Str} (neg : Bool) (hd : SeqD d0 (zs.map PyData.str)) (ha : Ev K ta ρ (.str z)) (hb : Ev K tb ρ d0) : Ev K (tOp (rIn K neg) ta tb) ρ (.bool (if neg then !zs.contains z else zs.contains z)) := fun R0 H0 R σ H a Q q =>
  ha R0 H0 R σ H a _ fun x R1 H1 g1 dx => hb R0 H0 R1 σ H1 (a.grow g1) _ fun y R2 H2 g2 dy => by
    cases dx
    have fin : ∀ vs, DpAll K R2 vs (zs.map PyData.str) → vs.all flatV = true ∧ Q (.bl (if neg then !inV (.str z) vs else inV (.str z) vs)) H2 := fun vs h => by
      obtain rfl := dpa_strs h
      refine ⟨strs_flat zs, ?_⟩
      rw [inV_strs]
      exact q _ R2 H2 (g1.trans g2) (.bl _)
    rcases hd with rfl | rfl
    · cases dy with
      | lst hs hall =>
        obtain ⟨f1, f2⟩ := fin _ hall
        exact ⟨_, _, rfl, .inl (g2.sub.seq hs), rfl, f1, f2⟩
    · cases dy with
      | tup hs hall =>
        obtain ⟨f1, f2⟩ := fin _ hall
        exact ⟨_, _, rfl, .inr (sqt_mono g2.sub hs), rfl, f1, f2⟩
theorem a_inS {z : Str} {zs : List Str} (hd : SeqD d0 (zs.map PyData.str)) (ha : Ev K ta ρ (.str z)) (hb : Ev K tb ρ d0) : Ev K (tOp (rIn K false) ta tb) ρ (.bool (zs.contains z)) := in_strs false hd ha hb
theorem a_niS {z : Str} {zs : List Str} (hd : SeqD d0 (zs.map PyData.str)) (ha : Ev K ta ρ (.str z)) (hb : Ev K tb ρ d0) : Ev K (tOp (rIn K true) ta tb) ρ (.bool (!zs.contains z)) := in_strs true hd ha hb
theorem str_eqv {a b : Str} : PyData.eqv (.str a) (.str b) = decide (a = b) := by
  show (a == b) = decide (a = b)
  by_cases e : a = b
  · subst e; simp
  · rw [decide_eq_false e]; simpa using e
theorem ev_eqS {a b : Str} (ha : Ev K ta ρ (.str a)) (hb : Ev K tb ρ (.str b)) (h1 : SeqAt.shaped (.str a) = true) (h2 : SeqAt.shaped (.str b) = true) : Ev K (tOp (rEqD K) ta tb) ρ (.bool (decide (a = b))) := Ev.is (ev_eqD ha hb h1 h2) (by rw [str_eqv])
end
end Pu
set_option maxRecDepth 100000
set_option maxHeartbeats 1000000
namespace Pu
open PySem PySem.Spec PyProof.Rows L2
/-! ### list(reversed(x)), x a list or a tuple -/
end Pu
set_option maxRecDepth 100000
set_option maxHeartbeats 1000000
namespace Pu
open PySem PySem.Spec PyProof.Rows L2
/-! ### zip of a list or a tuple with a list or a tuple -/
def ItAt (t : Bool) (h : Heap) (it a : Addr) (i : Nat) : Prop := if t then h.IsTupleIter it a i else h.IsListIter it a i
def SeqIs (t : Bool) (h : Heap) (a : Addr) (items : Array Value) : Prop := if t then h.IsTuple a items else h.IsList a items
theorem SeqIs.keep {t : Bool} {h h' : Heap} {a : Addr} {items : Array Value} (x : SeqIs t h a items) (e : ∀ o, h.get? a = some o → h'.get? a = some o) : SeqIs t h' a items := by
  cases t
  · exact Heap.IsList.at x e
  · obtain ⟨o, ho, r⟩ := x
    exact ⟨o, e o ho, r⟩
theorem ItAt.keep {t : Bool} {h h' : Heap} {it a : Addr} {i : Nat} (x : ItAt t h it a i) (e : ∀ o, h.get? it = some o → h'.get? it = some o) : ItAt t h' it a i := by
  cases t
  · obtain ⟨o, ho, r⟩ := x
    exact ⟨o, e o ho, r⟩
  · obtain ⟨o, ho, r⟩ := x
    exact ⟨o, e o ho, r⟩
end Pu
set_option maxRecDepth 100000
namespace Pu
open PySem PySem.Spec PyProof.Rows L2
/-! ### ways of dealing: the plain law -/
def qlist (ns : List Int) : List Rat := ns.map fun i : Int => (i : Rat)
def leAll : List Rat → List Rat → Prop
  | [], [] => True
  | x :: xs, y :: ys => x ≤ y ∧ leAll xs ys
  | _, _ => False
theorem leAll_len : ∀ {xs ys : List Rat}, leAll xs ys → xs.length = ys.length
  | [], [], _ => rfl
  | x :: xs, y :: ys, h => congrArg (· + 1) (leAll_len h.2)
  | [], y :: ys, h => h.elim
  | x :: xs, [], h => h.elim
theorem leAll_get : ∀ {xs ys : List Rat} {i : Nat} {x y : Rat}, leAll xs ys → xs[i]? = some x → ys[i]? = some y → x ≤ y
  | [], [], i, x, y, _, h, _ => by simp at h
  | x :: xs, y :: ys, 0, a, b, h, h1, h2 => by
    obtain rfl := Option.some.inj h1
    obtain rfl := Option.some.inj h2
    exact h.1
  | x :: xs, y :: ys, i + 1, a, b, h, h1, h2 => leAll_get (i := i) h.2 h1 h2
  | [], y :: ys, i, _, _, h, _, _ => h.elim
  | x :: xs, [], i, _, _, h, _, _ => h.elim
theorem leAll_of : ∀ {xs ys : List Rat}, xs.length = ys.length → (∀ (i : Nat) (x y : Rat), xs[i]? = some x → ys[i]? = some y → x ≤ y) → leAll xs ys
  | [], [], _, _ => trivial
  | x :: xs, y :: ys, hl, h => ⟨h 0 x y rfl rfl, leAll_of (Nat.succ.inj hl) fun i a b h1 h2 => h (i + 1) a b h1 h2⟩
  | [], y :: ys, hl, _ => absurd hl (by simp)
  | x :: xs, [], hl, _ => absurd hl (by simp)
def zeros (cs : List Rat) : List Rat := cs.map fun _ => 0
theorem zeros_sum : ∀ cs : List Rat, qsum (zeros cs) = 0
  | [] => rfl
  | c :: cs => by
    show (0 : Rat) + qsum (zeros cs) = 0
    rw [zeros_sum cs]
    exact Rat.add_zero 0
/-- a dealing: each from nought to its claim, the catch in sum -/
structure Dl (cs g : List Rat) (q : Rat) : Prop where
  lo : leAll (zeros cs) g
  hi : leAll g cs
  sum : qsum g = q
theorem Dl.len {cs g : List Rat} {q : Rat} (h : Dl cs g q) : g.length = cs.length := leAll_len h.hi
theorem Dl.get {cs g : List Rat} {q : Rat} (h : Dl cs g q) {i : Nat} {x c : Rat} (h1 : g[i]? = some x) (h2 : cs[i]? = some c) : 0 ≤ x ∧ x ≤ c := by
  refine ⟨leAll_get h.lo ?_ h1, leAll_get h.hi h1 h2⟩
  unfold zeros
  rw [List.getElem?_map, h2]
  rfl
theorem Dl.of {cs g : List Rat} {q : Rat} (hl : g.length = cs.length) (h : ∀ (i : Nat) (x c : Rat), g[i]? = some x → cs[i]? = some c → 0 ≤ x ∧ x ≤ c) (hs : qsum g = q) : Dl cs g q := by
  refine ⟨leAll_of (by unfold zeros; rw [List.length_map, hl]) fun i z x hz hx => ?_, leAll_of hl fun i x c hx hc => (h i x c hx hc).2, hs⟩
  unfold zeros at hz
  rw [List.getElem?_map] at hz
  cases e : cs[i]? with
  | none => rw [e] at hz; cases hz
  | some c =>
    rw [e] at hz
    obtain rfl := Option.some.inj hz
    exact (h i x c hx e).1
theorem qsum_nonneg : ∀ {xs : List Rat}, (∀ x ∈ xs, 0 ≤ x) → 0 ≤ qsum xs
  | [], _ => Rat.le_refl
  | x :: xs, h => by
    have := h x List.mem_cons_self
    have := qsum_nonneg (xs := xs) fun y hy => h y (List.mem_cons_of_mem _ hy)
    show 0 ≤ x + qsum xs
    grind
theorem qsum_reverse : ∀ xs : List Rat, qsum xs.reverse = qsum xs
  | [] => rfl
  | x :: xs => by
    rw [List.reverse_cons, qsum_append, qsum_reverse xs]
    show qsum xs + (x + 0) = x + qsum xs
    grind
theorem qsum_map_mul (k : Rat) : ∀ xs : List Rat, qsum (xs.map fun x => x * k) = qsum xs * k
  | [] => (Rat.zero_mul k).symm
  | x :: xs => by
    show x * k + qsum (xs.map fun x => x * k) = (x + qsum xs) * k
    rw [qsum_map_mul k xs, Rat.add_mul]
theorem qsum_perm {xs ys : List Rat} (h : xs.Perm ys) : qsum xs = qsum ys := by
  induction h with
  | nil => rfl
  | cons x _ ih => show x + _ = x + _; rw [ih]
  | swap x y l => show y + (x + qsum l) = x + (y + qsum l); grind
  | trans _ _ h1 h2 => rw [h1, h2]
/-! #### one behind the other -/
def rowD : List Rat → Rat → List Rat
  | [], _ => []
  | c :: r, q => (if q < c then q else c) :: rowD r (q - if q < c then q else c)
/-- the same, claim by claim -/
def clip (c q : Rat) : Rat := if q < 0 then 0 else if c < q then c else q
def fillD : Rat → List Rat → Rat → List Rat
  | _, [], _ => []
  | a, c :: r, q => clip c (q - a) :: fillD (a + c) r q
theorem clip_b {c q : Rat} (h : 0 ≤ c) : 0 ≤ clip c q ∧ clip c q ≤ c := by
  unfold clip
  split
  · exact ⟨Rat.le_refl, h⟩
  · split
    · exact ⟨h, Rat.le_refl⟩
    · constructor <;> grind
theorem fillD_len : ∀ (cs : List Rat) (a q : Rat), (fillD a cs q).length = cs.length
  | [], _, _ => rfl
  | c :: r, a, q => congrArg (· + 1) (fillD_len r (a + c) q)
theorem fillD_low : ∀ (cs : List Rat) (a q : Rat), (∀ c ∈ cs, 0 ≤ c) → q ≤ a → qsum (fillD a cs q) = 0
  | [], _, _, _, _ => rfl
  | c :: r, a, q, h, hq => by
    have hc := h c List.mem_cons_self
    show clip c (q - a) + qsum (fillD (a + c) r q) = 0
    rw [fillD_low r (a + c) q (fun x hx => h x (List.mem_cons_of_mem _ hx)) (by grind)]
    unfold clip
    split <;> grind
theorem fillD_sum : ∀ (cs : List Rat) (a q : Rat), (∀ c ∈ cs, 0 ≤ c) → a ≤ q → q ≤ a + qsum cs → qsum (fillD a cs q) = q - a
  | [], a, q, _, h1, h2 => by
    have h2' : q ≤ a + 0 := h2
    show (0 : Rat) = q - a
    grind
  | c :: r, a, q, h, h1, h2 => by
    have hc := h c List.mem_cons_self
    have hr : ∀ x ∈ r, 0 ≤ x := fun x hx => h x (List.mem_cons_of_mem _ hx)
    have h2' : q ≤ a + (c + qsum r) := h2
    show clip c (q - a) + qsum (fillD (a + c) r q) = q - a
    by_cases z : q ≤ a + c
    · rw [fillD_low r (a + c) q hr z]
      unfold clip
      split <;> (try split) <;> grind
    · rw [fillD_sum r (a + c) q hr (by grind) (by grind)]
      unfold clip
      split <;> (try split) <;> grind
theorem fillD_at : ∀ (cs : List Rat) (a q : Rat) (i : Nat) (x : Rat), (fillD a cs q)[i]? = some x → ∃ c, cs[i]? = some c ∧ x = clip c (q - (a + qsum (cs.take i)))
  | [], _, _, i, x, h => by simp [fillD] at h
  | c :: r, a, q, 0, x, h => by
    obtain rfl := Option.some.inj h
    exact ⟨c, rfl, by show clip c (q - a) = clip c (q - (a + 0)); rw [Rat.add_zero]⟩
  | c :: r, a, q, i + 1, x, h => by
    obtain ⟨d, h1, h2⟩ := fillD_at r (a + c) q i x h
    refine ⟨d, h1, ?_⟩
    rw [h2]
    show clip d (q - (a + c + qsum (r.take i))) = clip d (q - (a + (c + qsum (r.take i))))
    rw [Rat.add_assoc]
theorem rowD_fill : ∀ (cs : List Rat) (a q l : Rat), (∀ c ∈ cs, 0 ≤ c) → l = (if q - a < 0 then 0 else q - a) → rowD cs l = fillD a cs q
  | [], _, _, _, _, _ => rfl
  | c :: r, a, q, l, h, hl => by
    have hc := h c List.mem_cons_self
    show (if l < c then l else c) :: rowD r (l - if l < c then l else c) = clip c (q - a) :: fillD (a + c) r q
    have e1 : (if l < c then l else c) = clip c (q - a) := by
      rw [hl]
      unfold clip
      split <;> split <;> (try split) <;> grind
    rw [rowD_fill r (a + c) q _ (fun x hx => h x (List.mem_cons_of_mem _ hx)), e1]
    rw [e1, hl]
    unfold clip
    split <;> (try split) <;> (try split) <;> grind
theorem rowD_is {cs : List Rat} {q : Rat} (h : ∀ c ∈ cs, 0 ≤ c) (hq : 0 ≤ q) : rowD cs q = fillD 0 cs q := rowD_fill cs 0 q q h (by rw [if_neg (by grind)]; grind)
theorem rowD_ok {cs : List Rat} {q : Rat} (h : ∀ c ∈ cs, 0 ≤ c) (h0 : 0 ≤ q) (h1 : q ≤ qsum cs) : Dl cs (rowD cs q) q := by
  rw [rowD_is h h0]
  refine Dl.of (fillD_len cs 0 q) (fun i x c hx hc => ?_) (by rw [fillD_sum cs 0 q h h0 (by grind)]; grind)
  obtain ⟨d, h1, rfl⟩ := fillD_at cs 0 q i x hx
  rw [hc] at h1
  obtain rfl := Option.some.inj h1
  exact clip_b (h c (List.mem_of_getElem? hc))
/-! #### orders by insertion -/
def insF (le : Nat → Nat → Bool) (x : Nat) : List Nat → List Nat
  | [] => [x]
  | y :: r => if le y x then y :: insF le x r else x :: y :: r
def byF (le : Nat → Nat → Bool) (n : Nat) : List Nat := (List.range n).foldl (fun s x => insF le x s) []
theorem insF_perm (le : Nat → Nat → Bool) (x : Nat) : ∀ s : List Nat, (insF le x s).Perm (x :: s)
  | [] => List.Perm.refl _
  | y :: r => by
    unfold insF
    split
    · exact ((insF_perm le x r).cons y).trans (List.Perm.swap x y r)
    · exact List.Perm.refl _
theorem insF_sorted {le : Nat → Nat → Bool} {x : Nat} (ok : Nat → Prop) (tr : ∀ a b c, ok a → ok b → ok c → le a b = true → le b c = true → le a c = true) (tot : ∀ a b, le a b = false → le b a = true) (hx : ok x) :
    ∀ s : List Nat, (∀ y ∈ s, ok y) → s.Pairwise (fun a b => le a b = true) → (insF le x s).Pairwise (fun a b => le a b = true)
  | [], _, _ => List.pairwise_singleton _ _
  | y :: r, hs, h => by
    have hy := hs y List.mem_cons_self
    obtain ⟨h1, h2⟩ := List.pairwise_cons.mp h
    unfold insF
    split
    · rename_i z
      refine List.pairwise_cons.mpr ⟨fun b hb => ?_, insF_sorted ok tr tot hx r (fun a ha => hs a (List.mem_cons_of_mem _ ha)) h2⟩
      rcases List.mem_cons.mp ((insF_perm le x r).mem_iff.mp hb) with rfl | hb
      · exact z
      · exact h1 b hb
    · rename_i z
      have z' := tot y x (by simpa using z)
      refine List.pairwise_cons.mpr ⟨fun b hb => ?_, h⟩
      rcases List.mem_cons.mp hb with rfl | hb
      · exact z'
      · exact tr x y b hx hy (hs b (List.mem_cons_of_mem _ hb)) z' (h1 b hb)
theorem byF_succ (le : Nat → Nat → Bool) (n : Nat) : byF le (n + 1) = insF le n (byF le n) := by
  unfold byF
  rw [List.range_succ, List.foldl_append]
  rfl
theorem byF_perm (le : Nat → Nat → Bool) : ∀ n, (byF le n).Perm (List.range n)
  | 0 => List.Perm.refl _
  | n + 1 => by
    rw [byF_succ, List.range_succ]
    exact (insF_perm le n _).trans (((byF_perm le n).cons n).trans (by
      have := List.perm_append_comm (l₁ := [n]) (l₂ := List.range n)
      exact this))
theorem byF_sorted {le : Nat → Nat → Bool} (ok : Nat → Prop) (tr : ∀ a b c, ok a → ok b → ok c → le a b = true → le b c = true → le a c = true) (tot : ∀ a b, le a b = false → le b a = true) : ∀ n, (∀ i, i < n → ok i) → (byF le n).Pairwise (fun a b => le a b = true)
  | 0, _ => List.Pairwise.nil
  | n + 1, h => by
    rw [byF_succ]
    refine insF_sorted ok tr tot (h n (Nat.lt_succ_self n)) _ (fun y hy => h y ?_) (byF_sorted ok tr tot n fun i hi => h i (Nat.lt_succ_of_lt hi))
    have := List.mem_range.mp ((byF_perm le n).mem_iff.mp hy)
    omega
theorem byF_len (le : Nat → Nat → Bool) (n : Nat) : (byF le n).length = n := by rw [(byF_perm le n).length_eq, List.length_range]
/-! #### levels -/
def lvl (w c l : Rat) : Rat := if w * l < c then w * l else c
def lvls (ws cs : List Rat) (l : Rat) : List Rat := List.zipWith (fun w c => lvl w c l) ws cs
theorem lvl_b {w c l : Rat} (hw : 0 < w) (hc : 0 ≤ c) (hl : 0 ≤ l) : 0 ≤ lvl w c l ∧ lvl w c l ≤ c := by
  have := Rat.mul_nonneg (Rat.le_of_lt hw) hl
  unfold lvl
  split <;> constructor <;> grind
theorem lvls_at {ws cs : List Rat} {l x : Rat} {i : Nat} (h : (lvls ws cs l)[i]? = some x) : ∃ w c, ws[i]? = some w ∧ cs[i]? = some c ∧ x = lvl w c l := by
  unfold lvls at h
  rw [List.getElem?_zipWith] at h
  cases h1 : ws[i]? with
  | none => rw [h1] at h; simp at h
  | some w =>
    cases h2 : cs[i]? with
    | none => rw [h1, h2] at h; simp at h
    | some c =>
      rw [h1, h2] at h
      exact ⟨w, c, rfl, rfl, (Option.some.inj h).symm⟩
theorem lvls_of {ws cs : List Rat} {l w c : Rat} {i : Nat} (h1 : ws[i]? = some w) (h2 : cs[i]? = some c) : (lvls ws cs l)[i]? = some (lvl w c l) := by
  unfold lvls
  rw [List.getElem?_zipWith, h1, h2]
theorem lvls_len {ws cs : List Rat} {l : Rat} (h : ws.length = cs.length) : (lvls ws cs l).length = cs.length := by
  unfold lvls
  rw [List.length_zipWith, h, Nat.min_self]
/-- the program's way to the level -/
def gD (xs : List Rat) (i : Nat) : Rat := xs.getD i 0
def fullLe (ws cs : List Rat) (i j : Nat) : Bool := decide (gD cs i * gD ws j ≤ gD cs j * gD ws i)
def fillAll (ws : List Rat) (l : Rat) (s : List Rat) (ps : List Nat) : List Rat := ps.foldl (fun s o => s.set o (gD ws o * l)) s
def evenGo (ws cs : List Rat) : List Nat → Rat → Rat → List Rat → List Rat
  | [], _, _, s => s
  | p :: r, left, rest, s => if gD ws p * left < gD cs p * rest then fillAll ws (left / rest) s (p :: r) else evenGo ws cs r (left - gD cs p) (rest - gD ws p) s
def evenD (ws cs : List Rat) (q : Rat) : List Rat := evenGo ws cs (byF (fullLe ws cs) cs.length) q (qsum ws) cs
theorem fillAll_len (ws : List Rat) (l : Rat) : ∀ (ps : List Nat) (s : List Rat), (fillAll ws l s ps).length = s.length
  | [], s => rfl
  | p :: r, s => by
    show (fillAll ws l (s.set p _) r).length = _
    rw [fillAll_len ws l r, List.length_set]
theorem fillAll_at (ws : List Rat) (l : Rat) : ∀ (ps : List Nat) (s : List Rat) (i : Nat), i < s.length → (fillAll ws l s ps)[i]? = if i ∈ ps then some (gD ws i * l) else s[i]?
  | [], s, i, _ => by rw [if_neg (by simp)]; rfl
  | p :: r, s, i, hi => by
    show (fillAll ws l (s.set p _) r)[i]? = _
    rw [fillAll_at ws l r _ i (by rw [List.length_set]; exact hi)]
    by_cases h1 : i ∈ r
    · rw [if_pos h1, if_pos (List.mem_cons_of_mem _ h1)]
    · rw [if_neg h1]
      by_cases h2 : i = p
      · subst h2
        rw [if_pos List.mem_cons_self, List.getElem?_set_self hi]
      · rw [if_neg (by
          intro z
          rcases List.mem_cons.mp z with z | z
          · exact h2 z
          · exact h1 z), List.getElem?_set_ne (fun z => h2 z.symm)]
def psum (f : Nat → Rat) (ps : List Nat) : Rat := qsum (ps.map f)
theorem psum_cons (f : Nat → Rat) (p : Nat) (r : List Nat) : psum f (p :: r) = f p + psum f r := rfl
theorem psum_mul (f : Nat → Rat) (k : Rat) (ps : List Nat) : psum (fun p => f p * k) ps = psum f ps * k := by
  unfold psum
  rw [← qsum_map_mul, List.map_map]
  rfl
theorem psum_congr {f g : Nat → Rat} {ps : List Nat} (h : ∀ p ∈ ps, f p = g p) : psum f ps = psum g ps := by
  unfold psum
  rw [List.map_congr_left h]
theorem psum_pos {f : Nat → Rat} : ∀ {ps : List Nat}, (∀ p ∈ ps, 0 < f p) → ps ≠ [] → 0 < psum f ps
  | [], _, h => absurd rfl h
  | [p], h, _ => by
    have := h p List.mem_cons_self
    show 0 < f p + 0
    grind
  | p :: q :: r, h, _ => by
    have h1 := h p List.mem_cons_self
    have h2 := psum_pos (ps := q :: r) (fun x hx => h x (List.mem_cons_of_mem _ hx)) (by simp)
    rw [psum_cons]
    grind
theorem div_le' {a b k : Rat} (h : 0 < b) (e : a ≤ k * b) : a / b ≤ k := by
  apply Rat.not_lt.mp
  intro z
  have := Rat.mul_lt_mul_of_pos_right z h
  rw [Rat.div_mul_cancel (by grind)] at this
  grind
theorem div_nonneg' {a b : Rat} (h : 0 < b) (e : 0 ≤ a) : 0 ≤ a / b := by
  rw [Rat.div_def]
  exact Rat.mul_nonneg e (Rat.le_of_lt (Rat.inv_pos.mpr h))
theorem le_of_mul {a b k : Rat} (h : 0 < k) (e : a * k ≤ b * k) : a ≤ b := by
  apply Rat.not_lt.mp
  intro z
  have := Rat.mul_lt_mul_of_pos_right z h
  grind
theorem lt_of_mul {a b k : Rat} (h : 0 < k) (e : a * k < b * k) : a < b := by
  apply Rat.not_le.mp
  intro z
  have := Rat.mul_le_mul_of_nonneg_right z (Rat.le_of_lt h)
  grind
theorem evenGo_ok (ws cs : List Rat) (hn : ws.length = cs.length) : ∀ (ps : List Nat) (left rest : Rat) (s : List Rat), s.length = cs.length → (∀ p ∈ ps, p < cs.length ∧ 0 < gD ws p ∧ 0 ≤ gD cs p) → ps.Nodup → ps.Pairwise (fun a b => fullLe ws cs a b = true) → (∀ p ∈ ps, s[p]? = some (gD cs p)) →
    rest = psum (gD ws) ps → 0 ≤ left → left ≤ psum (gD cs) ps → ps ≠ [] →
    ∃ l, 0 ≤ l ∧ left ≤ l * rest ∧ (evenGo ws cs ps left rest s).length = cs.length ∧ (∀ i, i < cs.length → (evenGo ws cs ps left rest s)[i]? = if i ∈ ps then some (lvl (gD ws i) (gD cs i) l) else s[i]?) ∧ psum (fun p => lvl (gD ws p) (gD cs p) l) ps = left
  | [], _, _, _, _, _, _, _, _, _, _, _, h => absurd rfl h
  | p :: r, left, rest, s, hs, hp, hnd, hsort, hsat, hrest, h0, h1, _ => by
    obtain ⟨p1, p2, p3⟩ := hp p List.mem_cons_self
    have hr : ∀ x ∈ r, x < cs.length ∧ 0 < gD ws x ∧ 0 ≤ gD cs x := fun x hx => hp x (List.mem_cons_of_mem _ hx)
    obtain ⟨n1, n2⟩ := List.nodup_cons.mp hnd
    obtain ⟨s1, s2⟩ := List.pairwise_cons.mp hsort
    have hrp : 0 < rest := by
      rw [hrest]
      exact psum_pos (fun x hx => (hp x hx).2.1) (by simp)
    rw [psum_cons] at h1
    have hrest' : rest = gD ws p + psum (gD ws) r := hrest
    unfold evenGo
    by_cases hstop : gD ws p * left < gD cs p * rest
    · rw [if_pos hstop]
      have e0 : left / rest * rest = left := Rat.div_mul_cancel (by grind)
      have hl0 : 0 ≤ left / rest := div_nonneg' hrp h0
      have key : ∀ x ∈ p :: r, gD ws x * (left / rest) < gD cs x := fun x hx => by
        obtain ⟨x1, x2, x3⟩ := hp x hx
        have hpx : gD ws p * (left / rest) < gD cs p := lt_of_mul hrp (by rw [Rat.mul_assoc, e0]; exact hstop)
        rcases List.mem_cons.mp hx with rfl | hxr
        · exact hpx
        · have hle : gD cs p * gD ws x ≤ gD cs x * gD ws p := of_decide_eq_true (s1 x hxr)
          have a1 := Rat.mul_lt_mul_of_pos_right hpx x2
          exact lt_of_mul p2 (by grind)
      refine ⟨left / rest, hl0, by rw [e0]; exact Rat.le_refl, by rw [fillAll_len, hs], fun i hi => ?_, ?_⟩
      · rw [fillAll_at ws _ _ s i (by omega)]
        by_cases hm : i ∈ p :: r
        · rw [if_pos hm, if_pos hm]
          unfold lvl
          rw [if_pos (key i hm)]
        · rw [if_neg hm, if_neg hm]
      · have e : psum (fun x => lvl (gD ws x) (gD cs x) (left / rest)) (p :: r) = psum (fun x => gD ws x * (left / rest)) (p :: r) := psum_congr fun x hx => by
          unfold lvl
          rw [if_pos (key x hx)]
        rw [e, psum_mul, ← hrest, Rat.mul_comm, e0]
    · rw [if_neg hstop]
      have hfill : gD cs p * rest ≤ gD ws p * left := Rat.not_lt.mp hstop
      cases r with
      | nil =>
        have er : rest = gD ws p := by rw [hrest']; show _ + (0 : Rat) = _; grind
        have el : left = gD cs p := by
          have a : left ≤ gD cs p + 0 := h1
          rw [er] at hfill
          have := le_of_mul p2 (a := gD cs p) (b := left) (by grind)
          grind
        have e0 : gD cs p / gD ws p * gD ws p = gD cs p := Rat.div_mul_cancel (by grind)
        have ev : lvl (gD ws p) (gD cs p) (gD cs p / gD ws p) = gD cs p := by
          unfold lvl
          rw [if_neg (by grind)]
        refine ⟨gD cs p / gD ws p, div_nonneg' p2 p3, by rw [er, e0, el]; exact Rat.le_refl, hs, fun i hi => ?_, ?_⟩
        · show s[i]? = _
          by_cases hm : i = p
          · subst hm
            rw [if_pos List.mem_cons_self, hsat i List.mem_cons_self, ev]
          · rw [if_neg (by simpa using hm)]
        · show lvl (gD ws p) (gD cs p) _ + 0 = left
          rw [ev, el]
          grind
      | cons p' r' =>
        have hrr : 0 < rest - gD ws p := by
          have := psum_pos (f := gD ws) (ps := p' :: r') (fun x hx => (hr x hx).2.1) (by simp)
          grind
        have hlc : gD cs p ≤ left := by
          have a1 : gD ws p ≤ rest := by grind
          have a2 := Rat.mul_le_mul_of_nonneg_left a1 p3
          exact le_of_mul p2 (by grind)
        obtain ⟨l, l0, l1, l2, l3, l4⟩ := evenGo_ok ws cs hn (p' :: r') (left - gD cs p) (rest - gD ws p) s hs hr n2 s2 (fun x hx => hsat x (List.mem_cons_of_mem _ hx)) (by grind) (by grind) (by grind) (by simp)
        have hcl : gD cs p ≤ gD ws p * l := by
          -- c * (rest - w) ≤ w * (left - c) ≤ w * l * (rest - w)
          have a1 : gD cs p * (rest - gD ws p) ≤ gD ws p * (left - gD cs p) := by grind
          have a2 := Rat.mul_le_mul_of_nonneg_left l1 (Rat.le_of_lt p2)
          exact le_of_mul hrr (by grind)
        have ev : lvl (gD ws p) (gD cs p) l = gD cs p := by
          unfold lvl
          rw [if_neg (by grind)]
        refine ⟨l, l0, by grind, l2, fun i hi => ?_, by rw [psum_cons, l4, ev]; grind⟩
        rw [l3 i hi]
        by_cases hm : i ∈ p' :: r'
        · rw [if_pos hm, if_pos (List.mem_cons_of_mem _ hm)]
        · rw [if_neg hm]
          by_cases hp' : i = p
          · subst hp'
            rw [if_pos List.mem_cons_self, ev]
            exact hsat i List.mem_cons_self
          · rw [if_neg (by
              intro z
              rcases List.mem_cons.mp z with z | z
              · exact hp' z
              · exact hm z)]
theorem gD_at {xs : List Rat} {i : Nat} {x : Rat} (h : xs[i]? = some x) : gD xs i = x := by
  unfold gD
  rw [List.getD_eq_getElem?_getD, h]
  rfl
theorem at_gD {xs : List Rat} {i : Nat} (h : i < xs.length) : xs[i]? = some (gD xs i) := by
  unfold gD
  rw [List.getD_eq_getElem?_getD, List.getElem?_eq_getElem h]
  rfl
theorem qsum_range (xs : List Rat) : psum (gD xs) (List.range xs.length) = qsum xs := by
  unfold psum
  congr 1
  apply List.ext_getElem?
  intro i
  rw [List.getElem?_map]
  by_cases h : i < xs.length
  · rw [List.getElem?_range h, at_gD h]
    rfl
  · rw [List.getElem?_eq_none (by rw [List.length_range]; omega), List.getElem?_eq_none (by omega)]
    rfl
/-- weights that fit: one for each claim, above nought -/
structure WOk (ws cs : List Rat) : Prop where
  len : ws.length = cs.length
  pos : ∀ w ∈ ws, 0 < w
  nn : ∀ c ∈ cs, 0 ≤ c
theorem evenD_level {ws cs : List Rat} {q : Rat} (h : WOk ws cs) (h0 : 0 ≤ q) (h1 : q ≤ qsum cs) (hne : cs ≠ []) : ∃ l, 0 ≤ l ∧ evenD ws cs q = lvls ws cs l ∧ qsum (evenD ws cs q) = q := by
  have hpos : ∀ i, i < cs.length → 0 < gD ws i := fun i hi => h.pos _ (List.mem_of_getElem? (at_gD (by rw [h.len]; exact hi)))
  have hnn : ∀ i, i < cs.length → 0 ≤ gD cs i := fun i hi => h.nn _ (List.mem_of_getElem? (at_gD hi))
  have hperm := byF_perm (fullLe ws cs) cs.length
  have hmem : ∀ p, p ∈ byF (fullLe ws cs) cs.length ↔ p < cs.length := fun p => by rw [hperm.mem_iff, List.mem_range]
  have hsort := byF_sorted (le := fullLe ws cs) (fun i => i < cs.length) (fun a b c ha hb hc h1 h2 => by
    have e1 : gD cs a * gD ws b ≤ gD cs b * gD ws a := of_decide_eq_true h1
    have e2 : gD cs b * gD ws c ≤ gD cs c * gD ws b := of_decide_eq_true h2
    refine decide_eq_true (le_of_mul (hpos b hb) ?_)
    have f1 := Rat.mul_le_mul_of_nonneg_right e1 (Rat.le_of_lt (hpos c hc))
    have f2 := Rat.mul_le_mul_of_nonneg_right e2 (Rat.le_of_lt (hpos a ha))
    grind) (fun a b h1 => by
    have e1 := of_decide_eq_false h1
    exact decide_eq_true (Rat.le_of_lt (Rat.not_le.mp e1))) cs.length fun i hi => hi
  have hsum : ∀ f : Nat → Rat, psum f (byF (fullLe ws cs) cs.length) = psum f (List.range cs.length) := fun f => qsum_perm (hperm.map f)
  obtain ⟨l, l0, _, l2, l3, l4⟩ := evenGo_ok ws cs h.len (byF (fullLe ws cs) cs.length) q (qsum ws) cs rfl (fun p hp => ⟨(hmem p).mp hp, hpos p ((hmem p).mp hp), hnn p ((hmem p).mp hp)⟩) (hperm.nodup_iff.mpr List.nodup_range) hsort (fun p hp => at_gD ((hmem p).mp hp)) (by rw [hsum, ← h.len, qsum_range]) h0 (by rw [hsum, qsum_range]; exact h1) (fun z => by
    have := byF_len (fullLe ws cs) cs.length
    rw [z] at this
    exact hne (List.eq_nil_of_length_eq_zero this.symm))
  have he : evenD ws cs q = lvls ws cs l := by
    apply List.ext_getElem?
    intro i
    by_cases hi : i < cs.length
    · show (evenGo ws cs _ q (qsum ws) cs)[i]? = _
      rw [l3 i hi, if_pos ((hmem i).mpr hi), lvls_of (at_gD (by rw [h.len]; exact hi)) (at_gD hi)]
    · rw [List.getElem?_eq_none (by show (evenGo ws cs _ q (qsum ws) cs).length ≤ i; rw [l2]; omega), List.getElem?_eq_none (by rw [lvls_len h.len]; omega)]
  refine ⟨l, l0, he, ?_⟩
  rw [he, ← l4, hsum, ← qsum_range (lvls ws cs l), lvls_len h.len]
  refine psum_congr fun i hi => ?_
  have hi' := List.mem_range.mp hi
  exact gD_at (lvls_of (at_gD (by rw [h.len]; exact hi')) (at_gD hi'))
theorem evenD_ok {ws cs : List Rat} {q : Rat} (h : WOk ws cs) (h0 : 0 ≤ q) (h1 : q ≤ qsum cs) (hne : cs ≠ []) : Dl cs (evenD ws cs q) q := by
  obtain ⟨l, l0, e, s⟩ := evenD_level h h0 h1 hne
  refine Dl.of (by rw [e, lvls_len h.len]) (fun i x c hx hc => ?_) s
  rw [e] at hx
  obtain ⟨w, d, h2, h3, rfl⟩ := lvls_at hx
  rw [hc] at h3
  obtain rfl := Option.some.inj h3
  exact lvl_b (h.pos w (List.mem_of_getElem? h2)) (h.nn c (List.mem_of_getElem? hc)) l0
/-! #### what lacks -/
def lackD (cs gs : List Rat) : List Rat := List.zipWith (fun c g => c - g) cs gs
theorem lackD_at {cs gs : List Rat} {i : Nat} {x : Rat} (h : (lackD cs gs)[i]? = some x) : ∃ c g, cs[i]? = some c ∧ gs[i]? = some g ∧ x = c - g := by
  unfold lackD at h
  rw [List.getElem?_zipWith] at h
  cases h1 : cs[i]? with
  | none => rw [h1] at h; simp at h
  | some c =>
    cases h2 : gs[i]? with
    | none => rw [h1, h2] at h; simp at h
    | some g =>
      rw [h1, h2] at h
      exact ⟨c, g, rfl, rfl, (Option.some.inj h).symm⟩
theorem lackD_len {cs gs : List Rat} (h : gs.length = cs.length) : (lackD cs gs).length = cs.length := by
  unfold lackD
  rw [List.length_zipWith, h, Nat.min_self]
theorem lackD_sum : ∀ {cs gs : List Rat}, gs.length = cs.length → qsum (lackD cs gs) = qsum cs - qsum gs
  | [], [], _ => by show (0 : Rat) = 0 - 0; rw [Rat.sub_self]
  | c :: cs, g :: gs, h => by
    show c - g + qsum (lackD cs gs) = c + qsum cs - (g + qsum gs)
    rw [lackD_sum (Nat.succ.inj h)]
    grind
  | [], g :: gs, h => absurd h (by simp)
  | c :: cs, [], h => absurd h (by simp)
theorem lackD_ok {cs gs : List Rat} {q : Rat} (h : Dl cs gs q) : Dl cs (lackD cs gs) (qsum cs - q) := by
  refine Dl.of (lackD_len h.len) (fun i x c hx hc => ?_) (by rw [lackD_sum h.len, h.sum])
  obtain ⟨d, g, h1, h2, rfl⟩ := lackD_at hx
  rw [hc] at h1
  obtain rfl := Option.some.inj h1
  obtain ⟨b1, b2⟩ := h.get h2 hc
  constructor <;> grind
/-! #### parts, halves -/
def partD (cs : List Rat) (q : Rat) : List Rat := if qsum cs = 0 then zeros cs else cs.map fun c => c / qsum cs * q
theorem qsum_zero : ∀ {cs : List Rat}, (∀ c ∈ cs, 0 ≤ c) → qsum cs = 0 → ∀ c ∈ cs, c = 0
  | [], _, _, c, h => nomatch h
  | x :: xs, hn, hs, c, h => by
    have a1 := hn x List.mem_cons_self
    have hr : ∀ c ∈ xs, 0 ≤ c := fun c hc => hn c (List.mem_cons_of_mem _ hc)
    have a2 := qsum_nonneg hr
    have hs' : x + qsum xs = 0 := hs
    rcases List.mem_cons.mp h with rfl | h
    · grind
    · exact qsum_zero hr (by grind) c h
theorem partD_map {cs : List Rat} {q : Rat} (hn : ∀ c ∈ cs, 0 ≤ c) : partD cs q = cs.map fun c => c * (q / qsum cs) := by
  unfold partD
  split
  · rename_i h
    unfold zeros
    exact List.map_congr_left fun c hc => by rw [qsum_zero hn h c hc, Rat.zero_mul]
  · exact List.map_congr_left fun c _ => by rw [Rat.div_def, Rat.div_def, Rat.mul_assoc, Rat.mul_comm q]
theorem partD_ok {cs : List Rat} {q : Rat} (hn : ∀ c ∈ cs, 0 ≤ c) (h0 : 0 ≤ q) (h1 : q ≤ qsum cs) : Dl cs (partD cs q) q := by
  rw [partD_map hn]
  have hw := qsum_nonneg hn
  by_cases hz : qsum cs = 0
  · have hq : q = 0 := by grind
    have e : cs.map (fun c => c * (q / qsum cs)) = zeros cs := by
      unfold zeros
      exact List.map_congr_left fun c hc => by rw [qsum_zero hn hz c hc, Rat.zero_mul]
    rw [e, hq]
    refine Dl.of (by unfold zeros; rw [List.length_map]) (fun i x c hx hc => ?_) (zeros_sum cs)
    unfold zeros at hx
    rw [List.getElem?_map, hc] at hx
    obtain rfl := Option.some.inj hx
    exact ⟨Rat.le_refl, hn c (List.mem_of_getElem? hc)⟩
  · have hp : 0 < qsum cs := by grind
    have t0 := div_nonneg' hp h0
    have t1 : q / qsum cs ≤ 1 := div_le' hp (by grind)
    refine Dl.of (by rw [List.length_map]) (fun i x c hx hc => ?_) (by rw [qsum_map_mul, Rat.mul_comm, Rat.div_mul_cancel hz])
    rw [List.getElem?_map, hc] at hx
    obtain rfl := Option.some.inj hx
    have c0 := hn c (List.mem_of_getElem? hc)
    have a2 := Rat.mul_le_mul_of_nonneg_left t1 c0
    exact ⟨Rat.mul_nonneg c0 t0, by grind⟩
def ones (cs : List Rat) : List Rat := cs.map fun _ => 1
def hv (xs : List Rat) : List Rat := xs.map fun x => 1 / 2 * x
def halfD (cs : List Rat) (q : Rat) : List Rat := if qsum cs < q + q then lackD cs (hv (evenD (ones cs) cs (qsum cs + qsum cs - (q + q)))) else hv (evenD (ones cs) cs (q + q))
theorem ones_ok {cs : List Rat} (hn : ∀ c ∈ cs, 0 ≤ c) : WOk (ones cs) cs := ⟨by unfold ones; rw [List.length_map], fun w hw => by
  obtain ⟨_, _, rfl⟩ := List.mem_map.mp hw
  decide, hn⟩
theorem hv_sum (xs : List Rat) : qsum (hv xs) = 1 / 2 * qsum xs := by
  have := qsum_map_mul (1 / 2) xs
  rw [Rat.mul_comm, ← this]
  unfold hv
  congr 1
  exact List.map_congr_left fun x _ => Rat.mul_comm _ _
theorem hv_at {xs : List Rat} {i : Nat} {x : Rat} (h : (hv xs)[i]? = some x) : ∃ y, xs[i]? = some y ∧ x = 1 / 2 * y := by
  unfold hv at h
  rw [List.getElem?_map] at h
  cases e : xs[i]? with
  | none => rw [e] at h; cases h
  | some y => rw [e] at h; exact ⟨y, rfl, (Option.some.inj h).symm⟩
theorem hv_len (xs : List Rat) : (hv xs).length = xs.length := List.length_map _
theorem half_dl {cs g : List Rat} {q : Rat} (hn : ∀ c ∈ cs, 0 ≤ c) (h : Dl cs g (q + q)) : Dl cs (hv g) q := by
  refine Dl.of (by rw [hv_len, h.len]) (fun i x c hx hc => ?_) (by rw [hv_sum, h.sum]; grind)
  obtain ⟨y, hy, rfl⟩ := hv_at hx
  obtain ⟨b1, b2⟩ := h.get hy hc
  have := hn c (List.mem_of_getElem? hc)
  constructor <;> grind
theorem halfD_ok {cs : List Rat} {q : Rat} (hn : ∀ c ∈ cs, 0 ≤ c) (h0 : 0 ≤ q) (h1 : q ≤ qsum cs) (hne : cs ≠ []) : Dl cs (halfD cs q) q := by
  unfold halfD
  split
  · rename_i h
    have e := evenD_ok (q := qsum cs + qsum cs - (q + q)) (ones_ok hn) (by grind) (by grind) hne
    have e' := half_dl (q := qsum cs - q) hn (by rw [show qsum cs - q + (qsum cs - q) = qsum cs + qsum cs - (q + q) by grind]; exact e)
    have := lackD_ok e'
    rw [show qsum cs - (qsum cs - q) = q by grind] at this
    exact this
  · exact half_dl hn (evenD_ok (ones_ok hn) (by grind) (by grind) hne)
/-! #### the six ways -/
inductive Wy where
  | row | back | even | lack | part | half
deriving DecidableEq
def Wy.s : Wy → Str
  | .row => "row" | .back => "back" | .even => "even" | .lack => "lack" | .part => "part" | .half => "half"
/-- has weights -/
def Wy.wd : Wy → Bool
  | .even | .lack => true
  | _ => false
def dealOf (y : Wy) (ws cs : List Rat) (q : Rat) : List Rat :=
  match y with
  | .row => rowD cs q
  | .back => (rowD cs.reverse q).reverse
  | .even => evenD ws cs q
  | .lack => lackD cs (evenD ws cs (qsum cs - q))
  | .part => partD cs q
  | .half => halfD cs q
structure Fit (y : Wy) (ws cs : List Rat) : Prop where
  ne : cs ≠ []
  nn : ∀ c ∈ cs, 0 ≤ c
  wt : y.wd = true → ws.length = cs.length ∧ ∀ w ∈ ws, 0 < w
theorem Fit.ok {y : Wy} {ws cs : List Rat} (h : Fit y ws cs) (e : y.wd = true) : WOk ws cs := ⟨(h.wt e).1, (h.wt e).2, h.nn⟩
theorem Dl.rev {cs g : List Rat} {q : Rat} (h : Dl cs.reverse g q) : Dl cs g.reverse q := by
  have hl := h.len
  rw [List.length_reverse] at hl
  refine Dl.of (by rw [List.length_reverse, hl]) (fun i x c hx hc => ?_) (by rw [qsum_reverse, h.sum])
  have hi := getElem?_lt hc
  rw [List.getElem?_reverse (by omega)] at hx
  exact h.get hx (by rw [List.getElem?_reverse (by omega)]; rw [show cs.length - 1 - (g.length - 1 - i) = i by omega]; exact hc)
theorem dealOf_ok {y : Wy} {ws cs : List Rat} {q : Rat} (h : Fit y ws cs) (h0 : 0 ≤ q) (h1 : q ≤ qsum cs) : Dl cs (dealOf y ws cs q) q := by
  cases y with
  | row => exact rowD_ok h.nn h0 h1
  | back => exact (rowD_ok (cs := cs.reverse) (fun c hc => h.nn c (List.mem_reverse.mp hc)) h0 (by rw [qsum_reverse]; exact h1)).rev
  | even => exact evenD_ok (h.ok rfl) h0 h1 h.ne
  | lack =>
    have := lackD_ok (evenD_ok (q := qsum cs - q) (h.ok rfl) (by grind) (by grind) h.ne)
    rw [show qsum cs - (qsum cs - q) = q by grind] at this
    exact this
  | part => exact partD_ok h.nn h0 h1
  | half => exact halfD_ok h.nn h0 h1 h.ne
end Pu
set_option maxRecDepth 100000
namespace Pu
open PySem PySem.Spec PyProof.Rows L2
/-! ### ways: what the program's defs do -/
def WAYSL : List Str := ["row", "back", "even", "lack", "part", "half"]
def WEIGHEDL : List Str := ["even", "lack"]
theorem ints_at {ns : List Int} {i : Nat} {n : Int} {k : Int} (hk : k = (i : Int)) (h : ns[i]? = some n) : atI (ns.map PyData.int) k = some (.int n) := by
  rw [hk]
  exact atI_nat (by rw [List.getElem?_map, h] <;> rfl)
theorem qlist_at {ns : List Int} {i : Nat} {n : Int} (h : ns[i]? = some n) : (qlist ns)[i]? = some (n : Rat) := by
  unfold qlist
  rw [List.getElem?_map, h]
  rfl
theorem qlist_len (ns : List Int) : (qlist ns).length = ns.length := List.length_map _
theorem qlist_sum : ∀ ns : List Int, qsum (qlist ns) = ((ns.sum : Int) : Rat)
  | [] => rfl
  | n :: ns => by
    show (n : Rat) + qsum (qlist ns) = ((n + ns.sum : Int) : Rat)
    rw [qlist_sum ns, Rat.intCast_add]
def small (ns : List Int) (B : Nat) : Prop := ∀ n ∈ ns, n.natAbs < 2 ^ B
/-- sums of few -/
theorem sum_small : ∀ {ns : List Int} {B : Nat}, small ns B → ns.sum.natAbs ≤ ns.length * 2 ^ B
  | [], B, _ => by simp
  | n :: ns, B, h => by
    have h1 := h n List.mem_cons_self
    have h2 := sum_small (ns := ns) (B := B) fun m hm => h m (List.mem_cons_of_mem _ hm)
    rw [List.sum_cons, List.length_cons, Nat.succ_mul]
    omega
theorem sum_lt {ns : List Int} {B : Nat} (h : small ns B) (hl : ns.length ≤ 128) : ns.sum.natAbs < 2 ^ (B + 8) := by
  have a := sum_small h
  have e : 2 ^ (B + 8) = 256 * 2 ^ B := by rw [Nat.pow_add]; omega
  have p := Nat.two_pow_pos B
  have b : ns.length * 2 ^ B ≤ 128 * 2 ^ B := Nat.mul_le_mul_right _ hl
  omega
/-- weights that fit a way -/
def wfit (w : Str) (ws : List Int) (n : Nat) : Bool := if WEIGHEDL.contains w then (decide (ws.length = n) && ws.all fun x => decide (1 ≤ x) && decide (x ≤ 1000000)) else decide (ws.length = 0)
def badC (cs : List Int) : Bool := decide (cs.length = 0) || cs.any fun c => decide (c < 0)
/-- which refusal comes first: 0 the way, 1 the claims, 2 the weights, 4 none -/
def lookC (w : Str) (ws cs : List Int) : Nat := if WAYSL.contains w then (if badC cs then 1 else if wfit w ws cs.length then 4 else 2) else 0
theorem ones_q (cs : List Int) : ones (qlist cs) = qlist (cs.map fun _ => 1) := by
  unfold ones qlist
  rw [List.map_map, List.map_map]
  rfl
/-- sizes of whatever is dealt -/
def hB (n B : Nat) : Nat := n + 300 * (B + 1) + 300
/-- what is asked of claims and weights -/
structure Ask (y : Wy) (ws cs : List Int) (q : Rat) (B n : Nat) : Prop where
  ne : cs ≠ []
  nn : ∀ c ∈ cs, 0 ≤ c
  wt : y.wd = true → ws.length = cs.length ∧ ∀ w ∈ ws, 0 < w
  lo : 0 ≤ q
  hi : q ≤ qsum (qlist cs)
  len : cs.length ≤ 64
  sw : small ws B
  sc : small cs B
  b0 : 0 < B
  b1 : B ≤ 10000
  bq : bt q n
  n1 : n ≤ 1000000
theorem nn_q {cs : List Int} (h : ∀ c ∈ cs, 0 ≤ c) : ∀ c ∈ qlist cs, 0 ≤ c := fun c hc => by
  obtain ⟨c', h', rfl⟩ := List.mem_map.mp hc
  exact_mod_cast h c' h'
theorem Ask.fit {y : Wy} {ws cs : List Int} {q : Rat} {B n : Nat} (h : Ask y ws cs q B n) : Fit y (qlist ws) (qlist cs) :=
  ⟨fun z => h.ne (List.map_eq_nil_iff.mp z), nn_q h.nn, fun e => ⟨by rw [qlist_len, qlist_len]; exact (h.wt e).1, fun w hw => by
    obtain ⟨w', h', rfl⟩ := List.mem_map.mp hw
    exact_mod_cast (h.wt e).2 w' h'⟩⟩
theorem qlist_rev (cs : List Int) : (qlist cs).reverse = qlist cs.reverse := List.map_reverse.symm
def wyOf (w : Str) : Wy := if w = "row" then .row else if w = "back" then .back else if w = "even" then .even else if w = "lack" then .lack else if w = "part" then .part else .half
theorem wyOf_s (y : Wy) : wyOf y.s = y := by cases y <;> decide
theorem way_cases {w : Str} (h : WAYSL.contains w = true) : ∃ y : Wy, w = y.s := by
  have h' : w ∈ WAYSL := List.contains_iff_mem.mp h
  unfold WAYSL at h'
  simp only [List.mem_cons, List.not_mem_nil, or_false] at h'
  rcases h' with rfl | rfl | rfl | rfl | rfl | rfl
  · exact ⟨.row, rfl⟩
  · exact ⟨.back, rfl⟩
  · exact ⟨.even, rfl⟩
  · exact ⟨.lack, rfl⟩
  · exact ⟨.part, rfl⟩
  · exact ⟨.half, rfl⟩
theorem ways_s (y : Wy) : WAYSL.contains y.s = true := by cases y <;> decide
theorem weighed_s (y : Wy) : WEIGHEDL.contains y.s = y.wd := by cases y <;> decide
/-- which refusal comes first, with the catch: 3 beyond its bounds -/
def dealC (w : Str) (ws cs : List Int) (q : Rat) : Nat := if lookC w ws cs = 4 then (if q < 0 ∨ qsum (qlist cs) < q then 3 else 4) else lookC w ws cs
theorem wfit_iff {y : Wy} {ws : List Int} {n : Nat} : wfit y.s ws n = true ↔ if y.wd then ws.length = n ∧ ∀ w ∈ ws, 1 ≤ w ∧ w ≤ 1000000 else ws = [] := by
  unfold wfit
  rw [weighed_s]
  cases y.wd
  · simp
  · simp
theorem dealC_ok {y : Wy} {ws cs : List Int} {q : Rat} (hne : cs ≠ []) (hnn : ∀ c ∈ cs, 0 ≤ c) (hf : wfit y.s ws cs.length = true) (h0 : 0 ≤ q) (h1 : q ≤ qsum (qlist cs)) : dealC y.s ws cs q = 4 := by
  have hb : badC cs = false := by
    unfold badC
    rw [Bool.or_eq_false_iff]
    refine ⟨decide_eq_false fun z => hne (List.eq_nil_of_length_eq_zero z), ?_⟩
    rw [List.any_eq_false]
    intro c hc
    have := hnn c hc
    rw [decide_eq_true_eq]
    omega
  have hlook : lookC y.s ws cs = 4 := by
    unfold lookC
    rw [if_pos (ways_s y), if_neg (by rw [hb]; decide), if_pos hf]
  unfold dealC
  rw [if_pos hlook, if_neg]
  rintro (z | z)
  · exact Rat.not_lt.mpr h0 z
  · exact Rat.not_lt.mpr h1 z
/-! ### a list lent to a call that gives a plain thing -/
/-! ### small things of the laws -/
theorem at_4 {α : Type} {a b c d : α} {k : Int} (h0 : 0 ≤ k) (h : k < 4) : atI [a, b, c, d] k = some (if k = 0 then a else if k = 1 then b else if k = 2 then c else d) := by
  rcases (by omega : k = 0 ∨ k = 1 ∨ k = 2 ∨ k = 3) with rfl | rfl | rfl | rfl <;> rfl
/-! ### dealings looked at by the laws -/
/-- whole numbers and levels -/
theorem num_den (q : Rat) : (q.num : Rat) = q * ((q.den : Int) : Rat) := by
  have hd : ((q.den : Int) : Rat) ≠ 0 := by
    have : (0 : Int) < (q.den : Int) := by have := q.den_pos; omega
    have : (0 : Rat) < ((q.den : Int) : Rat) := by exact_mod_cast this
    grind
  have e := Rat.div_mul_cancel (a := (q.num : Rat)) (b := ((q.den : Int) : Rat)) hd
  rw [← Rat.divInt_eq_div, q_mk] at e
  exact e.symm
end Pu
set_option maxRecDepth 100000
namespace Pu
open PySem PySem.Spec PyProof.Rows L2
/-! ### what the laws of ways draw; fractions in order -/
theorem s_shaped (y : Wy) : SeqAt.shaped (.str y.s) = true := by cases y <;> decide +kernel
def wList (b : Bool) (f : Nat → Int) (i : Nat) : List Int := if b then (List.range i).map f else []
structure Drawn (y : Wy) (ws cs : List Int) (most : Nat) : Prop where
  ne : cs ≠ []
  len : cs.length ≤ most
  nn : ∀ c ∈ cs, 0 ≤ c
  sm : small cs 100
  fit : wfit y.s ws cs.length = true
  wl : ws = [] ∨ ws.length = cs.length
  wb : ∀ w ∈ ws, 1 ≤ w ∧ w ≤ 1000000
/-! fractions in order -/
theorem Drawn.mono {y : Wy} {ws cs : List Int} {m n : Nat} (h : Drawn y ws cs m) (hm : m ≤ n) : Drawn y ws cs n := ⟨h.ne, Nat.le_trans h.len hm, h.nn, h.sm, h.fit, h.wl, h.wb⟩
theorem Drawn.ok {y : Wy} {ws cs : List Int} {m : Nat} {q : Rat} (h : Drawn y ws cs m) (h0 : 0 ≤ q) (h1 : q ≤ qsum (qlist cs)) : dealC y.s ws cs q = 4 := dealC_ok h.ne h.nn h.fit h0 h1
end Pu
set_option maxRecDepth 100000
namespace Pu
open PySem PySem.Spec PyProof.Rows L2
/-! ### customs -/
inductive Cu where
  | boat (c : Int)
  | knot (y : Wy) (ws : List Int) (ks : List Cu)
theorem Cu.ind {P : Cu → Prop} (hb : ∀ c, P (.boat c)) (hk : ∀ y ws ks, (∀ k ∈ ks, P k) → P (.knot y ws ks)) : ∀ u, P u := fun u =>
  Cu.rec (motive_1 := P) (motive_2 := fun ks => ∀ k ∈ ks, P k) hb (fun y ws ks h => hk y ws ks h) (fun k h => by cases h) (fun k r h1 h2 x hx => by
    rcases List.mem_cons.mp hx with rfl | hx
    · exact h1
    · exact h2 x hx) u
mutual
def Cu.d : Cu → D
  | .boat c => .tuple [.str "boat", .int c]
  | .knot y ws ks => .tuple [.str y.s, .tuple (ws.map PyData.int), .tuple (Cu.dL ks)]
def Cu.dL : List Cu → List D
  | [] => []
  | k :: r => k.d :: Cu.dL r
end
mutual
def Cu.claims : Cu → List Int
  | .boat c => [c]
  | .knot _ _ ks => Cu.claimsL ks
def Cu.claimsL : List Cu → List Int
  | [] => []
  | k :: r => k.claims ++ Cu.claimsL r
end
mutual
def Cu.deep : Cu → Nat
  | .boat _ => 1
  | .knot _ _ ks => 1 + Cu.deepL ks
def Cu.deepL : List Cu → Nat
  | [] => 0
  | k :: r => max k.deep (Cu.deepL r)
end
mutual
def Cu.ok : Cu → Prop
  | .boat c => 0 ≤ c ∧ c ≤ 1000000000
  | .knot y ws ks => (ks ≠ [] ∧ ks.length ≤ 12 ∧ wfit y.s ws ks.length = true) ∧ Cu.okL ks
def Cu.okL : List Cu → Prop
  | [] => True
  | k :: r => k.ok ∧ Cu.okL r
end
theorem Cu.dL_map : ∀ ks : List Cu, Cu.dL ks = ks.map Cu.d
  | [] => rfl
  | k :: r => by rw [Cu.dL, Cu.dL_map r]; rfl
theorem Cu.okL_all : ∀ {ks : List Cu}, Cu.okL ks ↔ ∀ k ∈ ks, k.ok
  | [] => ⟨fun _ k h => (by cases h), fun _ => trivial⟩
  | k :: r => by
    rw [Cu.okL, Cu.okL_all (ks := r)]
    exact ⟨fun h x hx => by
      rcases List.mem_cons.mp hx with rfl | hx
      · exact h.1
      · exact h.2 x hx, fun h => ⟨h k List.mem_cons_self, fun x hx => h x (List.mem_cons_of_mem _ hx)⟩⟩
theorem Cu.deepL_le : ∀ {ks : List Cu} {n : Nat}, Cu.deepL ks ≤ n ↔ ∀ k ∈ ks, k.deep ≤ n
  | [], n => ⟨fun _ k h => (by cases h), fun _ => Nat.zero_le _⟩
  | k :: r, n => by
    rw [Cu.deepL, Nat.max_le, Cu.deepL_le (ks := r)]
    exact ⟨fun h x hx => by
      rcases List.mem_cons.mp hx with rfl | hx
      · exact h.1
      · exact h.2 x hx, fun h => ⟨h k List.mem_cons_self, fun x hx => h x (List.mem_cons_of_mem _ hx)⟩⟩
theorem Cu.deep_kid {y : Wy} {ws : List Int} {ks : List Cu} {k : Cu} (h : k ∈ ks) : k.deep < (Cu.knot y ws ks).deep := by
  have := (Cu.deepL_le (ks := ks) (n := Cu.deepL ks)).mp (Nat.le_refl _) k h
  show k.deep < 1 + Cu.deepL ks
  omega
theorem Cu.ok_kid {y : Wy} {ws : List Int} {ks : List Cu} {k : Cu} (h : (Cu.knot y ws ks).ok) (hk : k ∈ ks) : k.ok := Cu.okL_all.mp h.2 k hk
theorem Cu.claimsL_cut : ∀ (ks : List Cu) (i : Nat) (k : Cu), ks[i]? = some k → Cu.claimsL (ks.take (i + 1)) = Cu.claimsL (ks.take i) ++ k.claims
  | [], i, k, h => by cases h
  | a :: r, 0, k, h => by
    obtain rfl := Option.some.inj h
    show a.claims ++ [] = [] ++ a.claims
    rw [List.append_nil, List.nil_append]
  | a :: r, i + 1, k, h => by
    have := Cu.claimsL_cut r i k h
    show a.claims ++ Cu.claimsL (r.take (i + 1)) = a.claims ++ Cu.claimsL (r.take i) ++ k.claims
    rw [this, List.append_assoc]
theorem Cu.claimsL_le : ∀ (ks : List Cu) (i : Nat), (Cu.claimsL (ks.take i)).length ≤ (Cu.claimsL ks).length
  | [], i => by rw [List.take_nil]; exact Nat.le_refl _
  | a :: r, 0 => Nat.zero_le _
  | a :: r, i + 1 => by
    have := Cu.claimsL_le r i
    show (a.claims ++ Cu.claimsL (r.take i)).length ≤ (a.claims ++ Cu.claimsL r).length
    rw [List.length_append, List.length_append]
    omega
theorem Cu.claimsL_mem : ∀ {ks : List Cu} {k : Cu}, k ∈ ks → k.claims.length ≤ (Cu.claimsL ks).length
  | [], k, h => by cases h
  | a :: r, k, h => by
    show k.claims.length ≤ (a.claims ++ Cu.claimsL r).length
    rw [List.length_append]
    rcases List.mem_cons.mp h with rfl | h
    · omega
    · have := Cu.claimsL_mem h
      omega
theorem Cu.claims_kid {y : Wy} {ws : List Int} {ks : List Cu} {k : Cu} (h : k ∈ ks) : k.claims.length ≤ (Cu.knot y ws ks).claims.length := Cu.claimsL_mem (ks := ks) h
theorem Cu.claims_ne : ∀ {u : Cu}, u.ok → u.claims ≠ [] := fun {u} => Cu.ind (P := fun u => u.ok → u.claims ≠ []) (fun c _ => by
    show [c] ≠ []
    exact List.cons_ne_nil _ _) (fun y ws ks ih h z => by
    have hne := h.1.1
    cases ks with
    | nil => exact hne rfl
    | cons k r =>
      have := ih k List.mem_cons_self (Cu.ok_kid h List.mem_cons_self)
      have z' : k.claims ++ Cu.claimsL r = [] := z
      exact this (List.append_eq_nil_iff.mp z').1) u
theorem Cu.claims_b : ∀ {u : Cu}, u.ok → ∀ c ∈ u.claims, 0 ≤ c ∧ c ≤ 1000000000 := fun {u} => Cu.ind (P := fun u => u.ok → ∀ c ∈ u.claims, 0 ≤ c ∧ c ≤ 1000000000) (fun c h x hx => by
    obtain rfl := List.mem_singleton.mp (show x ∈ [c] from hx)
    exact h) (fun y ws ks ih h c hc => by
    have : ∀ ks : List Cu, (∀ k ∈ ks, k.ok → ∀ c ∈ k.claims, 0 ≤ c ∧ c ≤ 1000000000) → (∀ k ∈ ks, k.ok) → ∀ c ∈ Cu.claimsL ks, 0 ≤ c ∧ c ≤ 1000000000 := fun ks => by
      induction ks with
      | nil => intro _ _ c hc; cases hc
      | cons k r ih2 =>
        intro h1 h2 c hc
        rcases List.mem_append.mp (show c ∈ k.claims ++ Cu.claimsL r from hc) with hc | hc
        · exact h1 k List.mem_cons_self (h2 k List.mem_cons_self) c hc
        · exact ih2 (fun x hx => h1 x (List.mem_cons_of_mem _ hx)) (fun x hx => h2 x (List.mem_cons_of_mem _ hx)) c hc
    exact this ks ih (fun k hk => Cu.ok_kid h hk) c hc) u
theorem Cu.deep_pos (u : Cu) : 1 ≤ u.deep := by
  cases u with
  | boat c => exact Nat.le_refl _
  | knot y ws ks => show 1 ≤ 1 + _; omega
def Cu.isB : Cu → Bool
  | .boat _ => true
  | .knot .. => false
def Cu.sum (u : Cu) : Int := u.claims.sum
def Cu.sums (ks : List Cu) : List Int := ks.map Cu.sum
theorem Cu.sums_sum : ∀ ks : List Cu, (Cu.sums ks).sum = (Cu.claimsL ks).sum
  | [] => rfl
  | k :: r => by
    show (k.sum :: Cu.sums r).sum = (k.claims ++ Cu.claimsL r).sum
    rw [List.sum_cons, List.sum_append, Cu.sums_sum r]
    rfl
mutual
def Cu.deal : Cu → Rat → List Rat
  | .boat _, q => [q]
  | .knot y ws ks, q => Cu.dealL ks (dealOf y (qlist ws) (qlist (ks.map Cu.sum)) q)
def Cu.dealL : List Cu → List Rat → List Rat
  | [], _ => []
  | _ :: _, [] => []
  | k :: r, g :: gs => k.deal g ++ Cu.dealL r gs
end
/-- customs that may stand: not too many boats, not too deep -/
structure Cu.Ok (u : Cu) : Prop where
  ok : u.ok
  few : u.claims.length ≤ 12
  low : u.deep ≤ 8
theorem Cu.Ok.kid {y : Wy} {ws : List Int} {ks : List Cu} {k : Cu} (h : (Cu.knot y ws ks).Ok) (hk : k ∈ ks) : k.Ok := ⟨Cu.ok_kid h.ok hk, Nat.le_trans (Cu.claims_kid hk) h.few, Nat.le_trans (Nat.le_of_lt (Cu.deep_kid hk)) h.low⟩
def cBoat (C : Addr) : Ct := fun ds k => ∃ c : Int, ds = [.int c] ∧ ((c < 0 ∨ 1000000000 < c) → k.ex (.ref C)) ∧ (0 ≤ c ∧ c ≤ 1000000000 → k.rt (Cu.boat c).d)
theorem boat_v {C : Addr} {c : Int} (h0 : 0 ≤ c) (h1 : c ≤ 1000000000) : cBoat C [.int c] (kv (Cu.boat c).d) := ⟨c, rfl, (fun z => by omega), fun _ => rfl⟩
def cIsBoat : Ct := fun ds k => ∃ u : Cu, ds = [u.d] ∧ k.rt (.bool u.isB)
theorem isBoat_v {u : Cu} : cIsBoat [u.d] (kv (.bool u.isB)) := ⟨u, rfl, rfl⟩
def cLookW (C : Addr) : Ct := fun ds k => ∃ (w : Str) (dw : D) (ws : List Int) (n : Nat), ds = [.str w, dw, .int (n : Int)] ∧ SeqD dw (ws.map PyData.int) ∧ ws.length ≤ 100000 ∧ (wfit w ws n = false → k.ex (.ref C)) ∧ (wfit w ws n = true → k.rt .none)
theorem lookW_v {C : Addr} {w : Str} {dw : D} {ws : List Int} {n : Nat} (hd : SeqD dw (ws.map PyData.int)) (hl : ws.length ≤ 100000) (h : wfit w ws n = true) : cLookW C [.str w, dw, .int (n : Int)] (kv .none) := ⟨w, dw, ws, n, rfl, hd, hl, (fun z => by rw [h] at z; cases z), fun _ => rfl⟩
theorem lookW_x {C : Addr} {w : Str} {dw : D} {ws : List Int} {n : Nat} (hd : SeqD dw (ws.map PyData.int)) (hl : ws.length ≤ 100000) (h : wfit w ws n = false) : cLookW C [.str w, dw, .int (n : Int)] (kx (.ref C)) := ⟨w, dw, ws, n, rfl, hd, hl, fun _ => rfl, (fun z => by rw [h] at z; cases z)⟩
def cClaimsOf (n : Nat) : Ct := fun ds k => ∃ u : Cu, ds = [u.d] ∧ u.deep ≤ n ∧ u.claims.length ≤ 100000 ∧ k.rl (u.claims.map PyData.int)
theorem claimsOf_v {n : Nat} {u : Cu} (h : u.deep ≤ n) (hl : u.claims.length ≤ 100000) : cClaimsOf n [u.d] (kl (u.claims.map PyData.int)) := ⟨u, rfl, h, hl, rfl⟩
def cDeepOf (n : Nat) : Ct := fun ds k => ∃ u : Cu, ds = [u.d] ∧ u.ok ∧ u.deep ≤ n ∧ k.rt (.int (u.deep : Int))
theorem deepOf_v {n : Nat} {u : Cu} (h : u.ok) (hd : u.deep ≤ n) : cDeepOf n [u.d] (kv (.int (u.deep : Int))) := ⟨u, rfl, h, hd, rfl⟩
/-- what making a knot comes to: 0 no way, 1 bad weights, 2 too many, 4 made -/
def knotC (w : Str) (ws : List Int) (ks : List Cu) : Nat := if WAYSL.contains w then (if wfit w ws ks.length then (if ks.length = 0 ∨ 12 < ks.length ∨ 12 < (Cu.claimsL ks).length ∨ 8 < 1 + Cu.deepL ks then 2 else 4) else 1) else 0
def cKnot (C0 C1 C2 : Addr) : Ct := fun ds k => ∃ (w : Str) (dw dk : D) (ws : List Int) (ks : List Cu), ds = [.str w, dw, dk] ∧ SeqD dw (ws.map PyData.int) ∧ SeqD dk (ks.map Cu.d) ∧ ws.length ≤ 100000 ∧ (∀ u ∈ ks, u.Ok) ∧
  (knotC w ws ks = 0 → k.ex (.ref C0)) ∧ (knotC w ws ks = 1 → k.ex (.ref C1)) ∧ (knotC w ws ks = 2 → k.ex (.ref C2)) ∧ (knotC w ws ks = 4 → k.rt (Cu.knot (wyOf w) ws ks).d)
theorem knotC_ok {y : Wy} {ws : List Int} {ks : List Cu} (h : (Cu.knot y ws ks).Ok) : knotC y.s ws ks = 4 := by
  obtain ⟨⟨⟨h1, h2, h3⟩, h4⟩, h5, h6⟩ := h
  have h0 : ks.length ≠ 0 := fun z => h1 (List.length_eq_zero_iff.mp z)
  have h5 : (Cu.claimsL ks).length ≤ 12 := h5
  have h6 : 1 + Cu.deepL ks ≤ 8 := h6
  unfold knotC
  rw [if_pos (ways_s y), if_pos h3, if_neg (by omega)]
theorem Cu.Ok.w10 {y : Wy} {ws : List Int} {ks : List Cu} (h : (Cu.knot y ws ks).Ok) : ws.length ≤ 12 := by
  obtain ⟨⟨h1, h2, h3⟩, _⟩ := h.ok
  have := wfit_iff.mp h3
  split at this
  · omega
  · rw [this]; exact Nat.zero_le _
theorem knot_v {C0 C1 C2 : Addr} {y : Wy} {dw dk : D} {ws : List Int} {ks : List Cu} (hw : SeqD dw (ws.map PyData.int)) (hk : SeqD dk (ks.map Cu.d)) (h : (Cu.knot y ws ks).Ok) : cKnot C0 C1 C2 [.str y.s, dw, dk] (kv (Cu.knot y ws ks).d) := by
  have e := knotC_ok h
  have := h.w10
  exact ⟨y.s, dw, dk, ws, ks, rfl, hw, hk, by omega, fun u hu => h.kid hu, (fun z => by rw [e] at z; cases z), (fun z => by rw [e] at z; cases z), (fun z => by rw [e] at z; cases z), fun _ => by rw [wyOf_s]; rfl⟩
theorem knotC_made {y : Wy} {ws : List Int} {ks : List Cu} (h : knotC y.s ws ks = 4) (hk : ∀ u ∈ ks, u.Ok) : (Cu.knot y ws ks).Ok := by
  unfold knotC at h
  rw [if_pos (ways_s y)] at h
  split at h
  · rename_i h3
    split at h
    · cases h
    · rename_i h4
      exact ⟨⟨⟨fun z => h4 (.inl (by rw [z]; rfl)), by omega, h3⟩, Cu.okL_all.mpr fun u hu => (hk u hu).ok⟩, show (Cu.claimsL ks).length ≤ 12 by omega, show 1 + Cu.deepL ks ≤ 8 by omega⟩
  · cases h
/-! what a custom deals -/
theorem qlist_append (a b : List Int) : qlist (a ++ b) = qlist a ++ qlist b := by unfold qlist; rw [List.map_append]
theorem dl_append : ∀ {cs cs' g g' : List Rat} {q q' : Rat}, Dl cs g q → Dl cs' g' q' → Dl (cs ++ cs') (g ++ g') (q + q') := fun {cs cs' g g' q q'} h h' => Dl.of (by rw [List.length_append, List.length_append, h.len, h'.len]) (fun i x c hx hc => by
    by_cases hi : i < g.length
    · rw [List.getElem?_append_left hi] at hx
      rw [List.getElem?_append_left (by rw [← h.len]; exact hi)] at hc
      exact h.get hx hc
    · rw [List.getElem?_append_right (by omega)] at hx
      rw [List.getElem?_append_right (by rw [← h.len]; omega), ← h.len] at hc
      exact h'.get hx hc) (by rw [qsum_append, h.sum, h'.sum])
theorem fit_knot {y : Wy} {ws : List Int} {ks : List Cu} (h : (Cu.knot y ws ks).ok) : Fit y (qlist ws) (qlist (ks.map Cu.sum)) := by
  obtain ⟨⟨h1, h2, h3⟩, h4⟩ := h
  refine ⟨fun z => h1 ?_, fun c hc => ?_, fun e => ?_⟩
  · have := congrArg List.length z
    rw [qlist_len, List.length_map] at this
    exact List.length_eq_zero_iff.mp this
  · obtain ⟨n, hn, rfl⟩ := List.mem_map.mp hc
    obtain ⟨k, hk, rfl⟩ := List.mem_map.mp hn
    have h5 := qsum_nonneg (nn_q fun c hc => (Cu.claims_b (Cu.okL_all.mp h4 k hk) c hc).1)
    rw [qlist_sum] at h5
    exact h5
  · have h6 := wfit_iff.mp h3
    rw [e, if_pos rfl] at h6
    refine ⟨by rw [qlist_len, qlist_len, List.length_map]; exact h6.1, fun w hw => ?_⟩
    obtain ⟨n, hn, rfl⟩ := List.mem_map.mp hw
    have := (h6.2 n hn).1
    have : 0 < n := by omega
    exact_mod_cast this
theorem spc_no {K : Frag} {c : Ct} {vs : List V} {H : Hp} {Q : VK} {E : XK} (h : spc K c vs H Q E) (no : ∀ ds k, c ds k → False) : False := by
  obtain ⟨_, ds, k, _, _, hc, _⟩ := h
  exact no ds k hc
theorem no_claims_of {ds : List D} {k : Kc} (h : cClaimsOf 0 ds k) : False := by
  obtain ⟨u, _, h, _⟩ := h
  have := u.deep_pos
  omega
theorem no_deep_of {ds : List D} {k : Kc} (h : cDeepOf 0 ds k) : False := by
  obtain ⟨u, _, _, h, _⟩ := h
  have := u.deep_pos
  omega
theorem Cu.at_knot {y : Wy} {ws : List Int} {ks : List Cu} : (Cu.knot y ws ks).d = .tuple [.str y.s, .tuple (ws.map PyData.int), .tuple (ks.map Cu.d)] := by
  rw [← Cu.dL_map]
  rfl
theorem y_boat (y : Wy) : decide (y.s = "boat") = false := by cases y <;> decide
/-- a call whose answer is known by what holds of it -/
theorem sd_setP {K : Frag} {ρ : En} {ta : TA} {c : Ct} {ds : List D} {E : L2.St → XK} {W : WX} {ex : Value → En → Prop} {k : Ko} {i : Nat} (P : D → Prop) (ha : EvA K ta ρ ds) (hc : c ds ⟨P, fun _ => False, fun _ => False⟩) (hk : ∀ d, P d → k.nx (ρ.set i (.val d))) : Sd K W ex (tAsg (tCallS (spc K c) E ta) (gName i)) ρ k := fun R0 H0 ok R σ H a D m =>
  ha R0 H0 R σ H a _ fun vs R1 H1 g1 dx => ⟨R1, ds, _, g1.sub, dx, hc, fun d v R' H' h g dv => m.nx _ R' _ H' (hk d h) ((a.grow (g1.trans g)).set dv), fun _ _ _ _ _ h => h.elim, fun _ _ _ h => h.elim⟩
theorem cu_map_at {ks : List Cu} {i : Nat} {d : D} (h : (ks.map Cu.d)[i]? = some d) : ∃ k, ks[i]? = some k ∧ d = k.d := by
  rw [List.getElem?_map] at h
  cases e : ks[i]? with
  | none => rw [e] at h; cases h
  | some k => rw [e] at h; exact ⟨k, rfl, (Option.some.inj h).symm⟩
theorem Cu.claimsL_append : ∀ (a b : List Cu), Cu.claimsL (a ++ b) = Cu.claimsL a ++ Cu.claimsL b
  | [], b => rfl
  | k :: r, b => by
    show k.claims ++ Cu.claimsL (r ++ b) = k.claims ++ Cu.claimsL r ++ Cu.claimsL b
    rw [Cu.claimsL_append r b, List.append_assoc]
theorem Cu.claimsL_ge : ∀ {ks : List Cu}, (∀ k ∈ ks, k.ok) → ks.length ≤ (Cu.claimsL ks).length
  | [], _ => Nat.le_refl _
  | k :: r, h => by
    have h1 := Cu.claimsL_ge (ks := r) fun x hx => h x (List.mem_cons_of_mem _ hx)
    have h2 := List.length_pos_iff.mpr (Cu.claims_ne (h k List.mem_cons_self))
    show r.length + 1 ≤ (k.claims ++ Cu.claimsL r).length
    rw [List.length_append]
    omega
/-! what the laws of customs draw -/
def isCu (d : D) : Prop := ∃ u : Cu, u.Ok ∧ d = u.d
end Pu
set_option maxRecDepth 100000
namespace Pu
open PySem PySem.Spec PyProof.Rows L2
/-! ### what customs deal -/
theorem Dl.cons {c g : Rat} {cs gs : List Rat} {q : Rat} (h : Dl (c :: cs) (g :: gs) q) : 0 ≤ g ∧ g ≤ c ∧ Dl cs gs (q - g) := ⟨h.lo.1, h.hi.1, h.lo.2, h.hi.2, by
  have := h.sum
  rw [show qsum (g :: gs) = g + qsum gs from rfl] at this
  grind⟩
theorem dealL_dl : ∀ (ks : List Cu) (gs : List Rat) (Q : Rat), Dl (qlist (ks.map Cu.sum)) gs Q → (∀ k ∈ ks, ∀ q : Rat, 0 ≤ q → q ≤ (k.sum : Rat) → Dl (qlist k.claims) (k.deal q) q) → Dl (qlist (Cu.claimsL ks)) (Cu.dealL ks gs) Q
  | [], gs, Q, h, _ => by
    have hl : gs.length = 0 := h.len
    obtain rfl := List.length_eq_zero_iff.mp hl
    exact h
  | k :: r, [], Q, h, _ => by
    have hl : 0 = (qlist ((k :: r).map Cu.sum)).length := h.len
    rw [qlist_len, List.length_map] at hl
    cases hl
  | k :: r, g :: gs, Q, h, ih => by
    obtain ⟨h0, h1, h2⟩ := Dl.cons (c := (k.sum : Rat)) (cs := qlist (r.map Cu.sum)) h
    have a := ih k List.mem_cons_self g h0 h1
    have b := dealL_dl r gs (Q - g) h2 fun x hx => ih x (List.mem_cons_of_mem _ hx)
    have := dl_append a b
    rw [show g + (Q - g) = Q by grind, ← qlist_append] at this
    exact this
theorem deal_dl : ∀ {u : Cu}, u.ok → ∀ {q : Rat}, 0 ≤ q → q ≤ (u.sum : Rat) → Dl (qlist u.claims) (u.deal q) q := fun {u} => Cu.ind (P := fun u => u.ok → ∀ {q : Rat}, 0 ≤ q → q ≤ (u.sum : Rat) → Dl (qlist u.claims) (u.deal q) q) (fun c _ q h0 h1 => by
    have h1 : q ≤ (([c].sum : Int) : Rat) := h1
    rw [show [c].sum = c by simp] at h1
    refine ⟨⟨h0, trivial⟩, ⟨h1, trivial⟩, ?_⟩
    show q + 0 = q
    grind) (fun y ws ks ih h q h0 h1 => by
    refine dealL_dl ks _ q ?_ fun k hk q h0 h1 => ih k hk (Cu.ok_kid h hk) h0 h1
    refine dealOf_ok (fit_knot h) h0 ?_
    rw [qlist_sum, show (ks.map Cu.sum).sum = (Cu.claimsL ks).sum from Cu.sums_sum ks]
    exact h1) u
theorem sums_le {y : Wy} {ws : List Int} {ks : List Cu} {q : Rat} (h : q ≤ ((Cu.knot y ws ks).sum : Rat)) : q ≤ qsum (qlist (ks.map Cu.sum)) := by
  rw [qlist_sum, show (ks.map Cu.sum).sum = (Cu.claimsL ks).sum from Cu.sums_sum ks]
  exact h
/-! sizes -/
theorem Cu.Ok.sum_b {u : Cu} (h : u.Ok) : 0 ≤ u.sum ∧ u.sum ≤ 12000000000 := by
  have hb := Cu.claims_b h.ok
  have : ∀ l : List Int, (∀ c ∈ l, 0 ≤ c ∧ c ≤ 1000000000) → 0 ≤ l.sum ∧ l.sum ≤ 1000000000 * l.length := fun l => by
    induction l with
    | nil => intro _; exact ⟨Int.le_refl _, Int.le_refl _⟩
    | cons a r ih =>
      intro h
      have h1 := h a List.mem_cons_self
      have h2 := ih fun c hc => h c (List.mem_cons_of_mem _ hc)
      rw [List.sum_cons, List.length_cons]
      omega
  have h1 := this u.claims hb
  have h2 := h.few
  unfold Cu.sum
  omega
theorem Cu.Ok.sum_lt {u : Cu} (h : u.Ok) : u.sum.natAbs < 2 ^ 40 := by
  have := h.sum_b
  have e : (2 : Nat) ^ 40 = 1099511627776 := by decide
  omega
theorem sums_small {y : Wy} {ws : List Int} {ks : List Cu} (h : (Cu.knot y ws ks).Ok) : Pu.small (ks.map Cu.sum) 40 := fun c hc => by
  obtain ⟨k, hk, rfl⟩ := List.mem_map.mp hc
  exact (h.kid hk).sum_lt
theorem sums_nn {y : Wy} {ws : List Int} {ks : List Cu} (h : (Cu.knot y ws ks).Ok) : ∀ c ∈ ks.map Cu.sum, 0 ≤ c := fun c hc => by
  obtain ⟨k, hk, rfl⟩ := List.mem_map.mp hc
  exact (h.kid hk).sum_b.1
theorem deal_len {u : Cu} (h : u.ok) {q : Rat} (h0 : 0 ≤ q) (h1 : q ≤ (u.sum : Rat)) : (u.deal q).length = u.claims.length := by
  have := (deal_dl h h0 h1).len
  rw [qlist_len] at this
  exact this
/-! contracts -/
/-! the contrary custom -/
end Pu
set_option maxRecDepth 100000
namespace Pu
open PySem PySem.Spec PyProof.Rows L2
/-! ### laws of customs: rows of catches in order; kids by themselves -/
/-! kids by themselves -/
end Pu
set_option maxRecDepth 100000
namespace Pu
open PySem PySem.Spec PyProof.Rows L2
theorem ev_neS {K : Frag} {ρ : En} {ta tb : TE} {a b : Str} (ha : Ev K ta ρ (.str a)) (hb : Ev K tb ρ (.str b)) (h1 : SeqAt.shaped (.str a) = true) (h2 : SeqAt.shaped (.str b) = true) : Ev K (tOp (rNeD K) ta tb) ρ (.bool (!decide (a = b))) := Ev.is (ev_neD ha hb h1 h2) (by rw [str_eqv])
end Pu
set_option maxRecDepth 100000
namespace Pu
open PySem PySem.Spec PyProof.Rows L2
section
variable {K : Frag} {R0 H0 R H : Hp} {ρ : En} {σ : L2.St}
def less1 (R : Hp) (p : Addr) : Hp := fun b => if b = p then none else R b
theorem less1_ne {R : Hp} {p b : Addr} (h : b ≠ p) : less1 R p b = R b := if_neg h
end
/-! ### whole fish: places of broken parts, the greatest first, of equal ones the earlier first -/
def insB (f : Nat → Rat) (x : Nat) : List Nat → List Nat
  | [] => [x]
  | y :: r => if f y < f x then x :: y :: r else y :: insB f x r
def sortB (f : Nat → Rat) (n : Nat) : List Nat := (List.range n).foldl (fun s x => insB f x s) []
def aheadB (f : Nat → Rat) (j i : Nat) : Bool := decide (f i < f j) || (decide (f j = f i) && decide (j < i))
theorem aheadB_iff {f : Nat → Rat} {j i : Nat} : aheadB f j i = true ↔ f i < f j ∨ (f j = f i ∧ j < i) := by
  unfold aheadB
  rw [Bool.or_eq_true, Bool.and_eq_true, decide_eq_true_eq, decide_eq_true_eq, decide_eq_true_eq]
theorem sortB_succ (f : Nat → Rat) (n : Nat) : sortB f (n + 1) = insB f n (sortB f n) := by
  unfold sortB
  rw [List.range_succ, List.foldl_append]
  rfl
theorem insB_perm (f : Nat → Rat) (x : Nat) : ∀ s : List Nat, (insB f x s).Perm (x :: s)
  | [] => List.Perm.refl _
  | y :: r => by
    unfold insB
    split
    · exact List.Perm.refl _
    · exact ((insB_perm f x r).cons y).trans (List.Perm.swap x y r)
theorem insB_sorted {f : Nat → Rat} {x : Nat} : ∀ s : List Nat, (∀ y ∈ s, y < x) → s.Pairwise (fun a b => aheadB f a b = true) → (insB f x s).Pairwise (fun a b => aheadB f a b = true)
  | [], _, _ => List.pairwise_singleton _ _
  | y :: r, hx, h => by
    obtain ⟨h1, h2⟩ := List.pairwise_cons.mp h
    have hy := hx y List.mem_cons_self
    unfold insB
    split
    · rename_i z
      refine List.pairwise_cons.mpr ⟨fun b hb => aheadB_iff.mpr ?_, h⟩
      rcases List.mem_cons.mp hb with rfl | hb
      · exact .inl z
      · have := aheadB_iff.mp (h1 b hb)
        left
        grind
    · rename_i z
      refine List.pairwise_cons.mpr ⟨fun b hb => ?_, insB_sorted r (fun w hw => hx w (List.mem_cons_of_mem _ hw)) h2⟩
      rcases List.mem_cons.mp ((insB_perm f x r).mem_iff.mp hb) with rfl | hb
      · refine aheadB_iff.mpr ?_
        by_cases e : f y = f b
        · exact .inr ⟨e, hy⟩
        · left
          grind
      · exact h1 b hb
theorem sortB_perm (f : Nat → Rat) : ∀ n, (sortB f n).Perm (List.range n)
  | 0 => List.Perm.refl _
  | n + 1 => by
    rw [sortB_succ, List.range_succ]
    exact ((insB_perm f n _).trans ((sortB_perm f n).cons n)).trans (List.perm_append_comm (l₁ := [n]) (l₂ := List.range n))
theorem sortB_lt {f : Nat → Rat} {n y : Nat} (h : y ∈ sortB f n) : y < n := List.mem_range.mp ((sortB_perm f n).mem_iff.mp h)
theorem sortB_sorted (f : Nat → Rat) : ∀ n, (sortB f n).Pairwise (fun a b => aheadB f a b = true)
  | 0 => List.Pairwise.nil
  | n + 1 => by
    rw [sortB_succ]
    exact insB_sorted _ (fun y hy => sortB_lt hy) (sortB_sorted f n)
theorem rank_of {f : Nat → Rat} {i : Nat} : ∀ (s : List Nat), s.Pairwise (fun a b => aheadB f a b = true) → i ∈ s → ∀ L, i ∈ s.take L ↔ (s.filter fun j => aheadB f j i).length < L
  | [], _, h, _ => by cases h
  | y :: r, hs, hi, 0 => by simp
  | y :: r, hs, hi, L + 1 => by
    obtain ⟨h1, h2⟩ := List.pairwise_cons.mp hs
    rw [List.take_succ_cons]
    by_cases e : i = y
    · subst e
      have : ((i :: r).filter fun j => aheadB f j i) = [] := List.filter_eq_nil_iff.mpr fun b hb z => by
        have hz := aheadB_iff.mp z
        rcases List.mem_cons.mp hb with rfl | hb
        · rcases hz with q | q
          · grind
          · omega
        · have := aheadB_iff.mp (h1 b hb)
          grind
      rw [this]
      exact ⟨fun _ => Nat.succ_pos L, fun _ => List.mem_cons_self⟩
    · have hir : i ∈ r := (List.mem_cons.mp hi).resolve_left e
      have := rank_of r h2 hir L
      rw [List.filter_cons, if_pos (h1 i hir), List.length_cons, List.mem_cons, this]
      constructor
      · rintro (q | q)
        · exact absurd q e
        · omega
      · intro q
        right
        omega
theorem mem_take_sortB {f : Nat → Rat} {n i L : Nat} (hi : i < n) : i ∈ (sortB f n).take L ↔ ((List.range n).filter fun j => aheadB f j i).length < L := by
  rw [rank_of _ (sortB_sorted f n) ((sortB_perm f n).mem_iff.mpr (List.mem_range.mpr hi)), ((sortB_perm f n).filter _).length_eq]
def gAt (gs : List Rat) (i : Nat) : Rat := gs.getD i 0
def partF (gs : List Rat) (i : Nat) : Rat := gAt gs i - ((gAt gs i).floor : Rat)
def leftF (gs : List Rat) (c : Int) : Int := c - (gs.map Rat.floor).sum
def fishOf (gs : List Rat) (c : Int) : List Int := (List.range gs.length).map fun i => (gAt gs i).floor + if i ∈ (sortB (partF gs) gs.length).take (leftF gs c).toNat then 1 else 0
theorem gAt_of {gs : List Rat} {i : Nat} {g : Rat} (h : gs[i]? = some g) : gAt gs i = g := by
  unfold gAt
  rw [List.getD_eq_getElem?_getD, h]
  rfl
theorem fishOf_at {gs : List Rat} {c : Int} {i : Nat} (h : i < gs.length) : (fishOf gs c)[i]? = some ((gAt gs i).floor + if i ∈ (sortB (partF gs) gs.length).take (leftF gs c).toNat then 1 else 0) := by
  unfold fishOf
  rw [List.getElem?_map, List.getElem?_range h]
  rfl
theorem fishOf_len (gs : List Rat) (c : Int) : (fishOf gs c).length = gs.length := by
  unfold fishOf
  rw [List.length_map, List.length_range]
theorem part_b (gs : List Rat) (i : Nat) : 0 ≤ partF gs i ∧ partF gs i < 1 := by
  unfold partF
  have h1 := Rat.floor_le (gAt gs i)
  have h2 := Rat.lt_floor_add_one (gAt gs i)
  grind
def fishU (u : Cu) (c : Int) : List Int := fishOf (u.deal (c : Rat)) c
theorem fishU_len {u : Cu} {c : Int} (h : u.Ok) (h0 : 0 ≤ c) (h1 : c ≤ u.sum) : (fishU u c).length = u.claims.length := by
  unfold fishU
  rw [fishOf_len]
  exact deal_len h.ok (by exact_mod_cast h0) (by exact_mod_cast h1)
theorem qsum_floor : ∀ gs : List Rat, (((gs.map Rat.floor).sum : Int) : Rat) ≤ qsum gs ∧ qsum gs ≤ (((gs.map Rat.floor).sum : Int) : Rat) + (gs.length : Rat)
  | [] => ⟨by show ((0 : Int) : Rat) ≤ 0; grind, by show (0 : Rat) ≤ ((0 : Int) : Rat) + ((0 : Nat) : Rat); grind⟩
  | g :: r => by
    have := qsum_floor r
    have h1 := Rat.floor_le g
    have h2 := Rat.lt_floor_add_one g
    rw [List.map_cons, List.sum_cons, Rat.intCast_add, List.length_cons]
    show _ ≤ g + qsum r ∧ g + qsum r ≤ _
    have e : ((r.length + 1 : Nat) : Rat) = (r.length : Rat) + 1 := by exact_mod_cast rfl
    rw [e]
    grind
theorem left_b {gs : List Rat} {c : Int} (h : qsum gs = (c : Rat)) : 0 ≤ leftF gs c ∧ leftF gs c ≤ (gs.length : Int) := by
  obtain ⟨h1, h2⟩ := qsum_floor gs
  rw [h] at h1 h2
  unfold leftF
  have a : (gs.map Rat.floor).sum ≤ c := by exact_mod_cast h1
  have b : c ≤ (gs.map Rat.floor).sum + (gs.length : Int) := by exact_mod_cast h2
  omega
end Pu
set_option maxRecDepth 100000
namespace Pu
open PySem PySem.Spec PyProof.Rows L2
/-! ### customs of claims -/
theorem wList_fit {y : Wy} {f : Nat → Int} {m : Nat} (h : ∀ k, 1 ≤ f k ∧ f k ≤ 1000000) : wfit y.s (wList y.wd f m) m = true := by
  refine wfit_iff.mpr ?_
  unfold wList
  cases y.wd with
  | true =>
    rw [if_pos rfl, if_pos rfl]
    refine ⟨by rw [List.length_map, List.length_range], fun w hw => ?_⟩
    obtain ⟨k, _, rfl⟩ := List.mem_map.mp hw
    exact h k
  | false => rfl
end Pu
set_option maxRecDepth 100000
namespace Pu
open PySem PySem.Spec PyProof.Rows L2
def fpart (g : Rat) : Rat := g - ((g.floor : Int) : Rat)
end Pu
set_option maxRecDepth 100000
namespace Pu
open PySem PySem.Spec PyProof.Rows L2
/-! ### catches at which some boat gets fewer fish by one fish more -/
end Pu
set_option maxRecDepth 100000
namespace Pu
open PySem PySem.Spec PyProof.Rows L2
/-! ### customs made plain -/
def Wy.ml : Wy → Bool
  | .row | .back | .part => true
  | _ => false
def gcdF (a : Nat) (ws : List Int) : Nat := ws.foldl (fun (a : Nat) w => Int.gcd (a : Int) w) a
def gcdW (ws : List Int) : Nat := gcdF 0 ws
theorem gcdF_dvd : ∀ (ws : List Int) (a d : Nat), d ∣ gcdF a ws ↔ d ∣ a ∧ ∀ w ∈ ws, (d : Int) ∣ w
  | [], a, d => ⟨fun h => ⟨h, fun w hw => by cases hw⟩, fun h => h.1⟩
  | w :: r, a, d => by
    have ih := gcdF_dvd r (Int.gcd (a : Int) w) d
    show d ∣ gcdF (Int.gcd (a : Int) w) r ↔ _
    have e : d ∣ Int.gcd (a : Int) w ↔ d ∣ a ∧ (d : Int) ∣ w := by
      unfold Int.gcd
      rw [Nat.dvd_gcd_iff]
      exact and_congr Iff.rfl Int.ofNat_dvd_left.symm
    rw [ih, e]
    constructor
    · rintro ⟨⟨h1, h2⟩, h3⟩
      exact ⟨h1, fun x hx => by
        rcases List.mem_cons.mp hx with rfl | hx
        · exact h2
        · exact h3 x hx⟩
    · rintro ⟨h1, h2⟩
      exact ⟨⟨h1, h2 w List.mem_cons_self⟩, fun x hx => h2 x (List.mem_cons_of_mem _ hx)⟩
theorem gcdW_dvd {ws : List Int} {d : Nat} : d ∣ gcdW ws ↔ ∀ w ∈ ws, (d : Int) ∣ w := by
  unfold gcdW
  rw [gcdF_dvd]
  exact ⟨fun h => h.2, fun h => ⟨Nat.dvd_zero _, h⟩⟩
def divW (ws : List Int) (g : Nat) : List Int := ws.map fun w => w / (g : Int)
def redW (ws : List Int) : List Int := divW ws (max 1 (gcdW ws))
def wOkW (ws : List Int) : Prop := ∀ w ∈ ws, 1 ≤ w ∧ w ≤ 1000000
theorem gcdW_mem {ws : List Int} {w : Int} (hw : w ∈ ws) : ((gcdW ws : Nat) : Int) ∣ w := gcdW_dvd.mp (Nat.dvd_refl _) w hw
theorem gcdW_pos {ws : List Int} (h : wOkW ws) (hn : ws ≠ []) : 1 ≤ gcdW ws := by
  cases ws with
  | nil => exact absurd rfl hn
  | cons w r =>
    have hd := gcdW_mem (ws := w :: r) (w := w) List.mem_cons_self
    have hw := h w List.mem_cons_self
    by_cases z : gcdW (w :: r) = 0
    · rw [z] at hd
      have := Int.zero_dvd.mp hd
      omega
    · omega
theorem redW_len (ws : List Int) : (redW ws).length = ws.length := List.length_map _
theorem redW_ok {ws : List Int} (h : wOkW ws) : wOkW (redW ws) := fun x hx => by
  obtain ⟨w, hw, rfl⟩ := List.mem_map.mp hx
  have hw1 := h w hw
  have hp := gcdW_pos h (fun z => by rw [z] at hw; cases hw)
  have hd := gcdW_mem hw
  rw [show max 1 (gcdW ws) = gcdW ws by omega]
  obtain ⟨q, rfl⟩ := hd
  have hg : (0 : Int) < (gcdW ws : Nat) := by omega
  rw [Int.mul_ediv_cancel_left _ (by omega)]
  have q1 : 1 ≤ q := by
    by_cases z : 0 < q
    · omega
    · have := Int.mul_le_mul_of_nonneg_left (show q ≤ 0 by omega) (Int.le_of_lt hg)
      rw [Int.mul_zero] at this
      omega
  have q2 : q ≤ ((gcdW ws : Nat) : Int) * q := by
    have := Int.mul_le_mul_of_nonneg_right (show (1 : Int) ≤ ((gcdW ws : Nat) : Int) by omega) (show 0 ≤ q by omega)
    omega
  omega
def melt1 (y : Wy) : Cu → List Cu
  | .boat c => [.boat c]
  | .knot z ws ks => if y.ml = true ∧ z = y then ks else [.knot z ws ks]
theorem melt1_knot (y z : Wy) (ws : List Int) (ks : List Cu) : melt1 y (.knot z ws ks) = if y.ml = true ∧ z = y then ks else [.knot z ws ks] := rfl
def melt (y : Wy) (ks : List Cu) : List Cu := ks.flatMap (melt1 y)
def tie (y : Wy) (ws : List Int) : List Cu → Cu
  | [] => .knot y (redW ws) []
  | [k] => k
  | a :: b :: r => .knot y (redW ws) (melt y (a :: b :: r))
theorem tie_more {y : Wy} {ws : List Int} {ks : List Cu} (h : ks.length ≠ 1) : tie y ws ks = .knot y (redW ws) (melt y ks) := by
  cases ks with
  | nil => rfl
  | cons a r =>
    cases r with
    | nil => exact absurd rfl h
    | cons b r => rfl
mutual
def Cu.plain : Cu → Cu
  | .boat c => .boat c
  | .knot y ws ks => tie y ws (Cu.plainL ks)
def Cu.plainL : List Cu → List Cu
  | [] => []
  | k :: r => k.plain :: Cu.plainL r
end
theorem Cu.plainL_map : ∀ ks : List Cu, Cu.plainL ks = ks.map Cu.plain
  | [] => rfl
  | k :: r => by rw [Cu.plainL, Cu.plainL_map r]; rfl
theorem Cu.plainL_len (ks : List Cu) : (Cu.plainL ks).length = ks.length := by rw [Cu.plainL_map, List.length_map]
theorem Cu.deepL_append : ∀ (a b : List Cu), Cu.deepL (a ++ b) = max (Cu.deepL a) (Cu.deepL b)
  | [], b => by
    show Cu.deepL b = max 0 (Cu.deepL b)
    omega
  | k :: r, b => by
    show max k.deep (Cu.deepL (r ++ b)) = max (max k.deep (Cu.deepL r)) (Cu.deepL b)
    rw [Cu.deepL_append r b]
    omega
theorem melt_cons (y : Wy) (k : Cu) (r : List Cu) : melt y (k :: r) = melt1 y k ++ melt y r := rfl
theorem melt1_no {y : Wy} (h : y.ml = false) (k : Cu) : melt1 y k = [k] := by
  cases k with
  | boat c => rfl
  | knot z ws ks =>
    rw [melt1_knot, if_neg (fun q => by rw [h] at q; exact Bool.false_ne_true q.1)]
theorem melt_no {y : Wy} (h : y.ml = false) : ∀ ks : List Cu, melt y ks = ks
  | [] => rfl
  | k :: r => by rw [melt_cons, melt1_no h, melt_no h r]; rfl
theorem melt1_claims (y : Wy) (k : Cu) : Cu.claimsL (melt1 y k) = k.claims := by
  cases k with
  | boat c => rfl
  | knot z ws ks =>
    rw [melt1_knot]
    split
    · rfl
    · show (Cu.knot z ws ks).claims ++ [] = _
      rw [List.append_nil]
theorem melt_claims (y : Wy) : ∀ ks : List Cu, Cu.claimsL (melt y ks) = Cu.claimsL ks
  | [] => rfl
  | k :: r => by
    rw [melt_cons, Cu.claimsL_append, melt1_claims, melt_claims y r]
    rfl
theorem melt1_deep (y : Wy) (k : Cu) : Cu.deepL (melt1 y k) ≤ k.deep := by
  cases k with
  | boat c => show max 1 0 ≤ 1; decide
  | knot z ws ks =>
    rw [melt1_knot]
    split
    · show Cu.deepL ks ≤ 1 + Cu.deepL ks; omega
    · show max (Cu.knot z ws ks).deep 0 ≤ _; omega
theorem melt_deep (y : Wy) : ∀ ks : List Cu, Cu.deepL (melt y ks) ≤ Cu.deepL ks
  | [] => Nat.le_refl _
  | k :: r => by
    rw [melt_cons, Cu.deepL_append]
    have h1 := melt1_deep y k
    have h2 := melt_deep y r
    show _ ≤ max k.deep (Cu.deepL r)
    omega
theorem melt1_ok {y : Wy} {k : Cu} (h : k.ok) : (∀ x ∈ melt1 y k, x.ok) ∧ melt1 y k ≠ [] := by
  cases k with
  | boat c => exact ⟨fun x hx => by rcases List.mem_singleton.mp hx with rfl; exact h, List.cons_ne_nil _ _⟩
  | knot z ws ks =>
    rw [melt1_knot]
    split
    · exact ⟨Cu.okL_all.mp h.2, h.1.1⟩
    · exact ⟨fun x hx => by rcases List.mem_singleton.mp hx with rfl; exact h, List.cons_ne_nil _ _⟩
theorem melt_ok {y : Wy} : ∀ {ks : List Cu}, (∀ k ∈ ks, k.ok) → (∀ x ∈ melt y ks, x.ok) ∧ ks.length ≤ (melt y ks).length
  | [], _ => ⟨(fun x hx => by cases hx), Nat.le_refl _⟩
  | k :: r, h => by
    obtain ⟨a1, a2⟩ := melt1_ok (y := y) (h k List.mem_cons_self)
    obtain ⟨b1, b2⟩ := melt_ok (y := y) (ks := r) fun x hx => h x (List.mem_cons_of_mem _ hx)
    rw [melt_cons]
    refine ⟨fun x hx => (List.mem_append.mp hx).elim (a1 x) (b1 x), ?_⟩
    have := List.length_pos_iff.mpr a2
    rw [List.length_append, List.length_cons]
    omega
/-- the same claims, no deeper, valid -/
theorem tie_all {y : Wy} {ws : List Int} {ks : List Cu} (hk : ∀ k ∈ ks, k.ok) (hne : ks ≠ []) (hw : wfit y.s ws ks.length = true) (hl : (Cu.claimsL ks).length ≤ 12) : (tie y ws ks).ok ∧ (tie y ws ks).claims = Cu.claimsL ks ∧ (tie y ws ks).deep ≤ 1 + Cu.deepL ks := by
  by_cases h1 : ks.length = 1
  · obtain ⟨k, rfl⟩ := List.length_eq_one_iff.mp h1
    refine ⟨hk k List.mem_cons_self, ?_, ?_⟩
    · show k.claims = k.claims ++ []
      rw [List.append_nil]
    · show k.deep ≤ 1 + max k.deep 0
      omega
  · rw [tie_more h1]
    obtain ⟨m1, m2⟩ := melt_ok (y := y) hk
    have hge := Cu.claimsL_ge m1
    rw [melt_claims] at hge
    have h0 := List.length_pos_iff.mpr hne
    refine ⟨⟨⟨fun z => by rw [z] at m2; have : ks.length ≤ 0 := m2; omega, by omega, ?_⟩, Cu.okL_all.mpr m1⟩, ?_, ?_⟩
    · have hw' := wfit_iff.mp hw
      refine wfit_iff.mpr ?_
      cases e : y.wd with
      | true =>
        rw [e, if_pos rfl] at hw'
        rw [if_pos rfl, melt_no (by cases y <;> first | rfl | (exact absurd e (by decide)))]
        exact ⟨by rw [redW_len]; exact hw'.1, redW_ok hw'.2⟩
      | false =>
        rw [e] at hw'
        have hw' : ws = [] := hw'
        rw [hw']
        rfl
    · exact melt_claims y ks
    · have := melt_deep y ks
      show 1 + _ ≤ _
      omega
theorem plain_all : ∀ {u : Cu}, u.ok → u.claims.length ≤ 12 → u.plain.ok ∧ u.plain.claims = u.claims ∧ u.plain.deep ≤ u.deep := fun {u} => Cu.ind (P := fun u => u.ok → u.claims.length ≤ 12 → u.plain.ok ∧ u.plain.claims = u.claims ∧ u.plain.deep ≤ u.deep) (fun c h _ => ⟨h, rfl, Nat.le_refl _⟩) (fun y ws ks ih h hl => by
    have key : ∀ l : List Cu, (∀ k ∈ l, k.plain.ok ∧ k.plain.claims = k.claims ∧ k.plain.deep ≤ k.deep) → (∀ k ∈ Cu.plainL l, k.ok) ∧ Cu.claimsL (Cu.plainL l) = Cu.claimsL l ∧ Cu.deepL (Cu.plainL l) ≤ Cu.deepL l := fun l => by
      induction l with
      | nil => intro _; exact ⟨(fun k hk => by cases hk), rfl, Nat.le_refl _⟩
      | cons a r ih2 =>
        intro h
        obtain ⟨h1, h2, h3⟩ := h a List.mem_cons_self
        obtain ⟨a1, a2, a3⟩ := ih2 fun x hx => h x (List.mem_cons_of_mem _ hx)
        refine ⟨fun k hk => ?_, ?_, ?_⟩
        · rcases List.mem_cons.mp (show k ∈ a.plain :: Cu.plainL r from hk) with rfl | hk
          · exact h1
          · exact a1 k hk
        · show a.plain.claims ++ Cu.claimsL (Cu.plainL r) = a.claims ++ Cu.claimsL r
          rw [h2, a2]
        · show max a.plain.deep (Cu.deepL (Cu.plainL r)) ≤ max a.deep (Cu.deepL r)
          omega
    obtain ⟨k1, k2, k3⟩ := key ks fun k hk => ih k hk (Cu.ok_kid h hk) (Nat.le_trans (Cu.claims_kid hk) hl)
    obtain ⟨t1, t2, t3⟩ := tie_all (y := y) (ws := ws) k1 (fun z => h.1.1 (List.length_eq_zero_iff.mp (by rw [← Cu.plainL_len, z]; rfl))) (by rw [Cu.plainL_len]; exact h.1.2.2) (by rw [k2]; exact hl)
    exact ⟨t1, t2.trans k2, by show _ ≤ 1 + Cu.deepL ks; have : (Cu.knot y ws ks).plain.deep ≤ 1 + Cu.deepL (Cu.plainL ks) := t3; omega⟩) u
theorem Cu.Ok.plain {u : Cu} (h : u.Ok) : u.plain.Ok := by
  obtain ⟨a, b, c⟩ := plain_all h.ok h.few
  exact ⟨a, by rw [b]; exact h.few, Nat.le_trans c h.low⟩
/-! contrary and plain -/
theorem s_boat (y : Wy) : decide (("boat" : Str) = y.s) = false := by cases y <;> decide +kernel
/-- the word ahead in a custom -/
def Cu.w : Cu → Str
  | .boat _ => "boat"
  | .knot y _ _ => y.s
end Pu
set_option maxRecDepth 100000
namespace Pu
open PySem PySem.Spec PyProof.Rows L2
/-! ### () + t; told.extend(t), t a tuple -/
end Pu
set_option maxRecDepth 100000
namespace Pu
open PySem PySem.Spec PyProof.Rows L2
/-! ### the single steps to the plain custom -/
end Pu
set_option maxRecDepth 100000
namespace Pu
open PySem PySem.Spec PyProof.Rows L2
/-! ### a list of lists of one's own -/
def joinH (H0 F : Hp) : Hp := fun a => match F a with
  | some o => some o
  | none => H0 a
theorem joinH_some {H0 F : Hp} {a : Addr} {o : HO} (h : F a = some o) : joinH H0 F a = some o := by unfold joinH; rw [h]
theorem joinH_none {H0 F : Hp} {a : Addr} (h : F a = none) : joinH H0 F a = H0 a := by unfold joinH; rw [h]
theorem joinH_free {H0 F : Hp} {a : Addr} (h : joinH H0 F a = none) : F a = none ∧ H0 a = none := by
  cases e : F a with
  | some o => rw [joinH_some e] at h; cases h
  | none => rw [joinH_none e] at h; exact ⟨rfl, h⟩
structure Nest (R0 H0 F : Hp) (p : Addr) (qs : List Addr) (vss : List (List V)) : Prop where
  top : F p = some (.lst (qs.map V.ref))
  sub : ∀ (j : Nat) (q : Addr) (vs : List V), qs[j]? = some q → vss[j]? = some vs → F q = some (.lst vs)
  len : qs.length = vss.length
  nod : qs.Nodup
  ne : p ∉ qs
  all : ∀ a, F a ≠ none → a = p ∨ a ∈ qs
  new : ∀ a, F a ≠ none → R0 a = none ∧ H0 a = none
section
variable {K : Frag} {R0 H0 R H R' H' F : Hp} {ρ : En} {σ : L2.St}
theorem At.unhide (a : At K R0 (joinH H0 F) R ρ σ H) (hn : ∀ x, F x ≠ none → H0 x = none) : At K R0 H0 R ρ σ H where
  gr := ⟨a.gr.rd, fun b x e => a.gr.hp b x (by
    rw [joinH_none, e]
    cases q : F b with
    | none => rfl
    | some o =>
      have := hn b (by rw [q]; exact fun z => nomatch z)
      rw [this] at e
      cases e), a.gr.sub, fun x e n => (joinH_free (a.gr.new x e n)).2⟩
  len := a.len
  val := a.val
  own := fun i ds e => by
    obtain ⟨p, vs, h1, h2, h3, h4, h5⟩ := a.own i ds e
    exact ⟨p, vs, h1, h2, h3, h4, (joinH_free h5).2⟩
  raw := a.raw
  apart := a.apart
  fa := ⟨fun i v S P e => by
    obtain ⟨g1, g2, g3, g4⟩ := a.fa.at_ i v S P e
    exact ⟨g1, g2, g3, fun b hb => ⟨(g4 b hb).1, (g4 b hb).2.1, (joinH_free (g4 b hb).2.2).2⟩⟩, a.fa.off, a.fa.two⟩
end
/-- the state; the list of lists stands in a raw slot -/
def AtN (K : Frag) (R0 H0 R : Hp) (ρf : V → En) (dss : List (List D)) (σ : L2.St) (H : Hp) : Prop := ∃ F p qs vss, Nest R0 H0 F p qs vss ∧ At K R0 (joinH H0 F) R (ρf (.ref p)) σ H ∧ vss.length = dss.length ∧ ∀ (j : Nat) (vs : List V) (ds : List D), vss[j]? = some vs → dss[j]? = some ds → DpAll K R vs ds
section
variable {K : Frag} {R0 H0 R H R' H' : Hp} {ρf : V → En} {dss : List (List D)} {σ : L2.St}
theorem AtN.at (n : AtN K R0 H0 R ρf dss σ H) : ∃ v, At K R0 H0 R (ρf v) σ H := by
  obtain ⟨F, p, qs, vss, N, a, _⟩ := n
  exact ⟨_, a.unhide fun x h => (N.new x h).2⟩
theorem AtN.gr (n : AtN K R0 H0 R ρf dss σ H) : Grow R0 H0 R H := by
  obtain ⟨v, a⟩ := n.at
  exact a.gr
theorem AtN.grow (n : AtN K R0 H0 R ρf dss σ H) (g : Grow R H R' H') : AtN K R0 H0 R' ρf dss σ H' := by
  obtain ⟨F, p, qs, vss, N, a, hl, hd⟩ := n
  exact ⟨F, p, qs, vss, N, a.grow g, hl, fun j vs ds h1 h2 => dpa_mono g.rd _ _ (hd j vs ds h1 h2)⟩
theorem AtN.later (n : AtN K R0 H0 R ρf dss σ H) : AtN K R H0 R ρf dss σ H := by
  obtain ⟨F, p, qs, vss, N, a, hl, hd⟩ := n
  refine ⟨F, p, qs, vss, ⟨N.top, N.sub, N.len, N.nod, N.ne, N.all, fun x h => ⟨?_, (N.new x h).2⟩⟩, a.later a.gr (Same.refl R), hl, hd⟩
  cases e : R x with
  | none => rfl
  | some o =>
    have := (joinH_free (a.gr.new x (N.new x h).1 (by rw [e]; exact fun z => nomatch z))).1
    exact absurd this h
theorem AtN.back (n : AtN K R' H0 R ρf dss σ H) {H1 : Hp} (g : Grow R0 H0 R' H1) : AtN K R0 H0 R ρf dss σ H := by
  obtain ⟨F, p, qs, vss, N, a, hl, hd⟩ := n
  have g2 : Grow R0 (joinH H0 F) R' H := ⟨g.rd, a.gr.hp, a.gr.rd.trans a.gr.sub, fun x e n => by
    cases q : F x with
    | some o => exact absurd (N.new x (by rw [q]; exact fun z => nomatch z)).1 n
    | none => rw [joinH_none q]; exact g.new x e n⟩
  refine ⟨F, p, qs, vss, ⟨N.top, N.sub, N.len, N.nod, N.ne, N.all, fun x h => ⟨?_, (N.new x h).2⟩⟩, a.back g2, hl, hd⟩
  cases e : R0 x with
  | none => rfl
  | some o =>
    have := g.rd x o e
    rw [(N.new x h).1] at this
    cases this
end
section
variable {K : Frag} {W : WX} {ex : Value → En → Prop} {ts t u tb : TS} {ρf ρf' : V → En} {dss : List (List D)} {nx : (V → En) → List (List D) → Prop} {ds : List D} {d : D} {g : TG} {te tk : TE} {i : Nat}
/-- the list of lists becomes data that stays -/
theorem AtN.show_ {R0 H0 R H : Hp} {σ : L2.St} (n : AtN K R0 H0 R ρf dss σ H) (hi : ∀ v, (ρf v)[i]? = some (.raw v)) : ∃ R' v, At K R0 H0 R' ((ρf v).set i (.val (.list (dss.map PyData.list)))) σ H := by
  obtain ⟨F, p, qs, vss, N, a, hl, hd⟩ := n
  have b := a.unhide fun x h => (N.new x h).2
  have hR : ∀ x, F x ≠ none → R x = none := fun x h => by
    cases e : R x with
    | none => rfl
    | some o => exact absurd (joinH_free (a.gr.new x (N.new x h).1 (by rw [e]; exact fun z => nomatch z))).1 h
  have rr : Same R (joinH R F) := fun x o e => by
    rw [joinH_none, e]
    cases q : F x with
    | none => rfl
    | some o2 => rw [hR x (by rw [q]; exact fun z => nomatch z)] at e; cases e
  have G : Grow R0 H0 (joinH R F) H := ⟨b.gr.rd.trans rr, b.gr.hp, fun x o e => by
    cases q : F x with
    | some o2 => rw [joinH_some q] at e; cases e; exact a.gr.hp x _ (joinH_some q)
    | none => rw [joinH_none q] at e; exact a.gr.sub x o e, fun x e n => by
    cases q : F x with
    | some o2 => exact (N.new x (by rw [q]; exact fun z => nomatch z)).2
    | none => rw [joinH_none q] at n; exact b.gr.new x e n⟩
  have c : At K R0 H0 (joinH R F) (ρf (.ref p)) σ H := ⟨G, a.len, fun j d e => by
    obtain ⟨v, h1, h2⟩ := a.val j d e
    exact ⟨v, h1, dp_mono rr _ _ h2⟩, fun j ds e => by
    obtain ⟨p2, vs2, h1, h2, h3, h4, h5⟩ := a.own j ds e
    obtain ⟨f1, f2⟩ := joinH_free h5
    exact ⟨p2, vs2, h1, h2, dpa_mono rr _ _ h3, by rw [joinH_none f1]; exact h4, f2⟩, a.raw, a.apart, ⟨fun i v S P e => by
    obtain ⟨g1, g2, g3, g4⟩ := a.fa.at_ i v S P e
    refine ⟨g1, g2, g2 R H _ H rr (fun _ _ _ z => z) g3, fun b hb => ?_⟩
    obtain ⟨k1, k2, k3⟩ := g4 b hb
    obtain ⟨f1, f2⟩ := joinH_free k3
    exact ⟨k1, by rw [joinH_none f1]; exact k2, f2⟩, a.fa.off, a.fa.two⟩⟩
  have hσ := a.raw i _ (hi (.ref p))
  have key : ∀ (qs : List Addr) (vss : List (List V)) (dss : List (List D)), qs.length = vss.length → vss.length = dss.length → (∀ j q vs ds, qs[j]? = some q → vss[j]? = some vs → dss[j]? = some ds → F q = some (.lst vs) ∧ DpAll K R vs ds) → DpAll K (joinH R F) (qs.map V.ref) (dss.map PyData.list) := fun qs => by
    induction qs with
    | nil =>
      intro vss dss l1 l2 _
      cases vss with
      | nil =>
        cases dss with
        | nil => exact .nil
        | cons _ _ => cases l2
      | cons _ _ => cases l1
    | cons q r ih =>
      intro vss dss l1 l2 h
      cases vss with
      | nil => cases l1
      | cons vs vr =>
        cases dss with
        | nil => cases l2
        | cons ds dr =>
          obtain ⟨h1, h2⟩ := h 0 q vs ds rfl rfl rfl
          exact .cons (.lst (SqL.of (joinH_some h1)) (dpa_mono rr _ _ h2)) (ih vr dr (by simpa using l1) (by simpa using l2) fun j q vs ds e1 e2 e3 => h (j + 1) q vs ds e1 e2 e3)
  have dv : Dp K (joinH R F) (.ref p) (.list (dss.map PyData.list)) := .lst (SqL.of (joinH_some N.top)) (key qs vss dss N.len hl fun j q vs ds e1 e2 e3 => ⟨N.sub j q vs e1 e2, hd j vs ds e2 e3⟩)
  have e := c.set (i := i) dv
  have hset : σ.set i (some (.ref p)) = σ := by
    refine List.ext_getElem? fun k => ?_
    by_cases z : i = k
    · subst z
      rw [List.getElem?_set_self (List.getElem?_eq_some_iff.mp hσ).1, hσ]
    · rw [List.getElem?_set_ne z]
  rw [hset] at e
  exact ⟨_, _, e⟩
end
end Pu
set_option maxRecDepth 100000
namespace Pu
open PySem PySem.Spec PyProof.Rows L2
/-! ### lines of ways: the plain law -/
/-- the line in its fewest points that ends at e and goes by f -/
structure IsW (f : Rat → Rat) (e : Pt) (W : List Pt) : Prop where
  good : GoodL W
  canon : Canon W
  last : lineEnd W = e
  ev : ∀ x, 0 ≤ x → x ≤ e.1 → lineEv W x = f x
/-! row -/
/-! even -/
end Pu
set_option maxRecDepth 100000
namespace Pu
open PySem PySem.Spec PyProof.Rows L2
/-! part -/
/-! lack -/
/-! half -/
/-! row, back -/
/-! the levels -/
end Pu
set_option maxRecDepth 100000
namespace Pu
open PySem PySem.Spec PyProof.Rows L2
/-! ### lines of ways: sizes, contracts -/
/-- claims and weights of a way, of a size -/
structure Wy.In (y : Wy) (ws cs : List Int) (B : Nat) : Prop where
  ne : cs ≠ []
  nn : ∀ c ∈ cs, 0 ≤ c
  len : cs.length ≤ 12
  sc : small cs B
  b0 : 0 < B
  b1 : B ≤ 1000
  wt : y.wd = true → ws.length = cs.length ∧ ∀ w ∈ ws, 1 ≤ w ∧ w ≤ 1000000
theorem Wy.In.fit {y : Wy} {ws cs : List Int} {B : Nat} (h : y.In ws cs B) : Fit y (qlist ws) (qlist cs) := ⟨fun z => h.ne (List.map_eq_nil_iff.mp z), fun c hc => by
  obtain ⟨n, hn, rfl⟩ := List.mem_map.mp hc
  exact_mod_cast h.nn n hn, fun e => ⟨by rw [qlist_len, qlist_len]; exact (h.wt e).1, fun w hw => by
  obtain ⟨n, hn, rfl⟩ := List.mem_map.mp hw
  have := ((h.wt e).2 n hn).1
  exact_mod_cast (show (0 : Int) < n by omega)⟩⟩
/-! sizes -/
/-! contracts -/
structure WsIn (ws cs : List Int) (B : Nat) : Prop where
  len : ws.length = cs.length
  few : cs.length ≤ 12
  ne : cs ≠ []
  nn : ∀ c ∈ cs, 0 ≤ c
  wb : ∀ w ∈ ws, 1 ≤ w ∧ w ≤ 1000000
  sc : small cs B
  b0 : 0 < B
  b1 : B ≤ 1000
theorem WsIn.ok {ws cs : List Int} {B : Nat} (h : WsIn ws cs B) : WOk (qlist ws) (qlist cs) := ⟨by rw [qlist_len, qlist_len]; exact h.len, fun w hw => by
  obtain ⟨n, hn, rfl⟩ := List.mem_map.mp hw
  have := (h.wb n hn).1
  exact_mod_cast (show (0 : Int) < n by omega), fun c hc => by
  obtain ⟨n, hn, rfl⟩ := List.mem_map.mp hc
  exact_mod_cast h.nn n hn⟩
end Pu
set_option maxRecDepth 100000
namespace Pu
open PySem PySem.Spec PyProof.Rows L2
/-! ### lines of customs -/
end Pu
set_option maxRecDepth 100000
namespace Pu
open PySem PySem.Spec PyProof.Rows L2
/-! ### the customs of the laws of lines -/
theorem sIx_back {n m d : Nat} (h1 : 1 ≤ m) : HT.sIx n d (some (-(m : Int))) = n - m := by
  show (if (-(m : Int)) < 0 then (-(m : Int) + (n : Int)).toNat else min (-(m : Int)).toNat n) = n - m
  rw [if_pos (by omega)]
  omega
theorem cut_last' {m : Nat} {xs : List D} (h1 : 1 ≤ m) : cutD xs (some (-(m : Int))) none = xs.drop (xs.length - m) := by
  unfold cutD
  rw [HT.sIx_none, sIx_back h1, List.take_of_length_le (by rw [List.length_drop]; exact Nat.le_refl _)]
theorem cut_init' {m : Nat} {xs : List D} (h1 : 1 ≤ m) : cutD xs none (some (-(m : Int))) = xs.take (xs.length - m) := by
  unfold cutD
  rw [HT.sIx_none, sIx_back h1, List.drop_zero, Nat.sub_zero]
end Pu
set_option maxRecDepth 100000
namespace Pu
open PySem PySem.Spec PyProof.Rows L2
/-! ### the line of one boat; the catches of an amount -/
end Pu
set_option maxRecDepth 100000
namespace Pu
open PySem PySem.Spec PyProof.Rows L2
/-! ### how long the catches of an amount are -/
end Pu
set_option maxRecDepth 100000
namespace Pu
open PySem PySem.Spec PyProof.Rows L2
/-! ### lines of ways: turned about; the points of even lines -/
theorem qW_ok {ws cs : List Int} (hl : ws.length = cs.length) (hw : ∀ w ∈ ws, 1 ≤ w ∧ w ≤ 1000000) (hc : ∀ c ∈ cs, 0 ≤ c) : WOk (qlist ws) (qlist cs) := ⟨by rw [qlist_len, qlist_len]; exact hl, fun w h => by
  obtain ⟨n, hn, rfl⟩ := List.mem_map.mp h
  have := (hw n hn).1
  exact_mod_cast (show (0 : Int) < n by omega), nn_q hc⟩
end Pu
set_option maxRecDepth 100000
set_option maxHeartbeats 1000000
namespace Pu
open PySem PySem.Spec PyProof.Rows L2
/-! ### zip of three lists or tuples -/
end Pu
set_option maxRecDepth 100000
set_option maxHeartbeats 1000000
namespace Pu
open PySem PySem.Spec PyProof.Rows L2
/-! ### the plain custom deals alike -/
end Pu
set_option maxRecDepth 100000
set_option maxHeartbeats 1000000
namespace Pu
open PySem PySem.Spec PyProof.Rows L2
/-! ### a loop over an own list that does not change in it -/
mutual
/-- no list stands in it -/
def noL : D → Bool
  | .none | .bool _ | .int _ | .str _ => true
  | .tuple ds => noLs ds
  | .list _ | .dict _ => false
def noLs : List D → Bool
  | [] => true
  | d :: r => noL d && noLs r
end
section
variable {K : Frag} {R : Hp} {p : Addr} {vs : List V}
theorem sqt_less {a : Addr} {xs : List V} (hp : R p = some (.lst vs)) (h : SqT K R a xs) : SqT K (less1 R p) a xs := by
  have ne : ∀ {b : Addr} {x : HO}, R b = some x → (∀ zs, x ≠ .lst zs) → less1 R p b = some x := fun {b x} e n => by
    rw [less1_ne (fun z => by rw [z, hp] at e; exact n _ (Option.some.inj e).symm)]
    exact e
  rcases h with (h | ⟨o, h⟩) | h
  · exact .inl (.inl (ne h fun zs z => nomatch z))
  · exact .inl (.inr ⟨o, ne h fun zs z => nomatch z⟩)
  · exact .inr h
mutual
theorem dp_lessN (hp : R p = some (.lst vs)) : ∀ (d : PyData) (v : V), noL d = true → Dp K R v d → Dp K (less1 R p) v d
  | .none, _, _, h => by cases h; exact .non
  | .bool b, _, _, h => by cases h; exact .bl b
  | .int i, _, _, h => by cases h; exact .int i
  | .str x, _, _, h => by cases h; exact .str x
  | .list ds, _, n, _ => by cases n
  | .tuple ds, _, n, h => by
    cases h with
    | tup hs ha => exact .tup (sqt_less hp hs) (dpa_lessN hp ds _ n ha)
  | .dict _, _, n, _ => by cases n
theorem dpa_lessN (hp : R p = some (.lst vs)) : ∀ (ds : List PyData) (ws : List V), noLs ds = true → DpAll K R ws ds → DpAll K (less1 R p) ws ds
  | [], _, _, h => by cases h; exact .nil
  | d :: ds, _, n, h => by
    have n' : (noL d && noLs ds) = true := n
    rw [Bool.and_eq_true] at n'
    cases h with
    | cons h1 h2 => exact .cons (dp_lessN hp d _ n'.1 h1) (dpa_lessN hp ds _ n'.2 h2)
end
end
end Pu
set_option maxRecDepth 100000
set_option maxHeartbeats 1000000
namespace Pu
open PySem PySem.Spec PyProof.Rows L2
/-! ### lines of ways, as the laws write them -/
end Pu
set_option maxRecDepth 100000
set_option maxHeartbeats 1000000
namespace Pu
open PySem PySem.Spec PyProof.Rows L2
/-! ### no fish is better elsewhere -/
theorem map_gAt (gs : List Rat) : (List.range gs.length).map (gAt gs) = gs := by
  refine List.ext_getElem? fun i => ?_
  by_cases hi : i < gs.length
  · rw [List.getElem?_map, List.getElem?_range hi, List.getElem?_eq_getElem hi]
    exact congrArg some (gAt_of (List.getElem?_eq_getElem hi))
  · rw [List.getElem?_eq_none_iff.mpr (by rw [List.length_map, List.length_range]; omega), List.getElem?_eq_none_iff.mpr (by omega)]
def extraF (gs : List Rat) (c : Int) (i : Nat) : Int := if i ∈ (sortB (partF gs) gs.length).take (leftF gs c).toNat then 1 else 0
theorem fish_at {gs : List Rat} {c : Int} {i : Nat} (h : i < gs.length) : (fishOf gs c)[i]? = some ((gAt gs i).floor + extraF gs c i) := fishOf_at h
theorem extra_01 (gs : List Rat) (c : Int) (i : Nat) : extraF gs c i = 0 ∨ extraF gs c i = 1 := by
  unfold extraF
  split
  · exact .inr rfl
  · exact .inl rfl
theorem extra_iff {gs : List Rat} {c : Int} {i : Nat} (h : i < gs.length) : extraF gs c i = 1 ↔ ((List.range gs.length).filter fun j => aheadB (partF gs) j i).length < (leftF gs c).toNat := by
  unfold extraF
  rw [← mem_take_sortB h]
  split
  · rename_i q; exact ⟨fun _ => q, fun _ => rfl⟩
  · rename_i q; exact ⟨fun z => absurd z (by decide), fun z => absurd z q⟩
theorem fr_part' (gs : List Rat) (i : Nat) : gAt gs i = ((gAt gs i).floor : Rat) + partF gs i := by
  unfold partF
  grind
/-- who gets an extra fish has a broken part -/
theorem qsum_parts : ∀ gs : List Rat, qsum gs = (((gs.map Rat.floor).sum : Int) : Rat) + qsum (gs.map fpart)
  | [] => by
    show (0 : Rat) = ((0 : Int) : Rat) + 0
    rw [Rat.add_zero]
    rfl
  | g :: r => by
    show g + qsum r = (((g.floor + (r.map Rat.floor).sum : Int)) : Rat) + (fpart g + qsum (r.map fpart))
    rw [qsum_parts r, Rat.intCast_add]
    unfold fpart
    grind
theorem pos_many : ∀ ps : List Rat, (∀ p ∈ ps, 0 ≤ p ∧ p < 1) → qsum ps ≤ ((ps.filter fun p => decide (0 < p)).length : Rat) ∧ (0 < qsum ps → qsum ps < ((ps.filter fun p => decide (0 < p)).length : Rat))
  | [], _ => ⟨Rat.le_refl, fun h => absurd h (Rat.not_lt.mpr Rat.le_refl)⟩
  | p :: r, h => by
    obtain ⟨h0, h1⟩ := h p List.mem_cons_self
    obtain ⟨q0, q1⟩ := pos_many r fun x hx => h x (List.mem_cons_of_mem _ hx)
    by_cases hp : 0 < p
    · rw [List.filter_cons_of_pos (by simpa using hp), List.length_cons]
      have e : ((((r.filter fun p => decide (0 < p)).length + 1 : Nat)) : Rat) = (((r.filter fun p => decide (0 < p)).length : Nat) : Rat) + 1 := by push_cast; rfl
      rw [e]
      show p + qsum r ≤ _ ∧ (0 < p + qsum r → p + qsum r < _)
      refine ⟨by grind, fun _ => by grind⟩
    · rw [List.filter_cons_of_neg (by simpa using hp)]
      have e : p = 0 := by grind
      show p + qsum r ≤ _ ∧ (0 < p + qsum r → p + qsum r < _)
      rw [e, Rat.zero_add]
      exact ⟨q0, q1⟩
theorem extra_part {gs : List Rat} {c : Int} {i : Nat} (h : qsum gs = (c : Rat)) (hi : i < gs.length) (e : extraF gs c i = 1) : 0 < partF gs i := by
  refine Classical.byContradiction fun hn => ?_
  have hz : partF gs i = 0 := by have := (part_b gs i).1; grind
  have q := (extra_iff hi).mp e
  obtain ⟨l0, l1⟩ := left_b h
  -- all with a broken part are ahead
  have le : ((List.range gs.length).filter fun j => decide (0 < partF gs j)).length ≤ ((List.range gs.length).filter fun k => aheadB (partF gs) k i).length := by
    rw [← List.countP_eq_length_filter, ← List.countP_eq_length_filter]
    refine List.countP_mono_left fun k _ hk => ?_
    rw [aheadB_iff, hz]
    exact .inl (of_decide_eq_true hk)
  have hps : (List.range gs.length).map (partF gs) = gs.map fpart := by
    have := congrArg (List.map fpart) (map_gAt gs)
    rw [List.map_map] at this
    exact this
  have hl : ((List.range gs.length).filter fun j => decide (0 < partF gs j)).length = ((gs.map fpart).filter fun p => decide (0 < p)).length := by
    rw [← hps, List.filter_map, List.length_map]
    rfl
  have hb : ∀ p ∈ gs.map fpart, 0 ≤ p ∧ p < 1 := fun p hp => by
    rw [← hps] at hp
    obtain ⟨j, _, rfl⟩ := List.mem_map.mp hp
    exact part_b gs j
  obtain ⟨m0, m1⟩ := pos_many _ hb
  have hq := qsum_parts gs
  rw [h] at hq
  have hL : ((leftF gs c : Int) : Rat) = qsum (gs.map fpart) := by
    unfold leftF
    rw [Rat.intCast_sub]
    grind
  have hLn : ((((leftF gs c).toNat : Nat)) : Rat) = ((leftF gs c : Int) : Rat) := by
    have : (((leftF gs c).toNat : Nat) : Int) = leftF gs c := Int.toNat_of_nonneg l0
    rw [← this]
    rfl
  have hpos : 0 < qsum (gs.map fpart) := by
    rw [← hL]
    have : (0 : Int) < leftF gs c := by omega
    exact_mod_cast this
  have := m1 hpos
  rw [← hL, ← hLn] at this
  have h2 : (leftF gs c).toNat < ((gs.map fpart).filter fun p => decide (0 < p)).length := by exact_mod_cast this
  omega
theorem fish_near {gs : List Rat} {c k : Int} {i : Nat} (h : qsum gs = (c : Rat)) (hi : i < gs.length) (h0 : 0 ≤ gAt gs i) (h1 : gAt gs i ≤ (k : Rat)) :
    0 ≤ (gAt gs i).floor + extraF gs c i ∧ (gAt gs i).floor + extraF gs c i ≤ k ∧ (((gAt gs i).floor + extraF gs c i : Int) : Rat) - gAt gs i < 1 ∧ gAt gs i - (((gAt gs i).floor + extraF gs c i : Int) : Rat) < 1 := by
  obtain ⟨a0, a1⟩ := part_b gs i
  have hg := fr_part' gs i
  have f0 : 0 ≤ (gAt gs i).floor := by
    have := Rat.le_floor_iff (x := 0) (a := gAt gs i)
    exact this.mpr (by exact_mod_cast h0)
  rw [Rat.intCast_add]
  rcases extra_01 gs c i with e | e
  · rw [e]
    refine ⟨by omega, ?_, ?_, ?_⟩
    · have : (((gAt gs i).floor : Int) : Rat) ≤ (k : Rat) := by grind
      have : (gAt gs i).floor ≤ k := by exact_mod_cast this
      omega
    · grind
    · grind
  · have hp := extra_part h hi e
    rw [e]
    refine ⟨by omega, ?_, ?_, ?_⟩
    · have : (((gAt gs i).floor : Int) : Rat) < (k : Rat) := by grind
      have : (gAt gs i).floor < k := by exact_mod_cast this
      omega
    · grind
    · grind
/-! ### the same with whole numbers -/
end Pu
set_option maxRecDepth 100000
set_option maxHeartbeats 1000000
namespace Pu
open PySem PySem.Spec PyProof.Rows L2
/-! ### each two of those who are dealt to, alone -/
/-- the pair's two amounts are what the way deals to them alone -/
def pairOk (y : Wy) (ws cs xs : List Rat) (i j : Nat) : Prop := 0 ≤ gD xs i + gD xs j ∧ gD xs i + gD xs j ≤ gD cs i + gD cs j ∧ dealOf y [gD ws i, gD ws j] [gD cs i, gD cs j] (gD xs i + gD xs j) = [gD xs i, gD xs j]
end Pu
set_option maxRecDepth 100000
set_option maxHeartbeats 1000000
namespace Pu
open PySem PySem.Spec PyProof.Rows L2
/-! ### customs drawn, as the later laws draw them -/
def clF (c kd : Int) : Int := if (kd + c % 7 / 5) % 4 = 0 then c / 7 % 13 else if (kd + c % 7 / 5) % 4 = 1 then c / 7 % 4 else if (kd + c % 7 / 5) % 4 = 2 then c / 7 % (10 ^ (9 : Int).toNat + 1) else c / 91 % 60 * 10 ^ (6 : Int).toNat
theorem clF_b (c kd : Int) : 0 ≤ clF c kd ∧ clF c kd ≤ 1000000000 := by
  have e9 : (10 : Int) ^ (9 : Int).toNat = 1000000000 := by decide
  have e6 : (10 : Int) ^ (6 : Int).toNat = 1000000 := by decide
  unfold clF
  rw [e9, e6]
  split
  · omega
  · split
    · omega
    · split <;> omega
def cClmF : Ct := fun ds k => ∃ c kd : Int, ds = [.int c, .int kd] ∧ k.rt (.int (clF c kd))
theorem clmF_v {c kd : Int} : cClmF [.int c, .int kd] (kv (.int (clF c kd))) := ⟨c, kd, rfl, rfl⟩
def wayF (i : Int) : Wy := if i = 0 then .even else if i = 1 then .row else if i = 2 then .lack else if i = 3 then .half else if i = 4 then .part else .back
theorem wayF_at {i : Int} (h0 : 0 ≤ i) (h : i < 6) : atI [PyData.str "even", .str "row", .str "lack", .str "half", .str "part", .str "back"] i = some (.str (wayF i).s) := by
  have : i = 0 ∨ i = 1 ∨ i = 2 ∨ i = 3 ∨ i = 4 ∨ i = 5 := by omega
  rcases this with rfl | rfl | rfl | rfl | rfl | rfl <;> rfl
def restF (r : Int) : Nat → Int
  | 0 => r
  | n + 1 => restF r n / 3
def mostF (c : Int) : Int := if c / 6 % 4 = 3 then 10 ^ (6 : Int).toNat else 3
def wtsF (c : Int) (k : Nat) : Int := 1 + restF (c / 24) k % mostF c
theorem wtsF_b (c : Int) (k : Nat) : 1 ≤ wtsF c k ∧ wtsF c k ≤ 1000000 := by
  have e6 : (10 : Int) ^ (6 : Int).toNat = 1000000 := by decide
  unfold wtsF mostF
  rw [e6]
  split <;> omega
def knF (c : Int) (ks : List Cu) : Cu := .knot (wayF (c % 6)) (wList (wayF (c % 6)).wd (wtsF c) ks.length) ks
theorem knF_ok {c : Int} {ks : List Cu} (h0 : ks ≠ []) (hl : ks.length ≤ 12) (hk : ∀ u ∈ ks, u.Ok ∧ u.deep ≤ 7) (hc : (Cu.claimsL ks).length ≤ 12) : (knF c ks).Ok := by
  refine ⟨⟨⟨h0, hl, wList_fit (wtsF_b c)⟩, Cu.okL_all.mpr fun u hu => (hk u hu).1.ok⟩, hc, ?_⟩
  show 1 + Cu.deepL ks ≤ 8
  have : Cu.deepL ks ≤ 7 := Cu.deepL_le.mpr fun u hu => (hk u hu).2
  omega
def cKnF : Ct := fun ds k => ∃ (c : Int) (ks : List Cu), ds = [.int c, .list (ks.map Cu.d)] ∧ ks.length ≤ 12 ∧ (knF c ks).Ok ∧ k.rt (knF c ks).d
theorem knF_v {c : Int} {ks : List Cu} (hl : ks.length ≤ 12) (h : (knF c ks).Ok) : cKnF [.int c, .list (ks.map Cu.d)] (kv (knF c ks).d) := ⟨c, ks, rfl, hl, h, rfl⟩
theorem s_weighed (y : Wy) : (["even", "lack"] : List Str).contains y.s = y.wd := weighed_s y
def cCusF : Ct := fun ds k => ∃ ns : List Int, ds = [.list (ns.map PyData.int)] ∧ ns.length ≤ 63 ∧ ∀ u : Cu, u.Ok → k.rt u.d
theorem cusF_v {ns : List Int} (h : ns.length ≤ 63) : cCusF [.list (ns.map PyData.int)] ⟨isCu, fun _ => False, fun _ => False⟩ := ⟨ns, rfl, h, fun u hu => ⟨u, hu, rfl⟩⟩
end Pu
set_option maxRecDepth 100000
set_option maxHeartbeats 1000000
namespace Pu
open PySem PySem.Spec PyProof.Rows L2
/-! ### closer bounds of what is dealt -/
theorem isum_b {ns : List Int} {B : Nat} (h : small ns B) (hl : ns.length ≤ 128) : ns.sum.natAbs < 2 ^ (B + 8) := sum_lt h hl
/-- the sum at a level: the full ones' claims, and the others' weights times the level -/
theorem lvls_split (l : Rat) : ∀ (ws cs : List Int), ws.length = cs.length → (∀ w ∈ ws, 0 < w) → ∃ as rs : List Int, as.length ≤ cs.length ∧ rs.length ≤ ws.length ∧ (∀ a ∈ as, a ∈ cs) ∧ (∀ r ∈ rs, r ∈ ws) ∧ qsum (lvls (qlist ws) (qlist cs) l) = (as.sum : Rat) + (rs.sum : Rat) * l ∧ (∀ (i : Nat) (w c : Int), ws[i]? = some w → cs[i]? = some c → (w : Rat) * l < (c : Rat) → w ∈ rs)
  | [], [], _, _ => ⟨[], [], Nat.le_refl _, Nat.le_refl _, fun _ h => h, fun _ h => h, by
      show (0 : Rat) = ((0 : Int) : Rat) + ((0 : Int) : Rat) * l
      grind, fun i w c h => by simp at h⟩
  | w :: ws, c :: cs, hl, hw => by
    obtain ⟨as, rs, a1, a2, a3, a4, a5, a6⟩ := lvls_split l ws cs (Nat.succ.inj hl) fun x hx => hw x (List.mem_cons_of_mem _ hx)
    have e : qsum (lvls (qlist (w :: ws)) (qlist (c :: cs)) l) = lvl (w : Rat) (c : Rat) l + qsum (lvls (qlist ws) (qlist cs) l) := rfl
    by_cases h : (w : Rat) * l < (c : Rat)
    · refine ⟨as, w :: rs, by simp; omega, by simp; omega, fun a ha => List.mem_cons_of_mem _ (a3 a ha), fun r hr => ?_, ?_, fun i w' c' h1 h2 h3 => ?_⟩
      · rcases List.mem_cons.mp hr with rfl | hr
        · exact List.mem_cons_self
        · exact List.mem_cons_of_mem _ (a4 r hr)
      · rw [e, a5, List.sum_cons, Rat.intCast_add]
        unfold lvl
        rw [if_pos h]
        grind
      · cases i with
        | zero =>
          obtain rfl := Option.some.inj (show some w = some w' from h1)
          exact List.mem_cons_self
        | succ i => exact List.mem_cons_of_mem _ (a6 i w' c' (by simpa using h1) (by simpa using h2) h3)
    · refine ⟨c :: as, rs, by simp; omega, by simp; omega, fun a ha => ?_, fun r hr => List.mem_cons_of_mem _ (a4 r hr), ?_, fun i w' c' h1 h2 h3 => ?_⟩
      · rcases List.mem_cons.mp ha with rfl | ha
        · exact List.mem_cons_self
        · exact List.mem_cons_of_mem _ (a3 a ha)
      · rw [e, a5, List.sum_cons, Rat.intCast_add]
        unfold lvl
        rw [if_neg h]
        grind
      · cases i with
        | zero =>
          obtain rfl := Option.some.inj (show some w = some w' from h1)
          obtain rfl := Option.some.inj (show some c = some c' from h2)
          exact absurd h3 h
        | succ i => exact a6 i w' c' (by simpa using h1) (by simpa using h2) h3
  | [], _ :: _, h, _ => absurd h (by simp)
  | _ :: _, [], h, _ => absurd h (by simp)
theorem sum_pos_of {rs : List Int} (h : ∀ r ∈ rs, 0 < r) (hne : rs ≠ []) : 0 < rs.sum := by
  induction rs with
  | nil => exact absurd rfl hne
  | cons r s ih =>
    rw [List.sum_cons]
    have h1 := h r List.mem_cons_self
    by_cases e : s = []
    · rw [e]; simpa using h1
    · have := ih (fun x hx => h x (List.mem_cons_of_mem _ hx)) e
      omega
theorem qlist_take (cs : List Int) (k : Nat) : (qlist cs).take k = qlist (cs.take k) := by
  unfold qlist
  rw [List.map_take]
structure Din (y : Wy) (ws cs : List Int) (B : Nat) : Prop where
  ne : cs ≠ []
  nn : ∀ c ∈ cs, 0 ≤ c
  len : cs.length ≤ 64
  sc : small cs B
  b0 : 0 < B
  wt : y.wd = true → ws.length = cs.length ∧ ∀ w ∈ ws, 1 ≤ w ∧ w ≤ 1000000
theorem knot_din {y : Wy} {ws : List Int} {ks : List Cu} (h : (Cu.knot y ws ks).Ok) : Din y ws (ks.map Cu.sum) 40 := by
  have hl := h.ok.1.2.1
  refine ⟨fun z => h.ok.1.1 (by
    have := congrArg List.length z
    rw [List.length_map] at this
    exact List.length_eq_zero_iff.mp this), sums_nn h, by rw [List.length_map]; omega, sums_small h, by decide, fun hy => ?_⟩
  have := wfit_iff.mp h.ok.1.2.2
  rw [if_pos hy] at this
  rw [List.length_map]
  exact this
end Pu
set_option maxRecDepth 100000
set_option maxHeartbeats 1000000
namespace Pu
open PySem PySem.Spec PyProof.Rows L2
/-! ### amounts, kid by kid -/
/-! ### the first pair that is wrong -/
instance (y : Wy) (ws cs xs : List Rat) (i j : Nat) : Decidable (pairOk y ws cs xs i j) := by
  unfold pairOk
  infer_instance
/-! ### no pair is wrong: just what the custom deals -/
end Pu
set_option maxRecDepth 100000
set_option maxHeartbeats 1000000
namespace Pu
open PySem PySem.Spec PyProof.Rows L2
/-! ### contracts of what finds back -/
/-! sizes of sums -/
end Pu
set_option maxRecDepth 100000
set_option maxHeartbeats 1000000
namespace Pu
open PySem PySem.Spec PyProof.Rows L2
/-! ### enumerate of a list or a tuple -/
end Pu
set_option maxRecDepth 100000
set_option maxHeartbeats 1000000
namespace Pu
open PySem PySem.Spec PyProof.Rows L2
/-! ### what papers show -/
inductive Pap where
  | catch_ (q : Rat)
  | over (m : Int)
  | pair (t : Bool) (p : List Int) (i j : Int)
def pathD (t : Bool) (p : List Int) : D := if t then .tuple (p.map PyData.int) else .list (p.map PyData.int)
def Pap.d : Pap → D
  | .catch_ q => .tuple [.str "catch", fr q]
  | .over m => .tuple [.str "over", .int m]
  | .pair t p i j => .tuple [.str "pair", pathD t p, .int i, .int j]
end Pu
set_option maxRecDepth 100000
set_option maxHeartbeats 1000000
namespace Pu
open PySem PySem.Spec PyProof.Rows L2
/-! ### what the laws of papers draw -/
end Pu
set_option maxRecDepth 100000
set_option maxHeartbeats 1000000
namespace Pu
open PySem PySem.Spec PyProof.Rows L2
/-! ### the first of an own list taken off, and something of it put at the end -/
end Pu
set_option maxRecDepth 100000
set_option maxHeartbeats 1000000
namespace Pu
open PySem PySem.Spec PyProof.Rows L2
/-! ### a loop over a list of which only something is known -/
def IdP (K : Frag) (wi : TI) (ρ : En) (P : List D → Prop) : Prop := ∀ R0 H0 R σ H, At K R0 H0 R ρ σ H → ∀ Rr : It → Hp → Prop, (∀ J R' H' ds, P ds → Grow R H R' H' → Yl K J R' ds → Rr J H') → wi σ H Rr
section
variable {K : Frag} {ρ : En} {W : WX} {ex : Value → En → Prop} {k : Ko} {g : TG} {tb : TS} {ta : TA} {c : Ct} {es : List D} {E : L2.St → XK}
theorem sd_forP {wi : TI} (P : List D → Prop) (hI : IdP K wi ρ P)
    (h : ∀ ds, P ds → ∃ Inv : Nat → En → Prop, Inv 0 ρ ∧ (∀ i d ρ', ds[i]? = some d → Inv i ρ' → ∃ ρ2, Gd K g d ρ' ρ2 ∧ Sd K W ex tb ρ2 { k with nx := Inv (i + 1), ct := Inv (i + 1), bk := k.nx }) ∧ ∀ ρ', Inv ds.length ρ' → k.nx ρ') : Sd K W ex (tFor wi g tb) ρ k := fun R0 H0 ok R σ H a D m => by
  refine hI R0 H0 R σ H a _ fun J R' H' ds hP gr yl => ?_
  obtain ⟨Inv, h0, hs, hd⟩ := h ds hP
  refine ⟨fun i n σ' H2 => n = ds.length - i ∧ i ≤ ds.length ∧ ∃ ρ' R2, Inv i ρ' ∧ At K R0 H0 R2 ρ' σ' H2 ∧ Same R' R2, ⟨ds.length, by simp, Nat.zero_le _, ρ, R', h0, a.grow gr, Same.refl _⟩, ?_⟩
  rintro i n σ' H2 ⟨rfl, hi, ρ', R2, w, a2, s2⟩
  obtain ⟨y1, y2⟩ := yl R2 H2 s2 a2.gr.sub
  by_cases hlt : i < ds.length
  · obtain ⟨go, yld⟩ := y1 i ds[i] (List.getElem?_eq_getElem hlt)
    refine .inr ⟨go, fun σ3 H3 => ∃ ρ3 R3, Inv (i + 1) ρ3 ∧ At K R0 H0 R3 ρ3 σ3 H3 ∧ Same R' R3, fun σ3 H3 ⟨ρ3, R3, w3, a3, s3⟩ => ⟨ds.length - (i + 1), by omega, rfl, hlt, ρ3, R3, w3, a3, s3⟩, fun x H3 y => ?_⟩
    obtain ⟨R3, g3, dx⟩ := yld x H3 y
    obtain ⟨ρ2, hg, hb⟩ := hs i ds[i] ρ' (List.getElem?_eq_getElem hlt) w
    have a3 := a2.grow g3
    refine hg R0 H0 R3 x σ' H3 a3 dx _ fun σ4 a4 => ?_
    have G := a3.gr
    refine hb R3 H0 (ok.back G) R3 σ4 H3 (a4.later G (Same.refl _)) _ ⟨fun r R5 σ5 H5 q a5 => ⟨r, R5, q, a5.back G, (s2.trans g3.rd).trans a5.gr.rd⟩, (m.back G).rt, (m.back G).rl, fun r R5 σ5 H5 q a5 => m.nx r R5 σ5 H5 q (a5.back G), fun r R5 σ5 H5 q a5 => ⟨r, R5, q, a5.back G, (s2.trans g3.rd).trans a5.gr.rd⟩, (m.back G).rg⟩
  · have e : i = ds.length := by omega
    subst e
    exact .inl ⟨y2, m.nx _ _ _ _ (hd ρ' w) a2⟩
end
end Pu
set_option maxRecDepth 100000
set_option maxHeartbeats 1000000
namespace Pu
open PySem PySem.Spec PyProof.Rows L2
/-! ### papers of what is lacking, and of the plain custom -/
end Pu
set_option maxRecDepth 100000
set_option maxHeartbeats 1000000
namespace Pu
open PySem PySem.Spec PyProof.Rows L2
section
variable {K : Frag} {ρ : En} {ta tb : TE} {ds es : List D}
section
variable {ta : TA}
theorem id_rngN {n : Nat} (h : EvA K ta ρ [.int (n : Int)]) (hn : n ≤ 1000000) : Id K (iRng1 ta) ρ (rangeD 0 n) := by
  have := id_rng1 h (by omega) (by omega)
  rwa [Int.toNat_natCast] at this
end
end
/-! ### the pairs of all knots -/
/-! papers are alike to themselves -/
/-! all papers but the catch -/
/-! there is always a paper to tell -/
end Pu
set_option maxRecDepth 100000
set_option maxHeartbeats 1000000
namespace Pu
open PySem PySem.Spec PyProof.Rows L2
/-! ### a right pair, way by way -/
end Pu
set_option maxRecDepth 100000
set_option maxHeartbeats 1000000
namespace Pu
open PySem PySem.Spec PyProof.Rows L2
/-! ### contracts: pairs way by way -/
end Pu
set_option maxRecDepth 100000
set_option maxHeartbeats 1000000
namespace Pu
open PySem PySem.Spec PyProof.Rows L2
/-! ### a < b < c < d -/
/-! ### papers that a law draws, and what it leads to -/
end Pu
set_option maxRecDepth 100000
set_option maxHeartbeats 1000000
namespace Pu
open PySem PySem.Spec PyProof.Rows L2
/-! ### texts -/
def rStrI : List V → Hp → VK → Prop := fun xs H Q => ∃ i, xs = [.int i] ∧ i.natAbs.log2 < 1920 ∧ Q (.str (toString i)) H
theorem c_strI {X : Cx} : CallR X (.type "str") rStrI := call_str_int
def rIntS : List V → Hp → VK → Prop := fun xs H Q => ∃ a n, xs = [.str a] ∧ PySem.intText? a = some n ∧ a.length ≤ 640 ∧ Q (.int n) H
theorem c_intS {X : Cx} : CallR X (.type "int") rIntS := call_int_str
def rNiS : R2 := fun x y H Q => ∃ i j, x = .str i ∧ y = .str j ∧ Q (.bl (!(!(Builtin.Str.occurrences j i 0 j.length 1).isEmpty))) H
theorem o_notInS {X : Cx} : OpR X (compareOp .NotIn) rNiS := op_notIn_str
def signsD (z : Str) : List D := z.cps.toList.map fun c => .str ⟨#[c]⟩
section
variable {K : Frag} {ρ : En} {te ta tb : TE}
theorem id_str {z : Str} (h : Ev K te ρ (.str z)) : Id K (iStr te) ρ (signsD z) := fun R0 H0 R σ H a Rr q => h R0 H0 R σ H a _ fun v R1 H1 g1 dv => by
  cases dv
  refine ⟨z, rfl, q _ R1 H1 g1 fun R2 H2 s2 sh => ⟨fun i d e => ?_, ?_⟩⟩
  · unfold signsD at e
    rw [List.getElem?_map] at e
    cases hc : z.cps.toList[i]? with
    | none => rw [hc] at e; cases e
    | some c =>
      rw [hc] at e
      obtain rfl := Option.some.inj e
      have hc' : z.cps[i]? = some c := by rw [← Array.getElem?_toList]; exact hc
      refine ⟨(Array.getElem?_eq_some_iff.mp hc').1, fun x H3 y => ?_⟩
      obtain ⟨rfl, c', h1, rfl⟩ := y
      rw [hc'] at h1
      cases h1
      exact ⟨R2, Grow.refl sh, .str _⟩
  · show z.cps.size ≤ (signsD z).length
    unfold signsD
    rw [List.length_map, Array.length_toList]
    exact Nat.le_refl _
theorem v_strI {i : Int} (ha : Ev K ta ρ (.int i)) (h : i.natAbs.log2 < 1920) : Ev K (tCB rStrI (tCons ta tNil)) ρ (.str (toString i)) := v_call1 ha fun R H x s dx Q q => by
  cases dx
  exact ⟨i, rfl, h, q _ R H (Grow.refl s) (.str _)⟩
theorem v_intS {a : Str} {n : Int} (ha : Ev K ta ρ (.str a)) (h : PySem.intText? a = some n) (hl : a.length ≤ 640) : Ev K (tCB rIntS (tCons ta tNil)) ρ (.int n) := v_call1 ha fun R H x s dx Q q => by
  cases dx
  exact ⟨a, n, rfl, h, hl, q _ R H (Grow.refl s) (.int _)⟩
theorem v_niS {c : Nat} {z : Str} (ha : Ev K ta ρ (.str ⟨#[c]⟩)) (hb : Ev K tb ρ (.str z)) : Ev K (tOp rNiS ta tb) ρ (.bool (!decide (c ∈ z.cps.toList))) := ev_op2 ha hb fun R H x y s dx dy Q q => by
  cases dx
  cases dy
  refine ⟨_, _, rfl, rfl, ?_⟩
  rw [StrLaws.found_one]
  exact q _ R H (Grow.refl s) (.bl _)
theorem ev_ixS {z : Str} {i : Int} {c : Nat} (ha : Ev K ta ρ (.str z)) (hb : Ev K tb ρ (.int i)) (h : z.length ≤ 100000) (hc : atI z.cps.toList i = some c) : Ev K (tOp (rIx K) ta tb) ρ (.str ⟨#[c]⟩) := ev_op2 ha hb fun R H x y s dx dy Q q => by
  cases dx
  cases dy
  exact .inr (.inr ⟨z, i, c, rfl, rfl, Nat.le_trans h (by decide), hc, q _ R H (Grow.refl s) (.str _)⟩)
theorem a_catS {y z : Str} (ha : Ev K ta ρ (.str y)) (hb : Ev K tb ρ (.str z)) (h : y.length + z.length ≤ 100000) : Ev K (tOp (rCatA K) ta tb) ρ (.str (y ++ z)) := ev_op2 ha hb fun R H x w s dx dy Q q => by
  cases dx
  cases dy
  exact .inr (.inr (.inr ⟨y, z, rfl, rfl, Nat.le_trans h (by decide), q _ R H (Grow.refl s) (.str _)⟩))
theorem a_slS {tl th : TO} {lo hi : Option Int} {z : Str} (ha : Ev K te ρ (.str z)) (hz : z.length ≤ 100000) (h1 : EvO K tl ρ lo) (h2 : EvO K th ρ hi) : Ev K (tSl (rSlA K) te tl th) ρ (.str (cutS z lo hi)) := fun R0 H0 R σ H a Q q =>
  ha R0 H0 R σ H a _ fun x R1 H1 g1 dx => h1 R0 H0 R1 σ H1 (a.grow g1) _ fun R2 H2 g2 => h2 R0 H0 R2 σ H2 (a.grow (g1.trans g2)) _ fun R3 H3 g3 => by
    cases dx
    exact .inr (.inr ⟨z, rfl, Nat.le_trans hz (by decide), q _ R3 H3 ((g1.trans g2).trans g3) (.str _)⟩)
end
/-! numbers written -/
def digB (w : Str) : Bool := w.cps.toList.all fun c => decide (48 ≤ c) && decide (c ≤ 57)
def okNum (w : Str) : Bool := (decide (1 ≤ w.length) && decide (w.length ≤ 13)) && (!(decide (w.cps.toList.head? = some 48) && decide (1 < w.length)) && digB w)
def numOf (w : Str) : Int := ((NumText.digitsVal w.cps.toList : Nat) : Int)
theorem num_text {w : Str} (h : okNum w = true) : PySem.intText? w = some (numOf w) := by
  unfold okNum at h
  rw [Bool.and_eq_true, Bool.and_eq_true, Bool.and_eq_true, decide_eq_true_eq, decide_eq_true_eq] at h
  obtain ⟨⟨h1, h2⟩, _, h3⟩ := h
  have hl : w.cps.toList.length = w.length := Array.length_toList
  have := SX.int_S (a := w.cps.toList) h3 (fun z => by rw [z] at hl; simp at hl; omega) (by omega)
  exact this
theorem dig_in (c : Nat) : decide (c ∈ ("0123456789" : Str).cps.toList) = (decide (48 ≤ c) && decide (c ≤ 57)) := by
  have e : ("0123456789" : Str).cps.toList = [48, 49, 50, 51, 52, 53, 54, 55, 56, 57] := by decide +kernel
  rw [e]
  simp only [List.mem_cons, List.not_mem_nil, or_false]
  rw [← Bool.decide_and]
  exact decide_eq_decide.mpr (by omega)
/-- plain signsD only -/
def asc (w : Str) : Prop := ∀ c ∈ w.cps.toList, c < 128
theorem one_shaped (c : Nat) (h : c < 128) : SeqAt.shaped (.str ⟨#[c]⟩) = true := by
  have : ∀ c : Fin 128, SeqAt.shaped (.str ⟨#[c.val]⟩) = true := by decide +kernel
  exact this ⟨c, h⟩
theorem one_eq (c d : Nat) : decide ((⟨#[c]⟩ : Str) = ⟨#[d]⟩) = decide (c = d) := decide_eq_decide.mpr ⟨fun h => by
  have := congrArg (fun s : Str => s.cps.toList) h
  exact (List.cons.inj this).1, fun h => by rw [h]⟩
def cNumIn (C : Addr) : Ct := fun ds k => ∃ w : Str, ds = [.str w] ∧ w.length ≤ 90000 ∧ asc w ∧ (okNum w = false → k.ex (.ref C)) ∧ (okNum w = true → k.rt (.int (numOf w)))
theorem numIn_v {C : Addr} {w : Str} (hl : w.length ≤ 90000) (ha : asc w) (h : okNum w = true) : cNumIn C [.str w] (kv (.int (numOf w))) := ⟨w, rfl, hl, ha, (fun z => by rw [h] at z; cases z), fun _ => rfl⟩
theorem numIn_x {C : Addr} {w : Str} (hl : w.length ≤ 90000) (ha : asc w) (h : okNum w = false) : cNumIn C [.str w] (kx (.ref C)) := ⟨w, rfl, hl, ha, (fun _ => rfl), (fun z => by rw [h] at z; cases z)⟩
theorem str_len (i : Int) (h : i.natAbs < 10 ^ 13) : (Str.ofString (toString i)).length ≤ 14 := by
  have := int_text_length_le10 (k := 13) (by decide) h
  rw [PySem.ofString_length]
  exact this
theorem cat_len (y z : Str) : (y ++ z).length = y.length + z.length := by
  show (y.cps ++ z.cps).size = _
  rw [Array.size_append]
  rfl
theorem num_asc {i : Int} (h : 0 ≤ i) : asc (Str.ofString (toString i)) := fun c hc => by
  obtain ⟨n, rfl⟩ : ∃ n : Nat, i = (n : Int) := ⟨i.toNat, by omega⟩
  rw [SX.num_S] at hc
  have := TL.numL_digits n c hc
  omega
theorem asc_cat {y z : Str} (h1 : asc y) (h2 : asc z) : asc (y ++ z) := fun c hc => by
  have : (y ++ z).cps.toList = y.cps.toList ++ z.cps.toList := by
    show (y.cps ++ z.cps).toList = _
    rw [Array.toList_append]
  rw [this] at hc
  rcases List.mem_append.mp hc with hc | hc
  · exact h1 c hc
  · exact h2 c hc
theorem asc_cut {z : Str} (h : asc z) (lo hi : Option Int) : asc (cutS z lo hi) := fun c hc => by
  have : c ∈ ((z.cps.toList.drop (HT.sIx z.length 0 lo)).take (HT.sIx z.length z.length hi - HT.sIx z.length 0 lo)) := by
    have e : (cutS z lo hi).cps.toList = ((z.cps.toList.drop (HT.sIx z.length 0 lo)).take (HT.sIx z.length z.length hi - HT.sIx z.length 0 lo)) := rfl
    rwa [e] at hc
  exact h c (List.mem_of_mem_drop (List.mem_of_mem_take this))
theorem asc_one {c : Nat} (h : c < 128) : asc ⟨#[c]⟩ := fun d hd => by
  have : d = c := by simpa using hd
  omega
/-! names -/
def rInS : R2 := fun x y H Q => ∃ i j, x = .str i ∧ y = .str j ∧ Q (.bl (!(Builtin.Str.occurrences j i 0 j.length 1).isEmpty)) H
theorem o_inS {X : Cx} : OpR X (compareOp .In) rInS := op_in_str
theorem v_inS1 {K : Frag} {ρ : En} {ta tb : TE} {c : Nat} {z : Str} (ha : Ev K ta ρ (.str ⟨#[c]⟩)) (hb : Ev K tb ρ (.str z)) : Ev K (tOp rInS ta tb) ρ (.bool (decide (c ∈ z.cps.toList))) := ev_op2 ha hb fun R H x y s dx dy Q q => by
  cases dx
  cases dy
  refine ⟨_, _, rfl, rfl, ?_⟩
  rw [StrLaws.found_one]
  exact q _ R H (Grow.refl s) (.bl _)
def lowB (c : Nat) : Bool := decide (97 ≤ c) && decide (c ≤ 122)
def isNm (w : Str) : Bool := (decide (1 ≤ w.length) && decide (w.length ≤ 12)) && w.cps.toList.all lowB
theorem low_in (c : Nat) : decide (c ∈ ("abcdefghijklmnopqrstuvwxyz" : Str).cps.toList) = lowB c := by
  have e : ("abcdefghijklmnopqrstuvwxyz" : Str).cps.toList = [97, 98, 99, 100, 101, 102, 103, 104, 105, 106, 107, 108, 109, 110, 111, 112, 113, 114, 115, 116, 117, 118, 119, 120, 121, 122] := by decide +kernel
  rw [e]
  simp only [List.mem_cons, List.not_mem_nil, or_false]
  unfold lowB
  rw [← Bool.decide_and]
  exact decide_eq_decide.mpr (by omega)
def cIsName : Ct := fun ds k => ∃ w : Str, ds = [.str w] ∧ w.length ≤ 90000 ∧ k.rt (.bool (isNm w))
theorem isName_v {w : Str} (hl : w.length ≤ 90000) : cIsName [.str w] (kv (.bool (isNm w))) := ⟨w, rfl, hl, rfl⟩
end Pu
set_option maxRecDepth 100000
set_option maxHeartbeats 1000000
namespace Pu
open PySem PySem.Spec PyProof.Rows L2
/-! ### common bottoms: M times q is whole -/
theorem ipow_mono {a b : Nat} (h : a ≤ b) : (2 : Int) ^ a ≤ 2 ^ b := by
  have := Nat.pow_le_pow_right (n := 2) (by decide) h
  exact_mod_cast this
def Mw (M : Int) (q : Rat) : Prop := ∃ z : Int, q * (M : Rat) = (z : Rat)
theorem mw_int (M i : Int) : Mw M (i : Rat) := ⟨i * M, by rw [Rat.intCast_mul]⟩
theorem mw_zero (M : Int) : Mw M 0 := ⟨0, by rw [Rat.zero_mul]; rfl⟩
theorem mw_add {M : Int} {p q : Rat} (h1 : Mw M p) (h2 : Mw M q) : Mw M (p + q) := by
  obtain ⟨a, ha⟩ := h1
  obtain ⟨b, hb⟩ := h2
  exact ⟨a + b, by rw [Rat.intCast_add, ← ha, ← hb]; grind⟩
theorem mw_sub {M : Int} {p q : Rat} (h1 : Mw M p) (h2 : Mw M q) : Mw M (p - q) := by
  obtain ⟨a, ha⟩ := h1
  obtain ⟨b, hb⟩ := h2
  exact ⟨a - b, by rw [Rat.intCast_sub, ← ha, ← hb]; grind⟩
theorem mw_more {M N : Int} {q : Rat} (h : Mw M q) : Mw (M * N) q := by
  obtain ⟨a, ha⟩ := h
  exact ⟨a * N, by rw [Rat.intCast_mul, Rat.intCast_mul, ← ha]; grind⟩
theorem mw_times {M w : Int} {q : Rat} (h : Mw M q) : Mw M ((w : Rat) * q) := by
  obtain ⟨a, ha⟩ := h
  exact ⟨w * a, by rw [Rat.intCast_mul, ← ha]; grind⟩
theorem mw_div {M R : Int} {q : Rat} (h0 : R ≠ 0) (h : Mw M q) : Mw (M * R) (q / (R : Rat)) := by
  obtain ⟨a, ha⟩ := h
  have hR : (R : Rat) ≠ 0 := by
    intro z
    exact h0 (by exact_mod_cast z)
  refine ⟨a, ?_⟩
  have e := Rat.mul_inv_cancel (R : Rat) hR
  rw [Rat.intCast_mul, ← ha, Rat.div_def]
  have : q * (R : Rat)⁻¹ * ((M : Rat) * (R : Rat)) = q * (M : Rat) * ((R : Rat) * (R : Rat)⁻¹) := by grind
  rw [this, e, Rat.mul_one]
theorem mw_den (q : Rat) : Mw (q.den : Int) q := ⟨q.num, (num_den q).symm⟩
theorem mw_sum {M : Int} : ∀ {xs : List Rat}, (∀ x ∈ xs, Mw M x) → Mw M (qsum xs)
  | [], _ => mw_zero M
  | x :: r, h => mw_add (h x List.mem_cons_self) (mw_sum fun y hy => h y (List.mem_cons_of_mem _ hy))
theorem mw_bt {M : Int} {q : Rat} {n : Nat} (h : Mw M q) (hM : 0 < M) (hb : M.natAbs < 2 ^ n) (h0 : 0 ≤ q) (h1 : q ≤ ((2 ^ 40 : Int) : Rat)) : bt q (n + 41) := by
  obtain ⟨z, hz⟩ := h
  have hMq : (0 : Rat) < (M : Rat) := by exact_mod_cast hM
  have e : q = Rat.divInt z M := by
    rw [Rat.divInt_eq_div, ← hz, Rat.div_def, Rat.mul_assoc, Rat.mul_inv_cancel _ (by grind), Rat.mul_one]
  have hz0 : 0 ≤ z := by
    have := Rat.mul_nonneg h0 (Rat.le_of_lt hMq)
    rw [hz] at this
    exact_mod_cast this
  have hz1 : z ≤ 2 ^ 40 * M := by
    have : q * (M : Rat) ≤ ((2 ^ 40 : Int) : Rat) * (M : Rat) := Rat.mul_le_mul_of_nonneg_right h1 (Rat.le_of_lt hMq)
    rw [hz, ← Rat.intCast_mul] at this
    exact_mod_cast this
  have p1 : (2 : Nat) ^ (n + 41) = 2 ^ n * 2 ^ 41 := Nat.pow_add 2 n 41
  rw [e]
  refine bt_divInt (by omega) ?_ ?_
  · rw [p1]
    omega
  · rw [p1]
    omega
theorem lvls_mw {ws cs : List Int} {l q : Rat} {M : Int} (hl : ws.length = cs.length) (hw : ∀ w ∈ ws, 1 ≤ w ∧ w ≤ 1000000) (hn : cs.length ≤ 64) (hs : qsum (lvls (qlist ws) (qlist cs) l) = q) (hq : Mw M q) : ∃ F : Int, 0 < F ∧ F < 2 ^ 28 ∧ ∀ x ∈ lvls (qlist ws) (qlist cs) l, Mw (M * F) x := by
  obtain ⟨as, rs, a1, a2, a3, a4, a5, a6⟩ := lvls_split l ws cs hl fun w h => by have := hw w h; omega
  by_cases hne : rs = []
  · refine ⟨1, by decide, by decide, fun x hx => ?_⟩
    obtain ⟨i, hi⟩ := List.mem_iff_getElem?.mp hx
    obtain ⟨w, c, hwi, hci, rfl⟩ := lvls_at hi
    obtain ⟨w', hw', rfl⟩ : ∃ w' : Int, ws[i]? = some w' ∧ w = (w' : Rat) := by
      unfold qlist at hwi
      rw [List.getElem?_map] at hwi
      cases q : ws[i]? with
      | none => rw [q] at hwi; cases hwi
      | some v => rw [q] at hwi; exact ⟨v, rfl, (Option.some.inj hwi).symm⟩
    obtain ⟨c', hc', rfl⟩ : ∃ c' : Int, cs[i]? = some c' ∧ c = (c' : Rat) := by
      unfold qlist at hci
      rw [List.getElem?_map] at hci
      cases q : cs[i]? with
      | none => rw [q] at hci; cases hci
      | some v => rw [q] at hci; exact ⟨v, rfl, (Option.some.inj hci).symm⟩
    unfold lvl
    split
    · rename_i hlt
      have hm := a6 i w' c' hw' hc' hlt
      rw [hne] at hm
      cases hm
    · exact mw_int _ _
  · have hR := sum_pos_of (fun r hr => by have := hw r (a4 r hr); omega) hne
    have hRb : rs.sum.natAbs < 2 ^ 28 := isum_b (B := 20) (fun r hr => by
      have := hw r (a4 r hr)
      have p20 : (2 : Nat) ^ 20 = 1048576 := by decide
      omega) (by omega)
    have hRq : ((rs.sum : Int) : Rat) ≠ 0 := by
      intro z
      have : rs.sum = 0 := by exact_mod_cast z
      omega
    refine ⟨rs.sum, hR, by
      have p28 : (2 : Nat) ^ 28 = 268435456 := by decide
      have p28' : (2 : Int) ^ 28 = 268435456 := by decide
      omega, fun x hx => ?_⟩
    obtain ⟨i, hi⟩ := List.mem_iff_getElem?.mp hx
    obtain ⟨w, c, hwi, hci, rfl⟩ := lvls_at hi
    obtain ⟨w', hw', rfl⟩ : ∃ w' : Int, ws[i]? = some w' ∧ w = (w' : Rat) := by
      unfold qlist at hwi
      rw [List.getElem?_map] at hwi
      cases q : ws[i]? with
      | none => rw [q] at hwi; cases hwi
      | some v => rw [q] at hwi; exact ⟨v, rfl, (Option.some.inj hwi).symm⟩
    obtain ⟨c', hc', rfl⟩ : ∃ c' : Int, cs[i]? = some c' ∧ c = (c' : Rat) := by
      unfold qlist at hci
      rw [List.getElem?_map] at hci
      cases q : cs[i]? with
      | none => rw [q] at hci; cases hci
      | some v => rw [q] at hci; exact ⟨v, rfl, (Option.some.inj hci).symm⟩
    unfold lvl
    split
    · have el : l = (q - (as.sum : Rat)) / (rs.sum : Rat) := by
        rw [hs] at a5
        rw [a5, show (as.sum : Rat) + (rs.sum : Rat) * l - (as.sum : Rat) = l * (rs.sum : Rat) by grind, Rat.div_def, Rat.mul_assoc, Rat.mul_inv_cancel _ hRq, Rat.mul_one]
      rw [el]
      exact mw_times (mw_div (by omega) (mw_sub hq (mw_int M as.sum)))
    · exact mw_int _ _
theorem lackD_mw {cs : List Int} {gs : List Rat} {M : Int} (h : ∀ g ∈ gs, Mw M g) : ∀ x ∈ lackD (qlist cs) gs, Mw M x := fun x hx => by
  obtain ⟨i, hi⟩ := List.mem_iff_getElem?.mp hx
  obtain ⟨c, g, h1, h2, rfl⟩ := lackD_at hi
  obtain ⟨v, hv, rfl⟩ := List.mem_map.mp (List.mem_of_getElem? h1)
  exact mw_sub (mw_int _ _) (h g (List.mem_of_getElem? h2))
theorem hv_mw {gs : List Rat} {M : Int} (h : ∀ g ∈ gs, Mw M g) : ∀ x ∈ hv gs, Mw (M * 2) x := fun x hx => by
  obtain ⟨i, hi⟩ := List.mem_iff_getElem?.mp hx
  obtain ⟨y, h1, rfl⟩ := hv_at hi
  have := mw_div (R := 2) (by decide) (h y (List.mem_of_getElem? h1))
  rw [Rat.div_def] at this
  rw [show (1 : Rat) / 2 * y = y * (((2 : Int) : Rat))⁻¹ by
    have : ((2 : Int) : Rat) = 2 := rfl
    rw [this]
    grind]
  exact this
theorem rowD_mw {cs : List Int} {q : Rat} {M : Int} (hc : ∀ c ∈ cs, 0 ≤ c) (h0 : 0 ≤ q) (hq : Mw M q) : ∀ x ∈ rowD (qlist cs) q, Mw M x := fun x hx => by
  rw [rowD_is (nn_q hc) h0] at hx
  obtain ⟨i, hi⟩ := List.mem_iff_getElem?.mp hx
  obtain ⟨c, hci, rfl⟩ := fillD_at _ _ _ _ _ hi
  obtain ⟨v, hv, rfl⟩ := List.mem_map.mp (List.mem_of_getElem? hci)
  rw [Rat.zero_add, qlist_take, qlist_sum]
  unfold clip
  split
  · exact mw_zero _
  · split
    · exact mw_int _ _
    · exact mw_sub hq (mw_int _ _)
theorem dealOf_mw {y : Wy} {ws cs : List Int} {q : Rat} {M : Int} (h : Din y ws cs 40) (h0 : 0 ≤ q) (h1 : q ≤ qsum (qlist cs)) (hq : Mw M q) : ∃ F : Int, 0 < F ∧ F < 2 ^ 70 ∧ ∀ x ∈ dealOf y (qlist ws) (qlist cs) q, Mw (M * F) x := by
  have hne : qlist cs ≠ [] := fun z => h.ne (by
    have := congrArg List.length z
    rw [qlist_len] at this
    exact List.length_eq_zero_iff.mp this)
  have one : ∀ {gs : List Rat}, (∀ x ∈ gs, Mw M x) → ∃ F : Int, 0 < F ∧ F < 2 ^ 70 ∧ ∀ x ∈ gs, Mw (M * F) x := fun {gs} hg => ⟨1, by decide, by decide, fun x hx => mw_more (hg x hx)⟩
  have hS : Mw M (qsum (qlist cs)) := by rw [qlist_sum]; exact mw_int _ _
  have big : ∀ {F : Int}, F < 2 ^ 28 → F < 2 ^ 70 := fun {F} hF => by
    have p28 : (2 : Int) ^ 28 = 268435456 := by decide
    have p70 : (2 : Int) ^ 70 = 1180591620717411303424 := by decide
    omega
  have big2 : ∀ {F : Int}, F < 2 ^ 28 → F * 2 < 2 ^ 70 := fun {F} hF => by
    have p28 : (2 : Int) ^ 28 = 268435456 := by decide
    have p70 : (2 : Int) ^ 70 = 1180591620717411303424 := by decide
    omega
  have ev : ∀ {vs : List Int} {p : Rat}, vs.length = cs.length → (∀ w ∈ vs, 1 ≤ w ∧ w ≤ 1000000) → 0 ≤ p → p ≤ qsum (qlist cs) → Mw M p → ∃ F : Int, 0 < F ∧ F < 2 ^ 28 ∧ ∀ x ∈ evenD (qlist vs) (qlist cs) p, Mw (M * F) x := fun {vs p} hl hw p0 p1 hp => by
    obtain ⟨l, l0, e, s⟩ := evenD_level (qW_ok hl hw h.nn) p0 p1 hne
    rw [e] at s
    rw [e]
    exact lvls_mw hl hw h.len s hp
  have h1s : ∀ os : List Int, os = cs.map (fun _ => 1) → os.length = cs.length ∧ (∀ w ∈ os, 1 ≤ w ∧ w ≤ 1000000) ∧ qlist os = ones (qlist cs) := fun os e => by
    refine ⟨by rw [e, List.length_map], fun w hw => ?_, by rw [e, ← ones_q]⟩
    rw [e] at hw
    obtain ⟨_, _, rfl⟩ := List.mem_map.mp hw
    decide
  cases y with
  | row => exact one (rowD_mw h.nn h0 hq)
  | back =>
    refine one fun x hx => ?_
    have hx' : x ∈ (rowD (qlist cs).reverse q).reverse := hx
    rw [List.mem_reverse, qlist_rev] at hx'
    exact rowD_mw (fun c hc => h.nn c (List.mem_reverse.mp hc)) h0 hq x hx'
  | even =>
    obtain ⟨hl, hw⟩ := h.wt rfl
    obtain ⟨F, f0, f1, f2⟩ := ev hl hw h0 h1 hq
    exact ⟨F, f0, big f1, f2⟩
  | lack =>
    obtain ⟨hl, hw⟩ := h.wt rfl
    obtain ⟨F, f0, f1, f2⟩ := ev (p := qsum (qlist cs) - q) hl hw (by grind) (by grind) (mw_sub hS hq)
    exact ⟨F, f0, big f1, lackD_mw f2⟩
  | part =>
    have e : dealOf .part (qlist ws) (qlist cs) q = (qlist cs).map fun c => c * (q / qsum (qlist cs)) := partD_map (nn_q h.nn)
    by_cases z : cs.sum = 0
    · refine one fun x hx => ?_
      rw [e] at hx
      obtain ⟨c, hc, rfl⟩ := List.mem_map.mp hx
      obtain ⟨v, hv, rfl⟩ := List.mem_map.mp hc
      have : q / qsum (qlist cs) = 0 := by
        rw [qlist_sum, z]
        show q / 0 = 0
        rw [Rat.div_def, Rat.inv_zero, Rat.mul_zero]
      rw [this, Rat.mul_zero]
      exact mw_zero _
    · have hs := isum_b h.sc (by have := h.len; omega)
      have hs0 : 0 ≤ cs.sum := by
        have := qsum_nonneg (nn_q h.nn)
        rw [qlist_sum] at this
        exact_mod_cast this
      refine ⟨cs.sum, by omega, by
        have p48 : (2 : Nat) ^ (40 + 8) = 281474976710656 := by decide
        have p70 : (2 : Int) ^ 70 = 1180591620717411303424 := by decide
        omega, fun x hx => ?_⟩
      rw [e] at hx
      obtain ⟨c, hc, rfl⟩ := List.mem_map.mp hx
      obtain ⟨v, hv, rfl⟩ := List.mem_map.mp hc
      rw [qlist_sum]
      exact mw_times (mw_div z hq)
  | half =>
    obtain ⟨ol, ow, oq⟩ := h1s _ rfl
    have e : dealOf .half (qlist ws) (qlist cs) q = halfD (qlist cs) q := rfl
    rw [e]
    unfold halfD
    rw [← oq]
    split
    · have e : qsum (qlist cs) + qsum (qlist cs) - (q + q) = (qsum (qlist cs) - q) + (qsum (qlist cs) - q) := by grind
      rw [e]
      obtain ⟨F, f0, f1, f2⟩ := ev (p := (qsum (qlist cs) - q) + (qsum (qlist cs) - q)) ol ow (by grind) (by grind) (mw_add (mw_sub hS hq) (mw_sub hS hq))
      refine ⟨F * 2, by omega, big2 f1, lackD_mw ?_⟩
      rw [← Int.mul_assoc]
      exact hv_mw f2
    · obtain ⟨F, f0, f1, f2⟩ := ev (p := q + q) ol ow (by grind) (by grind) (mw_add hq hq)
      refine ⟨F * 2, by omega, big2 f1, ?_⟩
      rw [← Int.mul_assoc]
      exact hv_mw f2
theorem dealL_mw {c : Nat} : ∀ (ks : List Cu) (gs : List Rat) (M : Int), gs.length = ks.length → (∀ (i : Nat) (k : Cu) (g : Rat), ks[i]? = some k → gs[i]? = some g → ∃ F : Int, 0 < F ∧ F ≤ 2 ^ (c * k.claims.length) ∧ ∀ x ∈ k.deal g, Mw (M * F) x) →
    ∃ F : Int, 0 < F ∧ F ≤ 2 ^ (c * (Cu.claimsL ks).length) ∧ ∀ x ∈ Cu.dealL ks gs, Mw (M * F) x
  | [], _, M, _, _ => ⟨1, by decide, by show (1 : Int) ≤ 2 ^ (c * 0); rw [Nat.mul_zero]; decide, fun x hx => by cases hx⟩
  | k :: r, [], M, h, _ => by cases h
  | k :: r, g :: gs, M, h, hk => by
    obtain ⟨F, f0, f1, f2⟩ := hk 0 k g rfl rfl
    obtain ⟨G, g0, g1, g2⟩ := dealL_mw r gs M (by simpa using h) fun i k' g' h1 h2 => hk (i + 1) k' g' h1 h2
    refine ⟨F * G, Int.mul_pos f0 g0, ?_, fun x hx => ?_⟩
    · show F * G ≤ 2 ^ (c * (k.claims ++ Cu.claimsL r).length)
      rw [List.length_append, Nat.mul_add, Int.pow_add]
      exact Int.mul_le_mul f1 g1 (by omega) (by omega)
    · rcases List.mem_append.mp (show x ∈ k.deal g ++ Cu.dealL r gs from hx) with hx | hx
      · rw [← Int.mul_assoc]
        exact mw_more (f2 x hx)
      · rw [Int.mul_comm F G, ← Int.mul_assoc]
        exact mw_more (g2 x hx)
theorem deal_mw : ∀ {u : Cu}, u.Ok → ∀ {q : Rat} {M : Int}, 0 ≤ q → q ≤ (u.sum : Rat) → Mw M q → ∃ F : Int, 0 < F ∧ F ≤ 2 ^ (70 * (u.deep - 1) * u.claims.length) ∧ ∀ x ∈ u.deal q, Mw (M * F) x := fun {u} => Cu.ind (P := fun u => u.Ok → ∀ {q : Rat} {M : Int}, 0 ≤ q → q ≤ (u.sum : Rat) → Mw M q → ∃ F : Int, 0 < F ∧ F ≤ 2 ^ (70 * (u.deep - 1) * u.claims.length) ∧ ∀ x ∈ u.deal q, Mw (M * F) x) (fun c _ q M _ _ hq => ⟨1, by decide, by show (1 : Int) ≤ 2 ^ 0; decide, fun x hx => by
    obtain rfl := List.mem_singleton.mp (show x ∈ [q] from hx)
    exact mw_more hq⟩) (fun y ws ks ih h q M h0 h1 hq => by
    have hd := knot_din h
    have h1' := sums_le h1
    obtain ⟨F0, a0, a1, a2⟩ := dealOf_mw hd h0 h1' hq
    have hdl := dealOf_ok (fit_knot h.ok) h0 h1'
    obtain ⟨G, g0, g1, g2⟩ := dealL_mw (c := 70 * (Cu.deepL ks - 1)) ks (dealOf y (qlist ws) (qlist (ks.map Cu.sum)) q) (M * F0) (by rw [hdl.len, qlist_len, List.length_map]) (fun i k g hk hgi => by
      have hm := List.mem_of_getElem? hk
      have hb := hdl.get hgi (qlist_at (by rw [List.getElem?_map, hk]; rfl))
      obtain ⟨G, g0, g1, g2⟩ := ih k hm (h.kid hm) hb.1 hb.2 (a2 g (List.mem_of_getElem? hgi))
      refine ⟨G, g0, Int.le_trans g1 (ipow_mono ?_), g2⟩
      have := Cu.deepL_le.mp (Nat.le_refl (Cu.deepL ks)) k hm
      exact Nat.mul_le_mul_right _ (Nat.mul_le_mul_left _ (by omega)))
    refine ⟨F0 * G, Int.mul_pos a0 g0, ?_, fun x hx => by rw [← Int.mul_assoc]; exact g2 x hx⟩
    have hdp : 1 ≤ Cu.deepL ks := by
      cases hks : ks with
      | nil => exact absurd hks h.ok.1.1
      | cons a r =>
        have := a.deep_pos
        show 1 ≤ max a.deep (Cu.deepL r)
        omega
    have hcl : 1 ≤ (Cu.claimsL ks).length := List.length_pos_iff.mpr (Cu.claims_ne h.ok)
    have e : (Cu.knot y ws ks).deep - 1 = Cu.deepL ks := by show 1 + Cu.deepL ks - 1 = _; omega
    show F0 * G ≤ 2 ^ (70 * ((Cu.knot y ws ks).deep - 1) * (Cu.claimsL ks).length)
    rw [e]
    have step : 70 + 70 * (Cu.deepL ks - 1) * (Cu.claimsL ks).length ≤ 70 * Cu.deepL ks * (Cu.claimsL ks).length := by
      have e2 : 70 * Cu.deepL ks = 70 * (Cu.deepL ks - 1) + 70 := by omega
      rw [e2, Nat.add_mul]
      omega
    refine Int.le_trans ?_ (ipow_mono step)
    rw [Int.pow_add]
    exact Int.mul_le_mul (by omega) g1 (by omega) (by decide)) u
/-- partial sums of what a custom deals -/
theorem part_bt {u : Cu} {q : Rat} {n : Nat} (h : u.Ok) (h0 : 0 ≤ q) (h1 : q ≤ (u.sum : Rat)) (hq : bt q n) (j : Nat) : bt (qsum ((u.deal q).take j)) (n + 5930) := by
  obtain ⟨F, f0, f1, f2⟩ := deal_mw h h0 h1 (mw_den q)
  have hd := deal_dl h.ok h0 h1
  have hlow := h.low
  have hfew := h.few
  have hs := h.sum_b
  have hdn : (0 : Int) < (q.den : Int) := by have := q.den_pos; omega
  have hnn : ∀ x ∈ u.deal q, 0 ≤ x := fun x hx => by
    obtain ⟨i, hi⟩ := List.mem_iff_getElem?.mp hx
    have hl := getElem?_lt hi
    rw [hd.len] at hl
    exact (hd.get hi (at_gD hl)).1
  have hF : F ≤ 2 ^ 5880 := Int.le_trans f1 (ipow_mono (by
    have m1 : 70 * (u.deep - 1) ≤ 490 := by omega
    have := Nat.mul_le_mul m1 hfew
    omega))
  have hb : ((q.den : Int) * F).natAbs < 2 ^ (n + 5881) := by
    rw [Int.natAbs_mul]
    have e1 : (q.den : Int).natAbs = q.den := Int.natAbs_natCast _
    have e2 : F.natAbs < 2 ^ 5881 := by
      have : F.natAbs ≤ 2 ^ 5880 := by
        have p : ((2 ^ 5880 : Nat) : Int) = (2 : Int) ^ 5880 := by rw [Int.natCast_pow]; rfl
        omega
      have p2 : (2 : Nat) ^ 5881 = 2 ^ 5880 * 2 := Nat.pow_succ 2 5880
      have p3 : 0 < (2 : Nat) ^ 5880 := Nat.pow_pos (by decide)
      omega
    rw [e1, Nat.pow_add]
    exact Nat.mul_lt_mul'' hq.2 e2
  refine (mw_bt (mw_sum fun x hx => f2 x (List.mem_of_mem_take hx)) (Int.mul_pos hdn f0) hb (qsum_nonneg fun x hx => hnn x (List.mem_of_mem_take hx)) ?_).mono (by omega)
  have le : qsum ((u.deal q).take j) ≤ qsum (u.deal q) := by
    have e := congrArg qsum (List.take_append_drop j (u.deal q))
    rw [qsum_append] at e
    have := qsum_nonneg (xs := (u.deal q).drop j) fun x hx => hnn x (List.mem_of_mem_drop hx)
    grind
  rw [hd.sum] at le
  have : (u.sum : Rat) ≤ ((2 ^ 40 : Int) : Rat) := by
    exact_mod_cast (show u.sum ≤ 2 ^ 40 by
      have p40 : (2 : Int) ^ 40 = 1099511627776 := by decide
      omega)
  exact Rat.le_trans le (Rat.le_trans h1 this)
end Pu
set_option maxRecDepth 100000
set_option maxHeartbeats 1000000
namespace Pu
open PySem PySem.Spec PyProof.Rows L2
/-! ### all x of lines in order, each once -/
/-! ### the lines of the first boats summed -/
structure PartS (u : Cu) (j : Nat) (B : List Pt) : Prop where
  is : IsW (fun x => qsum ((u.deal x).take j)) ((u.sum : Rat), qsum ((qlist u.claims).take j)) B
  xs : ∀ p ∈ B, bt p.1 85990
  len : B.length ≤ 210 * j
theorem PartS.bl {u : Cu} (h : u.Ok) {j : Nat} {B : List Pt} (s : PartS u j B) : Pu.bl B 199990 := fun p hp => by
  obtain ⟨p0, p1⟩ := good_nonneg s.is.good hp
  rw [s.is.last] at p1
  obtain ⟨i, hi⟩ := List.mem_iff_getElem?.mp hp
  have e : p.2 = qsum ((u.deal p.1).take j) := by
    rw [← s.is.ev p.1 p0 p1]
    exact (lineEv_pt s.is.good hi).symm
  refine ⟨(s.xs p hp).mono (by decide), ?_⟩
  rw [e]
  exact (part_bt h p0 p1 (s.xs p hp) j).mono (by decide)
/-! ### a tuple's slice, the whole of it too -/
end Pu
set_option maxRecDepth 100000
set_option maxHeartbeats 1000000
namespace Pu
open PySem PySem.Spec PyProof.Rows L2
/-! ### a zip whose last tuple may still be out, under enumerate -/
abbrev ZipQ (h : Heap) (z TI TO : Addr) (f0 : Value) (fl : Bool) : Prop := h.get? z = some { cls := .type "zip", dict := none, data := .fields #[f0, .bool fl, .bool false, .ref TI, .ref TO], slots := #[] }
def ZSt (h : Heap) (z TI TO : Addr) : Prop := ∃ f0 fl, ZipQ h z TI TO f0 fl ∧ (f0 = .none ∨ ∃ T : Addr, f0 = rawInt T)
section
variable {prog : Program} {w : World} {A : Around} {E : Value → Shared → Prop} {s : Shared} {z TI TO i1 i2 : Addr} {fp1 fp2 : List Addr} {n1 n2 i : Nat} {P1 P2 : Nat → Value → Prop} {St1 St2 : Nat → Heap → Prop} {a1 a2 : Value}
theorem ZSt.keep {h h' : Heap} (x : ZSt h z TI TO) (k : ∀ o, h.get? z = some o → h'.get? z = some o) : ZSt h' z TI TO := by
  obtain ⟨f0, fl, hz, hf⟩ := x
  exact ⟨f0, fl, k _ hz, hf⟩
theorem ZSt.ty {s : Shared} (x : ZSt s.heap z TI TO) : s.TypeIs (.ref z) "zip" := by
  obtain ⟨f0, fl, hz, hf⟩ := x
  exact ⟨_, hz, rfl⟩
end
/-! the making of it -/
end Pu
set_option maxRecDepth 100000
set_option maxHeartbeats 1000000
namespace Pu
open PySem PySem.Spec PyProof.Rows L2
/-! ### where two lines part -/
/-! ### where two customs part -/
end Pu
set_option maxRecDepth 100000
set_option maxHeartbeats 1000000
namespace Pu
open PySem PySem.Spec PyProof.Rows L2
/-! ### a way in the same way told as one -/
end Pu
set_option maxRecDepth 100000
set_option maxHeartbeats 1000000
namespace Pu
open PySem PySem.Spec PyProof.Rows L2
/-! ### slots moved about -/
section
variable {K : Frag} {R0 H0 R H R' H' R1 H1 : Hp} {ρ ρ' : En} {σ σ' : L2.St} {s f : Sl} {v w : V} {i j : Nat} {d : D} {ds : List D}
theorem At.sel (a : At K R0 H0 R ρ σ H) (π : Nat → Nat) (inj : ∀ i j, i < ρ'.length → j < ρ'.length → π i = π j → i = j) (hl : σ'.length = ρ'.length) (h : ∀ i s, ρ'[i]? = some s → s = .un ∨ (ρ[π i]? = some s ∧ σ'[i]? = σ[π i]?)) : At K R0 H0 R ρ' σ' H where
  gr := a.gr
  len := hl
  val := fun i d e => by
    rcases h i _ e with z | ⟨h1, h2⟩
    · cases z
    · rw [h2]; exact a.val _ d h1
  own := fun i ds e => by
    rcases h i _ e with z | ⟨h1, h2⟩
    · cases z
    · rw [h2]; exact a.own _ ds h1
  raw := fun i v e => by
    rcases h i _ e with z | ⟨h1, h2⟩
    · cases z
    · rw [h2]; exact a.raw _ v h1
  apart := fun i j p ds es n e1 e2 s1 => by
    rcases h i _ e1 with z | ⟨h1, h2⟩
    · cases z
    rcases h j _ e2 with z | ⟨g1, g2⟩
    · cases z
    rw [h2] at s1
    rw [g2]
    exact a.apart _ _ p ds es (fun z => n (inj i j (List.getElem?_eq_some_iff.mp e1).1 (List.getElem?_eq_some_iff.mp e2).1 z)) h1 g1 s1
  fa := ⟨fun i v S P e => by
    rcases h i _ e with z | ⟨h1, h2⟩
    · cases z
    · rw [h2]; exact a.fa.at_ _ v S P h1, fun i j v S P ds p e1 e2 s1 => by
    rcases h i _ e1 with z | ⟨h1, h2⟩
    · cases z
    rcases h j _ e2 with z | ⟨g1, g2⟩
    · cases z
    rw [g2] at s1
    exact a.fa.off _ _ v S P ds p h1 g1 s1, fun i j v w S T P Q n e1 e2 => by
    rcases h i _ e1 with z | ⟨h1, h2⟩
    · cases z
    rcases h j _ e2 with z | ⟨g1, g2⟩
    · cases z
    exact a.fa.two _ _ v w S T P Q (fun z => n (inj i j (List.getElem?_eq_some_iff.mp e1).1 (List.getElem?_eq_some_iff.mp e2).1 z)) h1 g1⟩
/-- the last slot put into its place -/
theorem At.settle (a : At K R0 H0 R (ρ ++ [s]) (σ ++ [some v]) H) (hl : σ.length = ρ.length) (hj : j < ρ.length) : At K R0 H0 R (ρ.set j s) (σ.set j (some v)) H := by
  refine a.sel (fun i => if i = j then ρ.length else i) (fun x y hx hy e => ?_) (by rw [List.length_set, List.length_set, hl]) (fun x t e => .inr ?_)
  · rw [List.length_set] at hx hy
    split at e <;> split at e <;> omega
  · by_cases hx : x = j
    · subst hx
      rw [List.getElem?_set_self hj] at e
      cases e
      rw [if_pos rfl, List.getElem?_set_self (by omega), List.getElem?_append_right (Nat.le_refl _), Nat.sub_self, List.getElem?_append_right (by omega), hl, Nat.sub_self]
      exact ⟨rfl, rfl⟩
    · rw [List.getElem?_set_ne (fun z => hx z.symm)] at e
      have hlt := (List.getElem?_eq_some_iff.mp e).1
      rw [if_neg hx, List.getElem?_set_ne (fun z => hx z.symm), List.getElem?_append_left hlt, List.getElem?_append_left (by omega)]
      exact ⟨e, rfl⟩
/-- the last slot let go -/
theorem At.unsnoc (a : At K R0 H0 R (ρ ++ [s]) (σ ++ [some v]) H) (hl : σ.length = ρ.length) : At K R0 H0 R ρ σ H := by
  refine a.sel id (fun x y hx hy e => e) hl (fun x t e => .inr ?_)
  have hlt := (List.getElem?_eq_some_iff.mp e).1
  show (ρ ++ [s])[x]? = _ ∧ _ = (σ ++ [some v])[x]?
  rw [List.getElem?_append_left hlt, List.getElem?_append_left (by omega)]
  exact ⟨e, rfl⟩
/-- a value told beside the slots -/
theorem At.snoc (a : At K R0 H0 R ρ σ H) (h : Dp K R v d) : At K R0 H0 R (ρ ++ [.val d]) (σ ++ [some v]) H := by
  have hl := a.len
  have key : ∀ {x : Nat} {t : Sl}, (ρ ++ [.val d])[x]? = some t → (t = .val d ∧ x = ρ.length) ∨ (x < ρ.length ∧ ρ[x]? = some t ∧ (σ ++ [some v])[x]? = σ[x]?) := fun {x t} e => by
    by_cases hx : x < ρ.length
    · rw [List.getElem?_append_left hx] at e
      exact .inr ⟨hx, e, by rw [List.getElem?_append_left (by omega)]⟩
    · rw [List.getElem?_append_right (by omega)] at e
      have hx2 : x - ρ.length = 0 := by
        rcases Nat.eq_zero_or_pos (x - ρ.length) with z | z
        · exact z
        · rw [List.getElem?_eq_none (by simp; omega)] at e
          cases e
      rw [hx2] at e
      exact .inl ⟨(Option.some.inj e).symm, by omega⟩
  refine ⟨a.gr, by simp [hl], fun x e q => ?_, fun x e q => ?_, fun x e q => ?_, fun x y p ds es n e1 e2 s1 => ?_, ⟨fun x u S P q => ?_, fun x y u S P ds p e1 e2 s1 => ?_, fun x y u w S T P Q n e1 e2 => ?_⟩⟩
  · rcases key q with ⟨z, rfl⟩ | ⟨hx, q1, q2⟩
    · cases z
      exact ⟨v, by rw [List.getElem?_append_right (by omega), hl, Nat.sub_self]; rfl, h⟩
    · rw [q2]; exact a.val x e q1
  · rcases key q with ⟨z, _⟩ | ⟨hx, q1, q2⟩
    · cases z
    · rw [q2]; exact a.own x e q1
  · rcases key q with ⟨z, _⟩ | ⟨hx, q1, q2⟩
    · cases z
    · rw [q2]; exact a.raw x e q1
  · rcases key e1 with ⟨z, _⟩ | ⟨hx, q1, q2⟩
    · cases z
    rcases key e2 with ⟨z, _⟩ | ⟨hy, r1, r2⟩
    · cases z
    rw [q2] at s1
    rw [r2]
    exact a.apart x y p ds es n q1 r1 s1
  · rcases key q with ⟨z, _⟩ | ⟨hx, q1, q2⟩
    · cases z
    · rw [q2]; exact a.fa.at_ x u S P q1
  · rcases key e1 with ⟨z, _⟩ | ⟨hx, q1, q2⟩
    · cases z
    rcases key e2 with ⟨z, _⟩ | ⟨hy, r1, r2⟩
    · cases z
    rw [r2] at s1
    exact a.fa.off x y u S P ds p q1 r1 s1
  · rcases key e1 with ⟨z, _⟩ | ⟨hx, q1, q2⟩
    · cases z
    rcases key e2 with ⟨z, _⟩ | ⟨hy, r1, r2⟩
    · cases z
    exact a.fa.two x y u w S T P Q n q1 r1
/-- a heap less some cells -/
def offH (H : Hp) (S : List Addr) : Hp := fun a => if a ∈ S then none else H a
theorem offH_in {S : List Addr} {a : Addr} (h : a ∈ S) : offH H S a = none := if_pos h
theorem offH_ne {S : List Addr} {a : Addr} (h : a ∉ S) : offH H S a = H a := if_neg h
theorem offH_none {S : List Addr} {a : Addr} (h : offH H S a = none) : a ∈ S ∨ H a = none := by
  by_cases e : a ∈ S
  · exact .inl e
  · rw [offH_ne e] at h; exact .inr h
/-- what comes back from a call that was lent the cells S -/
theorem At.merge {S : List Addr} (a : At K R0 H0 R1 ρ σ H1) (hS : ∀ x ∈ S, H0 x = none) (hown : ∀ (k : Nat) (es : List D) (p : Addr), ρ[k]? = some (.own es) → σ[k]? = some (some (.ref p)) → p ∉ S)
    (hfac : ∀ (k : Nat) (u : V) (T : List Addr) (P : Hp → Hp → Prop), k ≠ i → ρ[k]? = some (.fact u T P) → ∀ x ∈ T, x ∉ S) (hi : i < ρ.length) (b : At K R1 (offH H1 S) R' [f, s] [σ.getD i none, some v] H') (hf : (∀ d, f ≠ .val d) ∧ (∀ ds, f ≠ .own ds)) : At K R0 H0 R' (ρ.set i f ++ [s]) (σ ++ [some v]) H' := by
  have hl := a.len
  have h0 : ∀ {x : Addr}, offH H1 S x = none → H0 x = none := fun {x} e => by
    rcases offH_none e with z | z
    · exact hS x z
    · exact a.gr.hp.free z
  have keep : ∀ {x : Addr} {o : HO}, H1 x = some o → x ∉ S → H' x = some o := fun {x o} e n => b.gr.hp x o (by rw [offH_ne n]; exact e)
  have rnone : ∀ {x : Addr}, R1 x = none → x ∉ S → H1 x ≠ none → R' x = none := fun {x} e n z => by
    cases q : R' x with
    | none => rfl
    | some o =>
      have := b.gr.new x e (by rw [q]; exact fun z => nomatch z)
      rw [offH_ne n] at this
      exact absurd this z
  have si : (σ ++ [some v])[i]? = some (σ.getD i none) := by
    rw [List.getElem?_append_left (by omega), List.getD_eq_getElem?_getD, List.getElem?_eq_getElem (by omega)]
    rfl
  have sl : (σ ++ [some v])[ρ.length]? = some (some v) := by rw [List.getElem?_append_right (by omega), hl, Nat.sub_self]; rfl
  -- a slot is an old one, f, or s
  have key : ∀ {x : Nat} {t : Sl}, (ρ.set i f ++ [s])[x]? = some t → (x ≠ i ∧ x < ρ.length ∧ ρ[x]? = some t ∧ (σ ++ [some v])[x]? = σ[x]?) ∨ (x = i ∧ t = f) ∨ (x = ρ.length ∧ t = s) := fun {x t} e => by
    by_cases hx : x < ρ.length
    · rw [List.getElem?_append_left (by rw [List.length_set]; exact hx)] at e
      by_cases hxi : x = i
      · subst hxi
        rw [List.getElem?_set_self hx] at e
        exact .inr (.inl ⟨rfl, (Option.some.inj e).symm⟩)
      · rw [List.getElem?_set_ne (fun z => hxi z.symm)] at e
        exact .inl ⟨hxi, hx, e, by rw [List.getElem?_append_left (by omega)]⟩
    · rw [List.getElem?_append_right (by rw [List.length_set]; omega), List.length_set] at e
      have hx2 : x - ρ.length = 0 := by
        rcases Nat.eq_zero_or_pos (x - ρ.length) with z | z
        · exact z
        · rw [List.getElem?_eq_none (by simp; omega)] at e
          cases e
      rw [hx2] at e
      exact .inr (.inr ⟨by omega, (Option.some.inj e).symm⟩)
  -- cells of a fact of b
  have bcell : ∀ {y : Nat} {u : V} {T : List Addr} {P : Hp → Hp → Prop}, ([f, s] : En)[y]? = some (.fact u T P) → ∀ x ∈ T, offH H1 S x = none := fun {y u T P} e x hx => ((b.fa.at_ y u T P e).2.2.2 x hx).2.2
  have bown : ∀ {y : Nat} {es : List D} {p : Addr}, ([f, s] : En)[y]? = some (.own es) → ([σ.getD i none, some v] : L2.St)[y]? = some (some (.ref p)) → offH H1 S p = none := fun {y es p} e q => by
    obtain ⟨p2, vs2, g1, g2, g3, g4, g5⟩ := b.own y es e
    rw [q] at g1
    cases g1
    exact g5
  have acell : ∀ {x : Nat} {u : V} {T : List Addr} {P : Hp → Hp → Prop}, x ≠ i → ρ[x]? = some (.fact u T P) → ∀ z ∈ T, offH H1 S z ≠ none := fun {x u T P} n e z hz => by
    rw [offH_ne (hfac x u T P n e z hz)]
    exact ((a.fa.at_ x u T P e).2.2.2 z hz).1
  have aown : ∀ {x : Nat} {es : List D} {p : Addr}, ρ[x]? = some (.own es) → σ[x]? = some (some (.ref p)) → offH H1 S p ≠ none := fun {x es p} e q => by
    obtain ⟨p2, vs2, g1, g2, _⟩ := a.own x es e
    rw [q] at g1
    cases g1
    rw [offH_ne (hown x es p e q), g2]
    exact fun z => nomatch z
  refine ⟨⟨a.gr.rd.trans b.gr.rd, fun x o e => ?_, b.gr.sub, fun x e n => ?_⟩, by simp [hl], fun x e q => ?_, fun x es q => ?_, fun x u q => ?_, fun x y p ds es n e1 e2 s1 => ?_, ⟨fun x u T P q => ?_, fun x y u T P ds p e1 e2 s1 => ?_, fun x y u w T T2 P Q n e1 e2 => ?_⟩⟩
  · exact keep (a.gr.hp x o e) (fun z => by rw [hS x z] at e; cases e)
  · by_cases z : R1 x = none
    · exact h0 (b.gr.new x z n)
    · exact a.gr.new x e z
  · rcases key q with ⟨n, hx, q1, q2⟩ | ⟨_, z⟩ | ⟨rfl, z⟩
    · obtain ⟨u, g1, g2⟩ := a.val x e q1
      exact ⟨u, by rw [q2]; exact g1, dp_mono b.gr.rd _ _ g2⟩
    · exact absurd z.symm (hf.1 e)
    · obtain ⟨u, g1, g2⟩ := b.val 1 e (by rw [z]; rfl)
      exact ⟨u, by rw [sl]; exact g1, g2⟩
  · rcases key q with ⟨n, hx, q1, q2⟩ | ⟨_, z⟩ | ⟨rfl, z⟩
    · obtain ⟨p, vs, g1, g2, g3, g4, g5⟩ := a.own x es q1
      have np := hown x es p q1 g1
      exact ⟨p, vs, by rw [q2]; exact g1, keep g2 np, dpa_mono b.gr.rd _ _ g3, rnone g4 np (by rw [g2]; exact fun z => nomatch z), g5⟩
    · exact absurd z.symm (hf.2 es)
    · obtain ⟨p, vs, g1, g2, g3, g4, g5⟩ := b.own 1 es (by rw [z]; rfl)
      exact ⟨p, vs, by rw [sl]; exact g1, g2, g3, g4, h0 g5⟩
  · rcases key q with ⟨n, hx, q1, q2⟩ | ⟨rfl, z⟩ | ⟨rfl, z⟩
    · rw [q2]; exact a.raw x u q1
    · rw [si]; exact b.raw 0 u (by rw [z]; rfl)
    · rw [sl]; exact b.raw 1 u (by rw [z]; rfl)
  · rcases key e1 with ⟨m1, hx, q1, q2⟩ | ⟨_, z⟩ | ⟨rfl, z⟩
    · rw [q2] at s1
      rcases key e2 with ⟨m2, hy, r1, r2⟩ | ⟨_, z'⟩ | ⟨rfl, z'⟩
      · rw [r2]; exact a.apart x y p ds es n q1 r1 s1
      · exact absurd z'.symm (hf.2 es)
      · rw [sl]
        intro e
        have := bown (y := 1) (es := es) (by rw [z']; rfl) e
        exact aown q1 s1 this
    · exact absurd z.symm (hf.2 ds)
    · rw [sl] at s1
      have hb := bown (y := 1) (es := ds) (by rw [z]; rfl) s1
      rcases key e2 with ⟨m2, hy, r1, r2⟩ | ⟨_, z'⟩ | ⟨rfl, z'⟩
      · rw [r2]
        intro e
        exact aown r1 e hb
      · exact absurd z'.symm (hf.2 es)
      · exact absurd rfl n
  · rcases key q with ⟨n, hx, q1, q2⟩ | ⟨rfl, z⟩ | ⟨rfl, z⟩
    · obtain ⟨g1, g2, g3, g4⟩ := a.fa.at_ x u T P q1
      refine ⟨by rw [q2]; exact g1, g2, g2 R1 H1 R' H' b.gr.rd (fun c hc o e => keep e (hfac x u T P n q1 c hc)) g3, fun c hc => ?_⟩
      obtain ⟨k1, k2, k3⟩ := g4 c hc
      have nc := hfac x u T P n q1 c hc
      refine ⟨fun z => ?_, rnone k2 nc k1, k3⟩
      cases e : H1 c with
      | none => exact k1 e
      | some o => rw [keep e nc] at z; cases z
    · obtain ⟨g1, g2, g3, g4⟩ := b.fa.at_ 0 u T P (by rw [z]; rfl)
      exact ⟨by rw [si]; exact g1, g2, g3, fun c hc => ⟨(g4 c hc).1, (g4 c hc).2.1, h0 (g4 c hc).2.2⟩⟩
    · obtain ⟨g1, g2, g3, g4⟩ := b.fa.at_ 1 u T P (by rw [z]; rfl)
      exact ⟨by rw [sl]; exact g1, g2, g3, fun c hc => ⟨(g4 c hc).1, (g4 c hc).2.1, h0 (g4 c hc).2.2⟩⟩
  · rcases key e1 with ⟨m1, hx, q1, q2⟩ | ⟨rfl, z⟩ | ⟨rfl, z⟩
    · rcases key e2 with ⟨m2, hy, r1, r2⟩ | ⟨_, z'⟩ | ⟨rfl, z'⟩
      · rw [r2] at s1; exact a.fa.off x y u T P ds p q1 r1 s1
      · exact absurd z'.symm (hf.2 ds)
      · rw [sl] at s1
        have hb := bown (y := 1) (es := ds) (by rw [z']; rfl) s1
        exact fun hp => acell m1 q1 p hp hb
    · rcases key e2 with ⟨m2, hy, r1, r2⟩ | ⟨_, z'⟩ | ⟨rfl, z'⟩
      · rw [r2] at s1
        exact fun hp => aown r1 s1 (bcell (y := 0) (by rw [z]; rfl) p hp)
      · exact absurd z'.symm (hf.2 ds)
      · rw [sl] at s1
        exact b.fa.off 0 1 u T P ds p (by rw [z]; rfl) (by rw [z']; rfl) s1
    · rcases key e2 with ⟨m2, hy, r1, r2⟩ | ⟨_, z'⟩ | ⟨rfl, z'⟩
      · rw [r2] at s1
        exact fun hp => aown r1 s1 (bcell (y := 1) (by rw [z]; rfl) p hp)
      · exact absurd z'.symm (hf.2 ds)
      · rw [← z] at z'; cases z'
  · rcases key e1 with ⟨m1, hx, q1, q2⟩ | ⟨rfl, z⟩ | ⟨rfl, z⟩
    · rcases key e2 with ⟨m2, hy, r1, r2⟩ | ⟨_, z'⟩ | ⟨rfl, z'⟩
      · exact a.fa.two x y u w T T2 P Q n q1 r1
      · exact fun c hc hc2 => acell m1 q1 c hc (bcell (y := 0) (by rw [z']; rfl) c hc2)
      · exact fun c hc hc2 => acell m1 q1 c hc (bcell (y := 1) (by rw [z']; rfl) c hc2)
    · rcases key e2 with ⟨m2, hy, r1, r2⟩ | ⟨h2, _⟩ | ⟨rfl, z'⟩
      · exact fun c hc hc2 => acell m2 r1 c hc2 (bcell (y := 0) (by rw [z]; rfl) c hc)
      · exact absurd h2.symm n
      · exact b.fa.two 0 1 u w T T2 P Q (by decide) (by rw [z]; rfl) (by rw [z']; rfl)
    · rcases key e2 with ⟨m2, hy, r1, r2⟩ | ⟨rfl, z'⟩ | ⟨h2, _⟩
      · exact fun c hc hc2 => acell m2 r1 c hc2 (bcell (y := 1) (by rw [z]; rfl) c hc)
      · exact b.fa.two 1 0 u w T T2 P Q (by decide) (by rw [z]; rfl) (by rw [z']; rfl)
      · exact absurd h2.symm n
end
end Pu
set_option maxRecDepth 100000
set_option maxHeartbeats 1000000
namespace Pu
open PySem PySem.Spec PyProof.Rows L2
/-! ### contracts with a thing lent; expressions that change it -/
structure Kg where
  /-- the lent thing's slot, the value's slot -/
  rt : Sl → Sl → Prop
  ex : Value → Sl → Prop := fun _ _ => False
abbrev Cg := En → Kg → Prop
def spG (K : Frag) (c : Cg) : Sp := fun vs H Q E => ∃ (R H0 : Hp) (ρ : En) (k : Kg), At K R H0 R ρ (vs.map some) H ∧ c ρ k ∧
  (∀ f s w v R' H', k.rt f s → At K R H0 R' [f, s] [w, some v] H' → Q v H') ∧ (∀ x f w R' H', k.ex x f → At K R H0 R' [f] [w] H' → E x none H')
def EvG (K : Frag) (W : WX) (te : TE) (ρ : En) (P : En → Prop) (X : Value → En → Prop) : Prop := ∀ R0 H0 R σ H, At K R0 H0 R ρ σ H → ∀ Q : VK, (∀ ρ' R' v H', P ρ' → Same R R' → At K R0 H0 R' ρ' (σ ++ [some v]) H' → Q v H') →
  (∀ c ρ' R' H', X c ρ' → At K R0 H0 R' ρ' σ H' → W c none σ H') → te σ H Q
/-- the thing is still the one lent, or let go -/
def Handed (w : V) (f : Sl) : Prop := f = .un ∨ ∃ S P, f = .fact w S P
theorem Handed.no {w : V} {f : Sl} (h : Handed w f) : (∀ d, f ≠ .val d) ∧ (∀ ds, f ≠ .own ds) := by
  rcases h with rfl | ⟨S, P, rfl⟩
  · exact ⟨(fun d z => nomatch z), (fun ds z => nomatch z)⟩
  · exact ⟨(fun d z => nomatch z), (fun ds z => nomatch z)⟩
section
variable {K : Frag} {W : WX} {R0 H0 R H R' H' R1 H1 : Hp} {ρ ρ' ss : En} {σ σ' : L2.St} {s f : Sl} {v w : V} {w' : Option V} {i j : Nat} {d : D} {ds : List D} {S : List Addr} {P : Hp → Hp → Prop} {te : TE} {ta : TA} {k : Kg} {c : Cg}
theorem Ev.g {X : Value → En → Prop} (h : Ev K te ρ d) : EvG K W te ρ (fun ρ' => ρ' = ρ ++ [.val d]) X := fun R0 H0 R σ H a Q q _ => h R0 H0 R σ H a Q fun v R' H' g dv => q _ R' v H' rfl g.rd ((a.grow g).snoc dv)
theorem EvG.mono {P P' : En → Prop} {X X' : Value → En → Prop} (h : EvG K W te ρ P X) (h1 : ∀ ρ', P ρ' → P' ρ') (h2 : ∀ c ρ', X c ρ' → X' c ρ') : EvG K W te ρ P' X' := fun R0 H0 R σ H a Q q x => h R0 H0 R σ H a Q (fun ρ' R' v H' p => q ρ' R' v H' (h1 ρ' p)) fun c ρ' R' H' p => x c ρ' R' H' (h2 c ρ' p)
/-- arguments, told by slots -/
def ArgR (K : Frag) (R : Hp) (ss : En) (vs : List V) : Prop := vs.length = ss.length ∧ ∀ (i : Nat) (s : Sl) (v : V), ss[i]? = some s → vs[i]? = some v → (∃ d, s = .val d ∧ Dp K R v d) ∨ (∃ S P, s = .fact v S P)
theorem argR_vals : ∀ {vs : List V} {ds : List D}, DpAll K R vs ds → ArgR K R (ds.map Sl.val) vs
  | _, _, .nil => ⟨rfl, fun i s v e => by simp at e⟩
  | _, _, .cons h t => by
    obtain ⟨l, q⟩ := argR_vals t
    refine ⟨by simp [l], fun i s v e1 e2 => ?_⟩
    cases i with
    | zero =>
      obtain rfl := Option.some.inj e1
      obtain rfl := Option.some.inj e2
      exact .inl ⟨_, rfl, h⟩
    | succ i => exact q i s v (by simpa using e1) (by simpa using e2)
theorem ArgR.fact (h : ArgR K R ss (vs : List V)) : ArgR K R (.fact w S P :: ss) (w :: vs) := ⟨by simp [h.1], fun i s v e1 e2 => by
    cases i with
    | zero =>
      obtain rfl := Option.some.inj e1
      obtain rfl := Option.some.inj e2
      exact .inr ⟨_, _, rfl⟩
    | succ i => exact h.2 i s v (by simpa using e1) (by simpa using e2)⟩
theorem ArgR.val (h : ArgR K R ss (vs : List V)) (hv : Dp K R v d) : ArgR K R (.val d :: ss) (v :: vs) := ⟨by simp [h.1], fun i s v e1 e2 => by
    cases i with
    | zero =>
      obtain rfl := Option.some.inj e1
      obtain rfl := Option.some.inj e2
      exact .inl ⟨_, rfl, hv⟩
    | succ i => exact h.2 i s v (by simpa using e1) (by simpa using e2)⟩
/-- where a call begins: its cells are the lent ones -/
theorem at_lend {h : Nat} (a : At K R0 H0 R ρ σ H) (hi : ρ[i]? = some (.fact w S P)) {vs : List V} (r : ArgR K R ss vs) (hone : ∀ j v S' P', ss[j]? = some (.fact v S' P') → j = h ∧ v = w ∧ S' = S ∧ P' = P) : At K R (offH H S) R ss (vs.map some) H := by
  obtain ⟨g1, g2, g3, g4⟩ := a.fa.at_ i w S P hi
  have key : ∀ {x : Nat} {t : Sl}, ss[x]? = some t → ∃ v, (vs.map some)[x]? = some (some v) ∧ ((∃ d, t = .val d ∧ Dp K R v d) ∨ (∃ S P, t = .fact v S P)) := fun {x t} e => by
    have hx := (List.getElem?_eq_some_iff.mp e).1
    have hxv : x < vs.length := by rw [r.1]; exact hx
    have hv : vs[x]? = some vs[x] := List.getElem?_eq_getElem hxv
    exact ⟨vs[x], by rw [List.getElem?_map, hv]; rfl, r.2 x t _ e hv⟩
  refine ⟨⟨Same.refl R, fun b o e => ?_, a.gr.sub, fun x e n => absurd e n⟩, by rw [List.length_map, r.1], fun x e q => ?_, fun x es q => ?_, fun x u q => ?_, fun x y p ds es n e1 e2 s1 => ?_, ⟨fun x u T Q q => ?_, fun x y u T Q ds p e1 e2 s1 => ?_, fun x y u u2 T T2 Q Q2 n e1 e2 => ?_⟩⟩
  · by_cases hb : b ∈ S
    · rw [offH_in hb] at e; cases e
    · rw [offH_ne hb] at e; exact e
  · obtain ⟨v, h1, h2⟩ := key q
    rcases h2 with ⟨d, z, h2⟩ | ⟨_, _, z⟩
    · cases z; exact ⟨v, h1, h2⟩
    · cases z
  · obtain ⟨v, h1, h2⟩ := key q
    rcases h2 with ⟨d, z, h2⟩ | ⟨_, _, z⟩ <;> cases z
  · obtain ⟨v, h1, h2⟩ := key q
    rcases h2 with ⟨d, z, h2⟩ | ⟨_, _, z⟩ <;> cases z
  · obtain ⟨v, h1, h2⟩ := key e1
    rcases h2 with ⟨d, z, h2⟩ | ⟨_, _, z⟩ <;> cases z
  · obtain ⟨_, rfl, rfl, rfl⟩ := hone x u T Q q
    obtain ⟨v, h1, h2⟩ := key q
    rcases h2 with ⟨d, z, h2⟩ | ⟨_, _, z⟩
    · cases z
    · cases z
      exact ⟨h1, g2, g3, fun c hc => ⟨(g4 c hc).1, (g4 c hc).2.1, offH_in hc⟩⟩
  · obtain ⟨v, h1, h2⟩ := key e2
    rcases h2 with ⟨d, z, h2⟩ | ⟨_, _, z⟩ <;> cases z
  · exact absurd ((hone x u T Q e1).1.trans (hone y u2 T2 Q2 e2).1.symm) n
theorem At.give (a : At K R0 H0 R1 ρ σ H1) (hi : ρ[i]? = some (.fact w S P)) (b : At K R1 (offH H1 S) R' [f, s] [w', some v] H') (hf : Handed w f) : At K R0 H0 R' (ρ.set i f ++ [s]) (σ ++ [some v]) H' := by
  obtain ⟨g1, g2, g3, g4⟩ := a.fa.at_ i w S P hi
  have hil := (List.getElem?_eq_some_iff.mp hi).1
  have eg : σ.getD i none = some w := by rw [List.getD_eq_getElem?_getD, g1]; rfl
  have b2 : At K R1 (offH H1 S) R' [f, s] [some w, some v] H' := by
    rcases hf with rfl | ⟨S', P', rfl⟩
    · exact b.sel (ρ' := [.un, s]) id (fun x y _ _ e => e) rfl (fun x t e => by
        match x, e with
        | 0, e => exact .inl (Option.some.inj e).symm
        | 1, e => exact .inr ⟨e, rfl⟩
        | x + 2, e => simp at e)
    · have := (b.fa.at_ 0 w S' P' rfl).1
      have e : w' = some w := Option.some.inj this
      rw [e] at b
      exact b
  exact a.merge (fun x hx => (g4 x hx).2.2) (fun k es p e q => a.fa.off i k w S P es p hi e q) (fun k u T Q n e x hx hx2 => a.fa.two k i u w T S Q P n e hi x hx hx2) hil (by rw [eg]; exact b2) hf.no
theorem At.giveX (a : At K R0 H0 R1 ρ σ H1) (hi : ρ[i]? = some (.fact w S P)) (b : At K R1 (offH H1 S) R' [f] [w'] H') (hf : Handed w f) : At K R0 H0 R' (ρ.set i f) σ H' := (a.give hi (b.snoc (v := V.non) (d := PyData.none) Dp.non) hf).unsnoc (by rw [List.length_set]; exact a.len)
/-- a call that nothing is lent -/
theorem At.give0 (a : At K R0 H0 R1 ρ σ H1) (b : At K R1 H1 R' [Sl.un, s] [w', some v] H') : At K R0 H0 R' (ρ ++ [s]) (σ ++ [some v]) H' := by
  have a1 : At K R0 H0 R1 (ρ ++ [Sl.un]) (σ ++ [some V.non]) H1 := (a.snoc (v := V.non) (d := PyData.none) Dp.non).sel (ρ' := ρ ++ [Sl.un]) id (fun x y _ _ e => e) (by simp [a.len]) (fun x t e => by
    by_cases hx : x < ρ.length
    · rw [List.getElem?_append_left hx] at e
      exact .inr ⟨by show (ρ ++ [Sl.val PyData.none])[x]? = _; rw [List.getElem?_append_left hx]; exact e, rfl⟩
    · rw [List.getElem?_append_right (by omega)] at e
      rcases Nat.eq_zero_or_pos (x - ρ.length) with z | z
      · rw [z] at e; exact .inl (Option.some.inj e).symm
      · rw [List.getElem?_eq_none (by simp; omega)] at e; cases e)
  have eo : offH H1 [] = H1 := funext fun x => offH_ne (by simp)
  have hl := a.len
  have b2 : At K R1 (offH H1 []) R' [.un, s] [(σ ++ [some V.non]).getD ρ.length none, some v] H' := by
    rw [eo]
    exact b.sel (ρ' := [.un, s]) id (fun x y _ _ e => e) rfl (fun x t e => by
        match x, e with
        | 0, e => exact .inl (Option.some.inj e).symm
        | 1, e => exact .inr ⟨e, rfl⟩
        | x + 2, e => simp at e)
  have m := a1.merge (i := ρ.length) (S := []) (fun x hx => by cases hx) (fun k es p e q => by simp) (fun k u T Q n e x hx => by simp) (by simp) b2 (Handed.no (w := V.non) (.inl rfl))
  have e1 : ρ.length ≤ (ρ ++ [Sl.un] : En).length := by simp
  refine m.sel (fun x => if x = ρ.length then ρ.length + 1 else x) (fun x y hx hy e => ?_) (by simp [hl]) (fun x t e => .inr ?_)
  · rw [List.length_append] at hx hy
    have : ([s] : En).length = 1 := rfl
    split at e <;> split at e <;> omega
  · by_cases hx : x < ρ.length
    · rw [List.getElem?_append_left hx] at e
      rw [if_neg (by omega), List.getElem?_append_left (by rw [List.length_set]; simp; omega), List.getElem?_set_ne (by omega), List.getElem?_append_left hx, List.getElem?_append_left (by omega), List.getElem?_append_left (by simp; omega), List.getElem?_append_left (by omega)]
      exact ⟨e, rfl⟩
    · rw [List.getElem?_append_right (by omega)] at e
      have hx2 : x = ρ.length := by
        rcases Nat.eq_zero_or_pos (x - ρ.length) with z | z
        · omega
        · rw [List.getElem?_eq_none (by simp; omega)] at e; cases e
      subst hx2
      rw [Nat.sub_self] at e
      rw [if_pos rfl, List.getElem?_append_right (by rw [List.length_set]; simp), List.length_set, List.length_append, List.length_singleton, Nat.sub_self, List.getElem?_append_right (by omega), hl, Nat.sub_self, List.getElem?_append_right (by simp; omega), List.length_append, List.length_singleton, hl, Nat.sub_self]
      exact ⟨e, rfl⟩
theorem evg_call0 (ha : EvA K ta ρ ds) (hc : c (ds.map Sl.val) k) (hf : ∀ f s, k.rt f s → f = .un) (hx : ∀ x f, k.ex x f → f = .un) :
    EvG K W (tCallS (spG K c) (WE W) ta) ρ (fun ρ' => ∃ s, k.rt .un s ∧ ρ' = ρ ++ [s]) (fun x ρ' => k.ex x .un ∧ ρ' = ρ) := fun R0 H0 R σ H a Q q x => ha R0 H0 R σ H a _ fun vs R1 H1 g1 dv => by
  have a1 := a.grow g1
  obtain ⟨l, r⟩ := argR_vals dv
  have hll := dpa_len dv
  refine ⟨R1, H1, ds.map Sl.val, k, ?_, hc, fun f s w' v R' H' hr b => ?_, fun y f w' R' H' he b => ?_⟩
  · have := at_start (K := K) (N := List.replicate ds.length (Str.ofString "")) g1.sub dv
    rw [List.length_replicate, Nat.sub_self, List.replicate_zero, List.append_nil] at this
    unfold L2.start at this
    rw [List.length_replicate, hll, Nat.sub_self, List.replicate_zero, List.append_nil] at this
    exact this
  · have e := hf f s hr
    subst e
    exact q _ R' v H' ⟨s, hr, rfl⟩ (g1.rd.trans b.gr.rd) (a1.give0 b)
  · have e := hx y f he
    subst e
    exact x y ρ R' H' ⟨he, rfl⟩ ((a1.give0 (b.snoc (v := V.non) (d := PyData.none) Dp.non)).unsnoc a.len)
/-- o.m(..), o the thing lent -/
def tMethS (C : Addr) (m : Str) (sp : Sp) (E : L2.St → XK) (ta : TE) (t : TA) : TE := fun σ H Q => ta σ H fun x H1 => ∃ a dx fs, x = .ref a ∧ H1 a = some (.ins C dx fs) ∧ fs.lookup m = none ∧ t σ H1 fun vs H2 => sp (x :: vs) H2 Q (E σ)
theorem evg_meth {C : Addr} {m : Str} (hi : ρ[i]? = some (.fact w S P)) (hP : ∀ R H, P R H → ∃ a dx fs, w = .ref a ∧ H a = some (.ins C dx fs) ∧ fs.lookup m = none) (ha : EvA K ta ρ ds) (hc : c (.fact w S P :: ds.map Sl.val) k) (hf : ∀ f s, k.rt f s → Handed w f) (hx : ∀ x f, k.ex x f → Handed w f) :
    EvG K W (tMethS C m (spG K c) (WE W) (tVar i) ta) ρ (fun ρ' => ∃ f s, k.rt f s ∧ ρ' = ρ.set i f ++ [s]) (fun x ρ' => ∃ f, k.ex x f ∧ ρ' = ρ.set i f) := fun R0 H0 R σ H a Q q x => by
  obtain ⟨g1, g2, g3, g4⟩ := a.fa.at_ i w S P hi
  obtain ⟨p, dx, fs, rfl, hp, hl⟩ := hP R H g3
  refine ⟨_, g1, p, dx, fs, rfl, hp, hl, ha R0 H0 R σ H a _ fun vs R1 H1 g dv => ?_⟩
  have a1 := a.grow g
  have r : ArgR K R1 (.fact (.ref p) S P :: ds.map Sl.val) (.ref p :: vs) := (argR_vals dv).fact
  have hone : ∀ j v S' P', (.fact (.ref p) S P :: ds.map Sl.val : En)[j]? = some (.fact v S' P') → j = 0 ∧ v = .ref p ∧ S' = S ∧ P' = P := fun j v S' P' e => by
    cases j with
    | zero =>
      cases (Option.some.inj e)
      exact ⟨rfl, rfl, rfl, rfl⟩
    | succ j =>
      rw [List.getElem?_cons_succ, List.getElem?_map] at e
      cases q : ds[j]? with
      | none => rw [q] at e; cases e
      | some d => rw [q] at e; cases e
  exact ⟨R1, offH H1 S, _, k, at_lend (h := 0) a1 hi r hone, hc, fun f s w' v R' H' hr b => q _ R' v H' ⟨f, s, hr, rfl⟩ (g.rd.trans b.gr.rd) (a1.give hi b (hf f s hr)), fun y f w' R' H' he b => x y _ R' H' ⟨f, he, rfl⟩ (a1.giveX hi b (hx y f he))⟩
/-- a thing changes in its own cells -/
theorem At.mut {S' : List Addr} {P' : Hp → Hp → Prop} (a : At K R0 H0 R ρ σ H) (hi : ρ[i]? = some (.fact w S P)) (hk : ∀ b o, b ∉ S → H b = some o → H' b = some o) (hs : ∀ x ∈ S', H' x ≠ none ∧ (x ∈ S ∨ H x = none)) (hst : Stay S' P') (hp : P' R H') : At K R0 H0 R (ρ.set i (.fact w S' P')) σ H' := by
  obtain ⟨g1, g2, g3, g4⟩ := a.fa.at_ i w S P hi
  refine a.giveX hi (f := .fact w S' P') (w' := some w) ⟨⟨Same.refl R, fun b o e => ?_, fun b o e => ?_, fun x e n => absurd e n⟩, rfl, fun x e q => ?_, fun x es q => ?_, fun x u q => ?_, fun x y p ds es n e1 e2 s1 => ?_, ⟨fun x u T Q q => ?_, fun x y u T Q ds p e1 e2 s1 => ?_, fun x y u u2 T T2 Q Q2 n e1 e2 => ?_⟩⟩ (.inr ⟨_, _, rfl⟩)
  · by_cases hb : b ∈ S
    · rw [offH_in hb] at e; cases e
    · rw [offH_ne hb] at e; exact hk b o hb e
  · exact hk b o (fun z => by rw [(g4 b z).2.1] at e; cases e) (a.gr.sub b o e)
  · cases x with
    | zero => cases q
    | succ x => simp at q
  · cases x with
    | zero => cases q
    | succ x => simp at q
  · cases x with
    | zero => cases q
    | succ x => simp at q
  · cases x with
    | zero => cases e1
    | succ x => simp at e1
  · cases x with
    | zero =>
      cases q
      refine ⟨rfl, hst, hp, fun c hc => ?_⟩
      obtain ⟨h1, h2⟩ := hs c hc
      refine ⟨h1, ?_, ?_⟩
      · rcases h2 with h2 | h2
        · exact (g4 c h2).2.1
        · exact a.gr.sub.free h2
      · by_cases z : c ∈ S
        · exact offH_in z
        · rw [offH_ne z]
          rcases h2 with h2 | h2
          · exact absurd h2 z
          · exact h2
    | succ x => simp at q
  · cases y with
    | zero => cases e2
    | succ y => simp at e2
  · cases x with
    | zero =>
      cases y with
      | zero => exact absurd rfl n
      | succ y => simp at e2
    | succ x => simp at e1
end
/-! ### statements -/
section
variable {K : Frag} {W : WX} {ρ ρ2 : En} {te : TE} {tt : TT} {t u : TS} {d : D} {ds : List D} {ex : Value → En → Prop} {k : Ko} {i j : Nat} {P : En → Prop} {X : Value → En → Prop}
theorem sd_setG (h : EvG K W te ρ P X) (hj : j < ρ.length) (hk : ∀ ρ', P ρ' → ∃ ρ1 s, ρ' = ρ1 ++ [s] ∧ ρ1.length = ρ.length ∧ k.nx (ρ1.set j s)) (hx : ∀ c ρ', X c ρ' → ex c ρ') : Sd K W ex (tAsg te (gName j)) ρ k := fun R0 H0 ok R σ H a D m =>
  h R0 H0 R σ H a _ (fun ρ' R' v H' p s a' => by
    obtain ⟨ρ1, s, rfl, hl, hn⟩ := hk ρ' p
    exact m.nx _ R' _ H' hn (a'.settle (by rw [a.len, hl]) (by rw [hl]; exact hj))) fun c ρ' R' H' p a' => ok c ρ' R' σ H' (hx c ρ' p) a'
theorem sd_dropG (h : EvG K W te ρ P X) (hk : ∀ ρ', P ρ' → ∃ ρ1 s, ρ' = ρ1 ++ [s] ∧ ρ1.length = ρ.length ∧ k.nx ρ1) (hx : ∀ c ρ', X c ρ' → ex c ρ') : Sd K W ex (tDrop te) ρ k := fun R0 H0 ok R σ H a D m =>
  h R0 H0 R σ H a _ (fun ρ' R' v H' p s a' => by
    obtain ⟨ρ1, s, rfl, hl, hn⟩ := hk ρ' p
    exact m.nx _ R' _ H' hn (a'.unsnoc (by rw [a.len, hl]))) fun c ρ' R' H' p a' => ok c ρ' R' σ H' (hx c ρ' p) a'
theorem sd_retG (h : EvG K W te ρ P X) (hk : ∀ ρ', P ρ' → k.rg ρ') (hx : ∀ c ρ', X c ρ' → ex c ρ') : Sd K W ex (tRet te) ρ k := fun R0 H0 ok R σ H a D m =>
  h R0 H0 R σ H a _ (fun ρ' R' v H' p s a' => m.rg ρ' v R' σ H' (hk ρ' p) a') fun c ρ' R' H' p a' => ok c ρ' R' σ H' (hx c ρ' p) a'
theorem sd_retD (h : Ev K te ρ d) (hk : k.rg (ρ ++ [.val d])) : Sd K W ex (tRet te) ρ k := fun R0 H0 ok R σ H a D m => h R0 H0 R σ H a _ fun v R1 H1 g1 dv => m.rg _ v R1 σ H1 hk ((a.grow g1).snoc dv)
theorem sd_ifG (h : EvG K W te ρ P X) (hk : ∀ ρ', P ρ' → ∃ ρ1 b, ρ' = ρ1 ++ [.val (.bool b)] ∧ ρ1.length = ρ.length ∧ (b = true → Sd K W ex t ρ1 k) ∧ (b = false → Sd K W ex u ρ1 k)) (hx : ∀ c ρ', X c ρ' → ex c ρ') : Sd K W ex (tIfS (tB te) t u) ρ k := fun R0 H0 ok R σ H a D m =>
  h R0 H0 R σ H a _ (fun ρ' R' v H' p s a' => by
    obtain ⟨ρ1, b, rfl, hl, h1, h2⟩ := hk ρ' p
    obtain ⟨v', g1, g2⟩ := a'.val ρ1.length (.bool b) (by rw [List.getElem?_append_right (Nat.le_refl _), Nat.sub_self]; rfl)
    rw [List.getElem?_append_right (by rw [a.len, hl]; exact Nat.le_refl _), a.len, hl, Nat.sub_self] at g1
    have e : v' = v := (Option.some.inj (Option.some.inj g1)).symm
    subst e
    cases g2
    have a2 := a'.unsnoc (by rw [a.len, hl])
    refine ⟨b, rfl, ?_⟩
    cases b with
    | true => exact iteT (h1 rfl R0 H0 ok R' σ H' a2 D m)
    | false => exact iteF (h2 rfl R0 H0 ok R' σ H' a2 D m)) fun c ρ' R' H' p a' => ok c ρ' R' σ H' (hx c ρ' p) a'
theorem sd_ifNG (h : EvG K W te ρ P X) (hk : ∀ ρ', P ρ' → ∃ ρ1 b, ρ' = ρ1 ++ [.val (.bool b)] ∧ ρ1.length = ρ.length ∧ (b = false → Sd K W ex t ρ1 k) ∧ (b = true → Sd K W ex u ρ1 k)) (hx : ∀ c ρ', X c ρ' → ex c ρ') : Sd K W ex (tIfS (tNot (tB te)) t u) ρ k := fun R0 H0 ok R σ H a D m =>
  h R0 H0 R σ H a _ (fun ρ' R' v H' p s a' => by
    obtain ⟨ρ1, b, rfl, hl, h1, h2⟩ := hk ρ' p
    obtain ⟨v', g1, g2⟩ := a'.val ρ1.length (.bool b) (by rw [List.getElem?_append_right (Nat.le_refl _), Nat.sub_self]; rfl)
    rw [List.getElem?_append_right (by rw [a.len, hl]; exact Nat.le_refl _), a.len, hl, Nat.sub_self] at g1
    have e : v' = v := (Option.some.inj (Option.some.inj g1)).symm
    subst e
    cases g2
    have a2 := a'.unsnoc (by rw [a.len, hl])
    refine ⟨b, rfl, ?_⟩
    cases b with
    | true => exact iteF (h2 rfl R0 H0 ok R' σ H' a2 D m)
    | false => exact iteT (h1 rfl R0 H0 ok R' σ H' a2 D m)) fun c ρ' R' H' p a' => ok c ρ' R' σ H' (hx c ρ' p) a'
end
/-! ### a def's body -/
/-- the lent argument's place -/
def atG (h : Nat) (ρ : En) : Sl := ρ.getD h .un
theorem body_ofG {K : Frag} {c : Cg} {vs : List V} {H : Hp} {Q : VK} {E : XK} {N : List Str} {t : TS} (n h : Nat) (hn : n ≤ N.length) (hlen : ∀ ρ k, c ρ k → ρ.length = n) (hsp : spG K c vs H Q E)
    (hs : ∀ (ρ : En) (k : Kg), c ρ k → Sd K (fun cls d _ H => E cls d H) (fun x ρ' => k.ex x (atG h ρ')) t (ρ ++ List.replicate (N.length - n) Sl.un) { nx := fun ρ' => k.rt (atG h ρ') (.val .none), rt := fun _ => False, rl := fun _ => False, rg := fun ρ' => ∃ ρ1 s, ρ' = ρ1 ++ [s] ∧ ρ1.length = N.length ∧ k.rt (atG h ρ1) s }) :
    t { nx := fun _ H' => Q .non H', rt := Q } (L2.start N vs) H := by
  obtain ⟨R, H0, ρ, k, a, hc, q1, q2⟩ := hsp
  have hl := hlen ρ k hc
  have hvl : vs.length = n := by have := a.len; rw [List.length_map] at this; omega
  have a0 : At K R H0 R (ρ ++ List.replicate (N.length - n) Sl.un) (L2.start N vs) H := by
    unfold L2.start
    refine a.sel id (fun x y _ _ e => e) (by simp [hvl, hl]) (fun x t e => ?_)
    by_cases hx : x < ρ.length
    · rw [List.getElem?_append_left hx] at e
      refine .inr ⟨e, ?_⟩
      show _ = (vs.map some)[x]?
      rw [List.getElem?_append_left (by rw [List.length_map]; omega)]
    · rw [List.getElem?_append_right (by omega), List.getElem?_replicate] at e
      split at e
      · exact .inl (Option.some.inj e).symm
      · cases e
  have one : ∀ {ρ' : En} {σ' : L2.St} {R' H' : Hp}, At K R H0 R' ρ' σ' H' → ∃ w, At K R H0 R' [atG h ρ'] [w] H' := fun {ρ' σ' R' H'} b => ⟨(σ'[h]?).getD none, b.sel (fun _ => h) (fun x y hx hy _ => by simp at hx hy; omega) rfl (fun x t e => by
    match x, e with
    | 0, e =>
      have e : atG h ρ' = t := Option.some.inj e
      by_cases hh : h < ρ'.length
      · refine .inr ⟨?_, ?_⟩
        · rw [← e]; unfold atG; rw [List.getD_eq_getElem?_getD, List.getElem?_eq_getElem hh]; rfl
        · show some ((σ'[h]?).getD none) = σ'[h]?
          have hs : h < σ'.length := by rw [b.len]; exact hh
          rw [List.getElem?_eq_getElem hs]; rfl
      · refine .inl ?_
        rw [← e]; unfold atG; rw [List.getD_eq_getElem?_getD, List.getElem?_eq_none (by omega)]; rfl
    | x + 1, e => simp at e)⟩
  have two : ∀ {ρ1 : En} {s : Sl} {σ1 : L2.St} {v : V} {R' H' : Hp}, At K R H0 R' (ρ1 ++ [s]) (σ1 ++ [some v]) H' → ∃ w, At K R H0 R' [atG h ρ1, s] [w, some v] H' := fun {ρ1 s σ1 v R' H'} b => by
    have bl : σ1.length = ρ1.length := by have := b.len; simp at this; omega
    by_cases hh : h < ρ1.length
    · refine ⟨(σ1[h]?).getD none, b.sel (fun x => if x = 0 then h else ρ1.length) (fun x y hx hy e => ?_) rfl (fun x t e => ?_)⟩
      · simp at hx hy
        split at e <;> split at e <;> omega
      · match x, e with
        | 0, e =>
          have e : atG h ρ1 = t := Option.some.inj e
          refine .inr ⟨?_, ?_⟩
          · show (ρ1 ++ [s])[h]? = _
            rw [List.getElem?_append_left hh, ← e]; unfold atG; rw [List.getD_eq_getElem?_getD, List.getElem?_eq_getElem hh]; rfl
          · show _ = (σ1 ++ [some v])[h]?
            have hs : h < σ1.length := by omega
            rw [List.getElem?_append_left hs]
            show some ((σ1[h]?).getD none) = σ1[h]?
            rw [List.getElem?_eq_getElem hs]; rfl
        | 1, e =>
          refine .inr ⟨?_, ?_⟩
          · show (ρ1 ++ [s])[ρ1.length]? = _
            rw [List.getElem?_append_right (Nat.le_refl _), Nat.sub_self]; exact e
          · show _ = (σ1 ++ [some v])[ρ1.length]?
            rw [List.getElem?_append_right (by omega), bl, Nat.sub_self]; rfl
        | x + 2, e => simp at e
    · refine ⟨none, b.sel (fun x => if x = 0 then ρ1.length + 1 else ρ1.length) (fun x y hx hy e => ?_) rfl (fun x t e => ?_)⟩
      · simp at hx hy
        split at e <;> split at e <;> omega
      · match x, e with
        | 0, e =>
          have e : atG h ρ1 = t := Option.some.inj e
          refine .inl ?_
          rw [← e]; unfold atG; rw [List.getD_eq_getElem?_getD, List.getElem?_eq_none (by omega)]; rfl
        | 1, e =>
          refine .inr ⟨?_, ?_⟩
          · show (ρ1 ++ [s])[ρ1.length]? = _
            rw [List.getElem?_append_right (Nat.le_refl _), Nat.sub_self]; exact e
          · show _ = (σ1 ++ [some v])[ρ1.length]?
            rw [List.getElem?_append_right (by omega), bl, Nat.sub_self]; rfl
        | x + 2, e => simp at e
  refine hs ρ k hc R H0 (fun x ρ' R' σ' H' hx b => ?_) R _ H a0 _ ⟨fun ρ' R' σ' H' hr b => ?_, fun _ _ _ _ q => q.elim, fun _ _ _ _ _ q => q.elim, fun _ _ _ _ q => q.elim, fun _ _ _ _ q => q.elim, fun ρ' v R' σ' H' hr b => ?_⟩
  · obtain ⟨w, b1⟩ := one b
    exact q2 x _ w R' H' hx b1
  · obtain ⟨w, b1⟩ := two (b.snoc (v := V.non) (d := PyData.none) Dp.non)
    exact q1 _ _ w .non R' H' hr b1
  · obtain ⟨ρ1, s, rfl, hl1, hr⟩ := hr
    obtain ⟨w, b1⟩ := two b
    exact q1 _ _ w v R' H' hr b1
theorem spG_len {K : Frag} {c : Cg} {n : Nat} (h : ∀ ρ k, c ρ k → ρ.length = n) : ∀ vs H Q E, spG K c vs H Q E → vs.length = n := fun vs H Q E ⟨R, H0, ρ, k, a, hc, _⟩ => by
  have := a.len
  rw [List.length_map] at this
  rw [this, h ρ k hc]
section
variable {P : Program} {w : World} {K : Frag} {mg : Str → Option Value} {base : Heap}
theorem FnAt.okG {x : Str} {st : Stmt} {ps N : List Str} {f : Addr} {k : Nat} (T : FnAt K mg x st ps f) (S : FnScope N ps (defScope st)) (sp : Sp) (hl : ∀ vs H Q E, sp vs H Q E → vs.length = ps.length)
    (hbody : ∀ (cdv : Value) (A : Around) (outer : List Env) (s : Shared) (H : Hp) (vs : List V) (Q : VK) (E : XK), Room k (A.deeper (envOfC x (defScope st) s.heap.objs.size f cdv)) → sp vs H Q E →
      ∃ t, PSs (cxOf (L2.CX P w) P w K mg base N x (defScope st) f cdv A outer s H E) (defBody st) t ∧ t { nx := fun _ H' => Q .non H', rt := Q } (L2.start N vs) H) : Ok P w K mg base (k + 1) x ps sp := by
  obtain ⟨g, fd, F, b⟩ := T
  exact ⟨f, g, F.kp, fd, b, F.okX S hl hbody⟩
end
end Pu
set_option maxRecDepth 100000
set_option maxHeartbeats 1000000
namespace Pu
open PySem PySem.Spec PyProof.Rows L2
/-! ### own lists as facts, facts as own lists -/
def ListP (K : Frag) (p : Addr) (ds : List D) : Hp → Hp → Prop := fun R H => ∃ vs, H p = some (.lst vs) ∧ DpAll K R vs ds
theorem listP_stay {K : Frag} {p : Addr} {ds : List D} : Stay [p] (ListP K p ds) := fun R H R' H' hr hk ⟨vs, h1, h2⟩ => ⟨vs, hk p List.mem_cons_self _ h1, dpa_mono hr _ _ h2⟩
section
variable {K : Frag} {R0 H0 R H R' H' : Hp} {ρ ρ' : En} {σ σ' : L2.St} {s f : Sl} {v w : V} {i j : Nat} {d : D} {ds : List D} {S : List Addr} {P : Hp → Hp → Prop} {p : Addr} {vs : List V}
/-- one slot's word for another's: nothing but the word changes -/
theorem At.own_fact (a : At K R0 H0 R ρ σ H) (e : ρ[i]? = some (.own ds)) (s : σ[i]? = some (some (.ref p))) : At K R0 H0 R (ρ.set i (.fact (.ref p) [p] (ListP K p ds))) σ H := by
  obtain ⟨p', vs, h1, h2, h3, h4, h5⟩ := a.own i ds e
  rw [s] at h1
  cases h1
  have hl : i < ρ.length := (List.getElem?_eq_some_iff.mp e).1
  have key : ∀ {x : Nat} {t : Sl}, (ρ.set i (.fact (.ref p) [p] (ListP K p ds)))[x]? = some t → (x ≠ i ∧ ρ[x]? = some t) ∨ (x = i ∧ t = .fact (.ref p) [p] (ListP K p ds)) := fun {x t} q => by
    by_cases hx : i = x
    · subst hx
      rw [List.getElem?_set_self hl] at q
      exact .inr ⟨rfl, (Option.some.inj q).symm⟩
    · rw [List.getElem?_set_ne hx] at q
      exact .inl ⟨fun z => hx z.symm, q⟩
  refine ⟨a.gr, by rw [List.length_set]; exact a.len, fun x e q => ?_, fun x es q => ?_, fun x u q => ?_, fun x y q ds2 es2 n e1 e2 s1 => ?_, ⟨fun x u T Q q => ?_, fun x y u T Q ds2 q e1 e2 s1 => ?_, fun x y u u2 T T2 Q Q2 n e1 e2 => ?_⟩⟩
  · rcases key q with ⟨_, q⟩ | ⟨_, z⟩
    · exact a.val x _ q
    · cases z
  · rcases key q with ⟨_, q⟩ | ⟨_, z⟩
    · exact a.own x _ q
    · cases z
  · rcases key q with ⟨_, q⟩ | ⟨_, z⟩
    · exact a.raw x _ q
    · cases z
  · rcases key e1 with ⟨_, q1⟩ | ⟨_, z⟩
    · rcases key e2 with ⟨_, q2⟩ | ⟨_, z⟩
      · exact a.apart x y q ds2 es2 n q1 q2 s1
      · cases z
    · cases z
  · rcases key q with ⟨_, q⟩ | ⟨rfl, z⟩
    · exact a.fa.at_ x u T Q q
    · cases z
      refine ⟨s, listP_stay, ⟨vs, h2, h3⟩, fun c hc => ?_⟩
      rw [List.mem_singleton.mp hc]
      exact ⟨(by rw [h2]; exact (fun z => nomatch z)), h4, h5⟩
  · rcases key e2 with ⟨m2, q2⟩ | ⟨_, z⟩
    · rcases key e1 with ⟨_, q1⟩ | ⟨rfl, z⟩
      · exact a.fa.off x y u T Q ds2 q q1 q2 s1
      · cases z
        intro hq
        rw [List.mem_singleton.mp hq] at s1
        exact a.apart x y p ds ds2 (fun z => m2 z.symm) e q2 s s1
    · cases z
  · rcases key e1 with ⟨m1, q1⟩ | ⟨rfl, z⟩
    · rcases key e2 with ⟨m2, q2⟩ | ⟨rfl, z⟩
      · exact a.fa.two x y u u2 T T2 Q Q2 n q1 q2
      · cases z
        intro c hc hc2
        rw [List.mem_singleton.mp hc2] at hc
        exact a.fa.off x y u T Q ds p q1 e s hc
    · cases z
      rcases key e2 with ⟨m2, q2⟩ | ⟨h2, _⟩
      · intro c hc hc2
        rw [List.mem_singleton.mp hc] at hc2
        exact a.fa.off y x u2 T2 Q2 ds p q2 e s hc2
      · exact absurd h2.symm n
/-- the last slot, told otherwise, over the same cells or fewer -/
theorem At.snoc_fact (a : At K R0 H0 R ρ σ H) (e : ρ[i]? = some (.fact w S P)) {P' : Hp → Hp → Prop} (hst : Stay S P') (hp : P' R H) : At K R0 H0 R (ρ.set i .un ++ [.fact v S P']) (σ ++ [some v]) H := by
  obtain ⟨g1, g2, g3, g4⟩ := a.fa.at_ i w S P e
  have hl : i < ρ.length := (List.getElem?_eq_some_iff.mp e).1
  have hlen := a.len
  have b := a.merge (i := i) (S := S) (R' := R) (H' := H) (f := .un) (s := .fact v S P') (v := v) (fun x hx => (g4 x hx).2.2) (fun k es p e' q => a.fa.off i k w S P es p e e' q) (fun k u T Q n e' x hx hx2 => a.fa.two k i u w T S Q P n e' e x hx hx2) hl ⟨⟨Same.refl R, fun b o q => by
    by_cases hb : b ∈ S
    · rw [offH_in hb] at q; cases q
    · rw [offH_ne hb] at q; exact q, a.gr.sub, fun x q n => absurd q n⟩, rfl, fun x e' q => ?_, fun x es q => ?_, fun x u q => ?_, fun x y p ds es n e1 e2 s1 => ?_, ⟨fun x u T Q q => ?_, fun x y u T Q ds p e1 e2 s1 => ?_, fun x y u u2 T T2 Q Q2 n e1 e2 => ?_⟩⟩ (Handed.no (w := V.non) (.inl rfl))
  · exact b
  · match x, q with
    | 0, q => cases q
    | 1, q => cases q
    | x + 2, q => simp at q
  · match x, q with
    | 0, q => cases q
    | 1, q => cases q
    | x + 2, q => simp at q
  · match x, q with
    | 0, q => cases q
    | 1, q => cases q
    | x + 2, q => simp at q
  · match x, e1 with
    | 0, q => cases q
    | 1, q => cases q
    | x + 2, q => simp at q
  · match x, q with
    | 0, q => cases q
    | 1, q =>
      cases q
      exact ⟨rfl, hst, hp, fun c hc => ⟨(g4 c hc).1, (g4 c hc).2.1, offH_in hc⟩⟩
    | x + 2, q => simp at q
  · match y, e2 with
    | 0, q => cases q
    | 1, q => cases q
    | y + 2, q => simp at q
  · match x, y, e1, e2 with
    | 0, _, q, _ => cases q
    | _, 0, _, q => cases q
    | 1, 1, _, _ => exact absurd rfl n
    | x + 2, _, q, _ => simp at q
    | _, y + 2, _, q => simp at q
end
/-! ### a tuple with an own list in it -/
end Pu
set_option maxRecDepth 100000
set_option maxHeartbeats 1000000
namespace Pu
open PySem PySem.Spec PyProof.Rows L2
/-! ### a new list handed to a call that changes it -/
section
variable {K : Frag} {W : WX} {R0 H0 R H R' H' : Hp} {ρ ρ' : En} {σ σ' : L2.St} {s f : Sl} {v w : V} {i j : Nat} {d : D} {ds : List D} {S : List Addr} {P : Hp → Hp → Prop} {p : Addr} {vs : List V} {te : TE} {ta : TA} {ssf : Addr → En} {c : Cg}
theorem At.snoc_own (a : At K R0 H0 R ρ σ H) (hp : H p = some (.lst vs)) (h : DpAll K R vs ds) (rp : R p = none) (h0 : H0 p = none) (np : ∀ (j : Nat) (es : List D), ρ[j]? = some (.own es) → σ[j]? ≠ some (some (.ref p))) (nf : ∀ (j : Nat) (v : V) (S : List Addr) (P : Hp → Hp → Prop), ρ[j]? = some (.fact v S P) → p ∉ S) : At K R0 H0 R (ρ ++ [.own ds]) (σ ++ [some (.ref p)]) H := by
  have hl := a.len
  have a1 : At K R0 H0 R (ρ ++ [.un]) (σ ++ [none]) H := by
    refine a.sel id (fun x y _ _ e => e) (by simp [hl]) (fun x t e => ?_)
    by_cases hx : x < ρ.length
    · rw [List.getElem?_append_left hx] at e
      exact .inr ⟨e, by show _ = σ[x]?; rw [List.getElem?_append_left (by omega)]⟩
    · rw [List.getElem?_append_right (by omega)] at e
      refine .inl ?_
      cases hx2 : x - ρ.length with
      | zero => rw [hx2] at e; exact (Option.some.inj e).symm
      | succ n => rw [hx2] at e; simp at e
  have old : ∀ {x : Nat} {t : Sl}, (ρ ++ [.un] : En)[x]? = some t → t = .un ∨ (ρ[x]? = some t ∧ (σ ++ [none])[x]? = σ[x]?) := fun {x t} e => by
    by_cases hx : x < ρ.length
    · rw [List.getElem?_append_left hx] at e
      exact .inr ⟨e, List.getElem?_append_left (by omega)⟩
    · rw [List.getElem?_append_right (by omega)] at e
      refine .inl ?_
      cases hx2 : x - ρ.length with
      | zero => rw [hx2] at e; exact (Option.some.inj e).symm
      | succ n => rw [hx2] at e; simp at e
  have b := a1.set_own (i := ρ.length) hp h rp h0 (fun j es _ e => by
    rcases old e with z | ⟨z, z2⟩
    · cases z
    · rw [z2]; exact np j es z) (fun j v S P e => by
    rcases old e with z | ⟨z, _⟩
    · cases z
    · exact nf j v S P z)
  have e1 : (ρ ++ [.un] : En).set ρ.length (.own ds) = ρ ++ [.own ds] := by rw [List.set_append_right _ _ (Nat.le_refl _), Nat.sub_self]; rfl
  have e2 : (σ ++ [none] : L2.St).set ρ.length (some (.ref p)) = σ ++ [some (.ref p)] := by rw [List.set_append_right _ _ (by omega), show ρ.length - σ.length = 0 by omega]; rfl
  rw [e1, e2] at b
  exact b
/-- a slot behind the others let go, the last one kept -/
theorem At.skip {u : Option V} (a : At K R0 H0 R (ρ ++ [f] ++ [s]) (σ ++ [u] ++ [some v]) H) (hl : σ.length = ρ.length) : At K R0 H0 R (ρ ++ [s]) (σ ++ [some v]) H := by
  refine a.sel (fun i => if i < ρ.length then i else ρ.length + 1) (fun x y hx hy e => ?_) (by simp [hl]) (fun x t e => .inr ?_)
  · simp at hx hy
    split at e <;> split at e <;> omega
  · by_cases hx : x < ρ.length
    · rw [List.getElem?_append_left hx] at e
      rw [if_pos hx, List.append_assoc, List.append_assoc, List.getElem?_append_left hx, List.getElem?_append_left (by omega), List.getElem?_append_left (by omega)]
      exact ⟨e, rfl⟩
    · rw [List.getElem?_append_right (by omega)] at e
      have hx2 : x = ρ.length := by
        cases hx2 : x - ρ.length with
        | zero => omega
        | succ n => rw [hx2] at e; simp at e
      subst hx2
      rw [Nat.sub_self] at e
      cases e
      rw [if_neg hx, List.getElem?_append_right (by simp), List.getElem?_append_right (by omega), List.getElem?_append_right (by simp [hl])]
      simp [hl]
end
end Pu
set_option maxRecDepth 100000
set_option maxHeartbeats 1000000
namespace Pu
open PySem PySem.Spec PyProof.Rows L2
/-! ### a thing of one's own seen as a value, for the time of an expression -/
def showR (R H : Hp) (S : List Addr) : Hp := fun a => if a ∈ S then H a else R a
def hideR (R : Hp) (S : List Addr) : Hp := fun a => if a ∈ S then none else R a
section
variable {K : Frag} {R0 H0 R H R' H' : Hp} {ρ ρ' : En} {σ σ' : L2.St} {s f : Sl} {v w : V} {i j : Nat} {d dL : D} {ds es : List D} {S : List Addr} {P : Hp → Hp → Prop} {p t q : Addr} {vs : List V} {te : TE}
theorem showR_in {a : Addr} (h : a ∈ S) : showR R H S a = H a := if_pos h
theorem showR_ne {a : Addr} (h : a ∉ S) : showR R H S a = R a := if_neg h
theorem same_show (h : ∀ a ∈ S, R a = none) : Same R (showR R H S) := fun b o e => by
  by_cases z : b ∈ S
  · rw [h b z] at e; cases e
  · rw [showR_ne z]; exact e
theorem show_sub (h : Same R H) : Same (showR R H S) H := fun b o e => by
  by_cases z : b ∈ S
  · rw [showR_in z] at e; exact e
  · rw [showR_ne z] at e; exact h b o e
theorem hideR_in {a : Addr} (h : a ∈ S) : hideR R S a = none := if_pos h
theorem hideR_ne {a : Addr} (h : a ∉ S) : hideR R S a = R a := if_neg h
theorem dp_hideN (hn : noL d = true) : ∀ (S : List Addr), (∀ a ∈ S, R a = none ∨ ∃ vs, R a = some (.lst vs)) → Dp K R v d → Dp K (hideR R S) v d
  | [], _, h => dp_mono (fun b o e => by rw [hideR_ne (List.not_mem_nil)]; exact e) _ _ h
  | a :: S, hS, h => by
    have ih := dp_hideN hn S (fun b hb => hS b (List.mem_cons_of_mem _ hb)) h
    have key : ∀ x o, hideR R S x = some o → x ≠ a → hideR R (a :: S) x = some o := fun x o e n => by
      by_cases z : x ∈ S
      · rw [hideR_in z] at e; cases e
      · rw [hideR_ne z] at e
        rw [hideR_ne (fun q => by rcases List.mem_cons.mp q with q | q; exact n q; exact z q)]
        exact e
    by_cases ha : a ∈ S
    · refine dp_mono (fun x o e => key x o e fun z => ?_) _ _ ih
      rw [z, hideR_in ha] at e
      cases e
    · rcases hS a List.mem_cons_self with q | ⟨vs, q⟩
      · refine dp_mono (fun x o e => key x o e fun z => ?_) _ _ ih
        rw [z, hideR_ne ha, q] at e
        cases e
      · refine dp_mono (fun x o e => ?_) _ _ (dp_lessN (p := a) (vs := vs) (by rw [hideR_ne ha]; exact q) _ _ hn ih)
        by_cases z : x = a
        · rw [z] at e
          have : less1 (hideR R S) a a = none := if_pos rfl
          rw [this] at e
          cases e
        · rw [less1_ne z] at e
          exact key x o e z
theorem At.show_ (a : At K R0 H0 R ρ σ H) (hi : ρ[i]? = some (.fact v S P)) (hd : Dp K (showR R H S) v dL) : At K R0 H0 (showR R H S) (ρ.set i (.val dL)) σ H := by
  obtain ⟨g1, g2, g3, g4⟩ := a.fa.at_ i v S P hi
  have hl := (List.getElem?_eq_some_iff.mp hi).1
  have rr : Same R (showR R H S) := same_show fun x hx => (g4 x hx).2.1
  have key : ∀ {x : Nat} {u : Sl}, (ρ.set i (.val dL))[x]? = some u → (x ≠ i ∧ ρ[x]? = some u) ∨ (x = i ∧ u = .val dL) := fun {x u} e => by
    by_cases hx : i = x
    · subst hx
      rw [List.getElem?_set_self hl] at e
      exact .inr ⟨rfl, (Option.some.inj e).symm⟩
    · rw [List.getElem?_set_ne hx] at e
      exact .inl ⟨fun z => hx z.symm, e⟩
  refine ⟨⟨a.gr.rd.trans rr, a.gr.hp, show_sub a.gr.sub, fun x e n => ?_⟩, by rw [List.length_set]; exact a.len, fun x d e => ?_, fun x es e => ?_, fun x u e => ?_, fun x y p ds es n e1 e2 s1 => ?_, ⟨fun x u T Q e => ?_, fun x y u T Q ds p e1 e2 s1 => ?_, fun x y u w T T2 Q Q2 n e1 e2 => ?_⟩⟩
  · by_cases hx : x ∈ S
    · exact (g4 x hx).2.2
    · rw [showR_ne hx] at n
      exact a.gr.new x e n
  · rcases key e with ⟨_, e⟩ | ⟨rfl, z⟩
    · obtain ⟨u, h1, h2⟩ := a.val x d e
      exact ⟨u, h1, dp_mono rr _ _ h2⟩
    · cases z
      exact ⟨v, g1, hd⟩
  · rcases key e with ⟨_, e⟩ | ⟨_, z⟩
    · obtain ⟨p, vs, h1, h2, h3, h4, h5⟩ := a.own x es e
      exact ⟨p, vs, h1, h2, dpa_mono rr _ _ h3, by rw [showR_ne (a.fa.off i x v S P es p hi e h1)]; exact h4, h5⟩
    · cases z
  · rcases key e with ⟨_, e⟩ | ⟨_, z⟩
    · exact a.raw x u e
    · cases z
  · rcases key e1 with ⟨_, e1⟩ | ⟨_, z⟩
    · rcases key e2 with ⟨_, e2⟩ | ⟨_, z⟩
      · exact a.apart x y p ds es n e1 e2 s1
      · cases z
    · cases z
  · rcases key e with ⟨n, e⟩ | ⟨_, z⟩
    · obtain ⟨h1, h2, h3, h4⟩ := a.fa.at_ x u T Q e
      exact ⟨h1, h2, h2 R H _ H rr (fun c _ o e => e) h3, fun c hc => ⟨(h4 c hc).1, by rw [showR_ne (fun z => a.fa.two i x v u S T P Q (fun z => n z.symm) hi e c z hc)]; exact (h4 c hc).2.1, (h4 c hc).2.2⟩⟩
    · cases z
  · rcases key e1 with ⟨_, e1⟩ | ⟨_, z⟩
    · rcases key e2 with ⟨_, e2⟩ | ⟨_, z⟩
      · exact a.fa.off x y u T Q ds p e1 e2 s1
      · cases z
    · cases z
  · rcases key e1 with ⟨_, e1⟩ | ⟨_, z⟩
    · rcases key e2 with ⟨_, e2⟩ | ⟨_, z⟩
      · exact a.fa.two x y u w T T2 Q Q2 n e1 e2
      · cases z
    · cases z
/-- a new thing put into a slot -/
theorem At.new_fact (a : At K R0 H0 R ρ σ H) (g : Grow R H R' H') (hi : i < ρ.length) (hS : ∀ c ∈ S, H c = none ∧ H' c ≠ none ∧ R' c = none) (hst : Stay S P) (hp : P R' H') : At K R0 H0 R' (ρ.set i (.fact v S P)) (σ.set i (some v)) H' := by
  have a' := a.grow g
  have key : ∀ {x : Nat} {u : Sl}, (ρ.set i (.fact v S P))[x]? = some u → (x ≠ i ∧ ρ[x]? = some u ∧ (σ.set i (some v))[x]? = σ[x]?) ∨ (x = i ∧ u = .fact v S P) := fun {x u} e => by
    by_cases hx : i = x
    · subst hx
      rw [List.getElem?_set_self hi] at e
      exact .inr ⟨rfl, (Option.some.inj e).symm⟩
    · rw [List.getElem?_set_ne hx] at e
      exact .inl ⟨fun z => hx z.symm, e, List.getElem?_set_ne hx⟩
  have nown : ∀ {x : Nat} {es : List D} {p : Addr}, ρ[x]? = some (.own es) → σ[x]? = some (some (.ref p)) → p ∉ S := fun {x es p} e s hp => by
    obtain ⟨p2, vs, h1, h2, _⟩ := a.own x es e
    rw [s] at h1
    cases h1
    rw [(hS p hp).1] at h2
    cases h2
  have nfac : ∀ {x : Nat} {u : V} {T : List Addr} {Q : Hp → Hp → Prop}, ρ[x]? = some (.fact u T Q) → ∀ c ∈ T, c ∉ S := fun {x u T Q} e c hc hs => ((a.fa.at_ x u T Q e).2.2.2 c hc).1 (hS c hs).1
  refine ⟨a'.gr, by rw [List.length_set, List.length_set]; exact a.len, fun x d e => ?_, fun x es e => ?_, fun x u e => ?_, fun x y p ds es n e1 e2 s1 => ?_, ⟨fun x u T Q e => ?_, fun x y u T Q ds p e1 e2 s1 => ?_, fun x y u w T T2 Q Q2 n e1 e2 => ?_⟩⟩
  · rcases key e with ⟨_, e, z⟩ | ⟨_, z⟩
    · rw [z]; exact a'.val x d e
    · cases z
  · rcases key e with ⟨_, e, z⟩ | ⟨_, z⟩
    · rw [z]; exact a'.own x es e
    · cases z
  · rcases key e with ⟨_, e, z⟩ | ⟨_, z⟩
    · rw [z]; exact a'.raw x u e
    · cases z
  · rcases key e1 with ⟨_, e1, z1⟩ | ⟨_, z⟩
    · rcases key e2 with ⟨_, e2, z2⟩ | ⟨_, z⟩
      · rw [z1] at s1
        rw [z2]
        exact a.apart x y p ds es n e1 e2 s1
      · cases z
    · cases z
  · rcases key e with ⟨_, e, z⟩ | ⟨rfl, z⟩
    · rw [z]; exact a'.fa.at_ x u T Q e
    · cases z
      refine ⟨List.getElem?_set_self (by rw [a.len]; exact hi), hst, hp, fun c hc => ⟨(hS c hc).2.1, (hS c hc).2.2, a.gr.hp.free (hS c hc).1⟩⟩
  · rcases key e1 with ⟨_, e1, z1⟩ | ⟨rfl, z⟩
    · rcases key e2 with ⟨_, e2, z2⟩ | ⟨_, z⟩
      · rw [z2] at s1
        exact a.fa.off x y u T Q ds p e1 e2 s1
      · cases z
    · rcases key e2 with ⟨_, e2, z2⟩ | ⟨_, z2⟩
      · cases z
        rw [z2] at s1
        exact nown e2 s1
      · cases z2
  · rcases key e1 with ⟨_, e1, _⟩ | ⟨rfl, z⟩
    · rcases key e2 with ⟨_, e2, _⟩ | ⟨_, z⟩
      · exact a.fa.two x y u w T T2 Q Q2 n e1 e2
      · cases z
        exact nfac e1
    · rcases key e2 with ⟨_, e2, _⟩ | ⟨h2, _⟩
      · cases z
        exact fun c hc hc2 => nfac e2 c hc2 hc
      · exact absurd h2.symm n
/-! ### a list of two lists of one's own -/
end
/-! ### bools counted -/
end Pu
set_option maxRecDepth 100000
set_option maxHeartbeats 1000000
namespace Pu
open PySem PySem.Spec PyProof.Rows L2
/-! ### a dict that serves as a set of texts -/
def SetP (p : Addr) (ks : List Str) : Hp → Hp → Prop := fun _ H => ∃ kvs : List (Key × V), H p = some (.dK kvs) ∧ kvs.length ≤ ks.length ∧ ∀ z : Str, (valV kvs (Sum.inr z)).isSome = ks.contains z
theorem setP_stay {p : Addr} {ks : List Str} : Stay [p] (SetP p ks) := fun R H R' H' hr hk ⟨kvs, h1, h2, h3⟩ => ⟨kvs, hk p List.mem_cons_self _ h1, h2, h3⟩
section
variable {K : Frag} {W : WX} {ρ ρ2 : En} {te ty tv ta tb : TE} {ts : TS} {d : D} {ds : List D} {ex : Value → En → Prop} {k : Ko} {i j : Nat} {p : Addr} {ks : List Str} {z : Str}
theorem sd_setNew (hi : i < ρ.length) (hk : ∀ p, k.nx (ρ.set i (.fact (.ref p) [p] (SetP p [])))) : Sd K W ex (tAsg tDNewK (gName i)) ρ k := fun R0 H0 ok R σ H a D m => fun p hp =>
  m.nx _ R _ _ (hk p) (a.new_fact (v := .ref p) (S := [p]) (P := SetP p []) (Grow.hide (o := .dK []) a.gr.sub hp) hi (fun c hc => by
    obtain rfl := List.mem_singleton.mp hc
    exact ⟨hp, (by rw [upd_same]; exact (fun z => nomatch z)), a.gr.sub.free hp⟩) setP_stay ⟨[], upd_same, Nat.le_refl _, fun z => rfl⟩)
theorem ev_inSet (e : ρ[i]? = some (.fact (.ref p) [p] (SetP p ks))) (h : Ev K ty ρ (.str z)) : Ev K (tDIn ty (tVar i)) ρ (.bool (ks.contains z)) := fun R0 H0 R σ H a Q q => h R0 H0 R σ H a _ fun y R1 H1 g1 dy => by
  cases dy
  have a1 := a.grow g1
  obtain ⟨g1', g2, ⟨kvs, h1, h2, h3⟩, g4⟩ := a1.fa.at_ i _ _ _ e
  exact ⟨_, g1', p, _, rfl, DGet.k (k := Sum.inr z) h1, by rw [h3 z]; exact q _ R1 H1 g1 (.bl _)⟩
theorem sd_putSet (e : ρ[i]? = some (.fact (.ref p) [p] (SetP p ks))) (h : Ev K ty ρ (.str z)) (hv : Ev K tv ρ d) (hl : ks.length ≤ 100000) (hk : k.nx (ρ.set i (.fact (.ref p) [p] (SetP p (ks ++ [z]))))) : Sd K W ex (sDPut (tVar i) ty tv) ρ k := fun R0 H0 ok R σ H a D m => hv R0 H0 R σ H a _ fun v R1 H1 g1 dv => by
  have a1 := a.grow g1
  refine ⟨_, (a1.fa.at_ i _ _ _ e).1, h R0 H0 R1 σ H1 a1 _ fun y R2 H2 g2 dy => ?_⟩
  cases dy
  have a2 := a1.grow g2
  obtain ⟨s1, s2, ⟨kvs, h1, h2, h3⟩, s4⟩ := a2.fa.at_ i _ _ _ e
  refine ⟨p, _, rfl, DPut.k (k := Sum.inr z) h1 (Nat.lt_of_le_of_lt (Nat.le_trans h2 hl) (by decide)), m.nx _ R2 _ _ hk (a2.mut e (fun b o n q' => ?_) (fun x hx => ?_) setP_stay ⟨_, upd_same, ?_, fun y => ?_⟩)⟩
  · rw [upd_ne (fun z => n (by rw [z]; exact List.mem_cons_self))]
    exact q'
  · obtain rfl := List.mem_singleton.mp hx
    exact ⟨(by rw [upd_same]; exact (fun z => nomatch z)), .inl List.mem_cons_self⟩
  · have := length_putK kvs (Sum.inr z : Key) v
    rw [List.length_append]
    show _ ≤ ks.length + 1
    omega
  · rw [valV_put]
    have e1 : (ks ++ [z]).contains y = (ks.contains y || decide (y = z)) := by
      rw [Bool.eq_iff_iff]
      simp
    rw [e1, ← h3 y]
    by_cases e2 : y = z
    · subst e2
      rw [if_pos rfl, decide_eq_true rfl, Bool.or_true]
      rfl
    · rw [if_neg (fun w => e2 (Sum.inr.inj w)), decide_eq_false e2, Bool.or_false]
/-! ### texts joined -/
end
end Pu
set_option maxRecDepth 100000
set_option maxHeartbeats 1000000
namespace Pu
open PySem PySem.Spec PyProof.Rows L2
/-! ### a custom written with its boats' names -/
def itS (i : Int) : Str := Str.ofString (toString i)
def wk (b : Bool) (w : Int) (t : Str) : Str := if b then itS w ++ (" " : Str) ++ t else t
mutual
def Cu.text : Cu → List Str → Str
  | .boat c, ns => ns.headD Str.empty ++ (":" : Str) ++ itS c
  | .knot y ws ks, ns => y.s ++ ("(" : Str) ++ Str.join (", " : Str) (Cu.texts y.wd ks ws ns) ++ (")" : Str)
def Cu.texts : Bool → List Cu → List Int → List Str → List Str
  | _, [], _, _ => []
  | b, k :: r, ws, ns => wk b (ws.headD 0) (k.text ns) :: Cu.texts b r ws.tail (ns.drop k.claims.length)
end
theorem texts_len (b : Bool) : ∀ (ks : List Cu) (ws : List Int) (ns : List Str), (Cu.texts b ks ws ns).length = ks.length
  | [], _, _ => by unfold Cu.texts; rfl
  | k :: r, ws, ns => by
    unfold Cu.texts
    rw [List.length_cons, texts_len b r, List.length_cons]
theorem texts_at (b : Bool) : ∀ (ks : List Cu) (ws : List Int) (ns : List Str) (i : Nat) (k : Cu), ks[i]? = some k → (Cu.texts b ks ws ns)[i]? = some (wk b (ws.getD i 0) (k.text (ns.drop (Cu.claimsL (ks.take i)).length)))
  | [], _, _, _, _, h => by cases h
  | k0 :: r, ws, ns, 0, k, h => by
    obtain rfl := Option.some.inj h
    unfold Cu.texts
    cases ws <;> rfl
  | k0 :: r, ws, ns, i + 1, k, h => by
    unfold Cu.texts
    rw [List.getElem?_cons_succ, texts_at b r ws.tail (ns.drop k0.claims.length) i k h]
    have e1 : ws.tail.getD i 0 = ws.getD (i + 1) 0 := by cases ws <;> rfl
    have e2 : (ns.drop k0.claims.length).drop (Cu.claimsL (r.take i)).length = ns.drop (Cu.claimsL ((k0 :: r).take (i + 1))).length := by
      rw [List.drop_drop]
      congr 1
      show _ = (k0.claims ++ Cu.claimsL (r.take i)).length
      rw [List.length_append]
    rw [e1, e2]
theorem cat_assoc (a b c : Str) : a ++ b ++ c = a ++ (b ++ c) := by
  show Str.append (Str.append a b) c = Str.append a (Str.append b c)
  unfold Str.append
  rw [Array.append_assoc]
theorem empty_cat (a : Str) : Str.empty ++ a = a := by
  show Str.append Str.empty a = a
  unfold Str.append Str.empty
  rw [Array.empty_append]
theorem join_snoc (s : Str) : ∀ (xs : List Str) (x : Str), Str.join s (xs ++ [x]) = if xs = [] then x else Str.join s xs ++ s ++ x
  | [], x => rfl
  | [y], x => rfl
  | y :: z :: r, x => by
    rw [if_neg (by simp)]
    show y ++ s ++ Str.join s ((z :: r) ++ [x]) = y ++ s ++ Str.join s (z :: r) ++ s ++ x
    rw [join_snoc s (z :: r) x, if_neg (by simp), ← cat_assoc, ← cat_assoc]
theorem wk_cat (b : Bool) (w : Int) (a t : Str) : a ++ wk b w t = if b then a ++ itS w ++ (" " : Str) ++ t else a ++ t := by
  unfold wk
  split
  · rw [← cat_assoc, ← cat_assoc]
  · rfl
theorem itS_len (i : Int) (h : i.natAbs < 10 ^ 13) : (itS i).length ≤ 14 := str_len i h
theorem wk_len (b : Bool) {w : Int} (t : Str) (h : w.natAbs < 10 ^ 13) : (wk b w t).length ≤ t.length + 15 := by
  unfold wk
  split
  · rw [cat_len, cat_len]
    have := itS_len w h
    have e : (" " : Str).length = 1 := by decide +kernel
    omega
  · omega
theorem ys_len (y : Wy) : (y.s : Str).length ≤ 4 := by cases y <;> decide +kernel
theorem texts_sum (b : Bool) (m : Nat) : ∀ (ks : List Cu) (ws : List Int) (ns : List Str), (∀ k ∈ ks, k.ok ∧ ∀ ns : List Str, (∀ z ∈ ns, z.length ≤ 12) → (k.text ns).length ≤ k.claims.length * (50 * m)) → (∀ w ∈ ws, w.natAbs < 10 ^ 13) → (∀ z ∈ ns, z.length ≤ 12) →
    ((Cu.texts b ks ws ns).map (·.length)).sum + (Cu.texts b ks ws ns).length * 2 ≤ (Cu.claimsL ks).length * (50 * m + 17)
  | [], _, _, _, _, _ => by unfold Cu.texts; exact Nat.zero_le _
  | k :: r, ws, ns, hk, hw, hn => by
    unfold Cu.texts
    have ih := texts_sum b m r ws.tail (ns.drop k.claims.length) (fun x hx => hk x (List.mem_cons_of_mem _ hx)) (fun w h => hw w (List.mem_of_mem_tail h)) (fun z h => hn z (List.mem_of_mem_drop h))
    obtain ⟨h1, h2⟩ := hk k List.mem_cons_self
    have h3 := h2 ns hn
    have h4 := wk_len b (w := ws.headD 0) (k.text ns) (by
      cases ws with
      | nil => decide
      | cons w r => exact hw w List.mem_cons_self)
    have hp := List.length_pos_iff.mpr (Cu.claims_ne h1)
    rw [List.map_cons, List.sum_cons, List.length_cons]
    show _ ≤ (k.claims ++ Cu.claimsL r).length * (50 * m + 17)
    have e5 : (k.claims ++ Cu.claimsL r).length * (50 * m + 17) = k.claims.length * (50 * m) + k.claims.length * 17 + (Cu.claimsL r).length * (50 * m + 17) := by
      rw [List.length_append, Nat.add_mul (k.claims.length), Nat.mul_add k.claims.length]
    rw [e5]
    omega
theorem text_len : ∀ u : Cu, u.ok → ∀ ns : List Str, (∀ z ∈ ns, z.length ≤ 12) → (u.text ns).length ≤ u.claims.length * (50 * u.deep) := fun u => Cu.ind (P := fun u => u.ok → ∀ ns : List Str, (∀ z ∈ ns, z.length ≤ 12) → (u.text ns).length ≤ u.claims.length * (50 * u.deep)) (fun c h ns hn => by
  unfold Cu.text
  rw [cat_len, cat_len]
  have h1 := itS_len c (by have := h.1; have := h.2; have e : (10 : Nat) ^ 13 = 10000000000000 := by decide
                           omega)
  have h2 : (ns.headD Str.empty).length ≤ 12 := by
    cases ns with
    | nil => decide +kernel
    | cons z r => exact hn z List.mem_cons_self
  have e : (":" : Str).length = 1 := by decide +kernel
  show _ ≤ 1 * (50 * 1)
  omega) (fun y ws ks ih h ns hn => by
  unfold Cu.text
  rw [cat_len, cat_len, cat_len]
  have hw : ∀ w ∈ ws, w.natAbs < 10 ^ 13 := fun w hw => by
    have h3 := wfit_iff.mp h.1.2.2
    have e : (10 : Nat) ^ 13 = 10000000000000 := by decide
    split at h3
    · have := h3.2 w hw
      omega
    · rw [h3] at hw
      cases hw
  have h1 := texts_sum y.wd (Cu.deepL ks) ks ws ns (fun k hk => ⟨Cu.ok_kid h hk, fun ns hn => Nat.le_trans (ih k hk (Cu.ok_kid h hk) ns hn) (Nat.mul_le_mul (Nat.le_refl _) (by have := Cu.deepL_le.mp (Nat.le_refl (Cu.deepL ks)) k hk; omega))⟩) hw hn
  have h2 := StrLaws.join_length_le (", " : Str) (Cu.texts y.wd ks ws ns)
  have e2 : (", " : Str).length = 2 := by decide +kernel
  rw [e2] at h2
  have e3 : ("(" : Str).length = 1 := by decide +kernel
  have e4 : (")" : Str).length = 1 := by decide +kernel
  have h5 := ys_len y
  have hp := List.length_pos_iff.mpr (Cu.claims_ne h)
  have hp : 0 < (Cu.claimsL ks).length := hp
  show _ ≤ (Cu.claimsL ks).length * (50 * (1 + Cu.deepL ks))
  have e5 : (Cu.claimsL ks).length * (50 * (1 + Cu.deepL ks)) = (Cu.claimsL ks).length * (50 * Cu.deepL ks + 17) + (Cu.claimsL ks).length * 33 := by
    rw [← Nat.mul_add]
    congr 1
    omega
  rw [e5]
  omega) u
theorem text_short {u : Cu} (h : u.Ok) {ns : List Str} (hn : ∀ z ∈ ns, z.length ≤ 12) : (u.text ns).length ≤ 4800 := by
  have h1 := text_len u h.ok ns hn
  have h2 := h.few
  have h3 := h.low
  have h4 : u.claims.length * (50 * u.deep) ≤ 12 * (50 * 8) := Nat.mul_le_mul h2 (Nat.mul_le_mul (Nat.le_refl _) h3)
  omega
/-! what is asked of names -/
def okN (ns : List Str) (i : Nat) : Bool := isNm (ns.getD i Str.empty) && !(ns.take i).contains (ns.getD i Str.empty)
def okNs (ns : List Str) : Bool := (List.range ns.length).all (okN ns)
def lookN (u : Cu) (ns : List Str) : Nat := if ns.length = u.claims.length then (if okNs ns then 2 else 1) else 0
theorem okNs_iff {ns : List Str} : okNs ns = true ↔ ∀ i, i < ns.length → okN ns i = true := by
  unfold okNs
  rw [List.all_eq_true]
  exact ⟨fun h i hi => h i (List.mem_range.mpr hi), fun h i hi => h i (List.mem_range.mp hi)⟩
theorem okN_at {ns : List Str} {i : Nat} {z : Str} (h : ns[i]? = some z) : okN ns i = (isNm z && !(ns.take i).contains z) := by
  unfold okN
  rw [List.getD_eq_getElem?_getD, h]
  rfl
def cLookN (C0 C1 : Addr) : Ct := fun ds k => ∃ (u : Cu) (dn : D) (ns : List Str), ds = [u.d, dn] ∧ SeqD dn (ns.map PyData.str) ∧ u.Ok ∧ ns.length ≤ 1000 ∧ (∀ z ∈ ns, z.length ≤ 90000) ∧ (lookN u ns = 0 → k.ex (.ref C0)) ∧ (lookN u ns = 1 → k.ex (.ref C1)) ∧ (lookN u ns = 2 → k.rt .none)
theorem lookN_v {C0 C1 : Addr} {u : Cu} {dn : D} {ns : List Str} (h1 : SeqD dn (ns.map PyData.str)) (h2 : u.Ok) (h3 : ns.length ≤ 1000) (h4 : ∀ z ∈ ns, z.length ≤ 90000) (h : lookN u ns = 2) : cLookN C0 C1 [u.d, dn] (kv .none) := ⟨u, dn, ns, rfl, h1, h2, h3, h4, (fun z => by rw [h] at z; cases z), (fun z => by rw [h] at z; cases z), fun _ => rfl⟩
theorem lookN_x1 {C0 C1 : Addr} {u : Cu} {dn : D} {ns : List Str} (h1 : SeqD dn (ns.map PyData.str)) (h2 : u.Ok) (h3 : ns.length ≤ 1000) (h4 : ∀ z ∈ ns, z.length ≤ 90000) (h : lookN u ns = 1) : cLookN C0 C1 [u.d, dn] (kx (.ref C1)) := ⟨u, dn, ns, rfl, h1, h2, h3, h4, (fun z => by rw [h] at z; cases z), (fun _ => rfl), (fun z => by rw [h] at z; cases z)⟩
theorem lookN_is (u : Cu) (ns : List Str) : lookN u ns = 0 ∨ lookN u ns = 1 ∨ lookN u ns = 2 := by
  unfold lookN
  split
  · split
    · exact .inr (.inr rfl)
    · exact .inr (.inl rfl)
  · exact .inl rfl
theorem lookN_2 {u : Cu} {ns : List Str} (h : lookN u ns = 2) : ns.length = u.claims.length ∧ okNs ns = true := by
  unfold lookN at h
  split at h
  · split at h
    · exact ⟨by assumption, by assumption⟩
    · cases h
  · cases h
end Pu
set_option maxRecDepth 100000
set_option maxHeartbeats 1000000
namespace Pu
open PySem PySem.Spec PyProof.Rows L2
/-! ### texts of plain signs -/
theorem asc_ok {z : Str} (h : asc z) : PyData.canLay0 (.str z) = true := by
  show z.cps.all (· < 0x110000) = true
  rw [Array.all_eq_true]
  intro i hi
  have := h z.cps[i] (by rw [← Array.getElem_toList hi]; exact List.getElem_mem _)
  exact decide_eq_true (by omega)
theorem asc_sh {z : Str} (h : asc z) : SeqAt.shaped (.str z) = true := by
  unfold SeqAt.shaped
  rw [Bool.and_eq_true]
  exact ⟨asc_ok h, rfl⟩
theorem low_asc {z : Str} (h : z.cps.toList.all lowB = true) : asc z := fun c hc => by
  have := List.all_eq_true.mp h c hc
  unfold lowB at this
  rw [Bool.and_eq_true, decide_eq_true_eq, decide_eq_true_eq] at this
  omega
theorem isNm_low {z : Str} (h : isNm z = true) : 1 ≤ z.length ∧ z.length ≤ 12 ∧ z.cps.toList.all lowB = true := by
  unfold isNm at h
  rw [Bool.and_eq_true, Bool.and_eq_true, decide_eq_true_eq, decide_eq_true_eq] at h
  exact ⟨h.1.1, h.1.2, h.2⟩
theorem isNm_of {z : Str} (h1 : 1 ≤ z.length) (h2 : z.length ≤ 12) (h3 : z.cps.toList.all lowB = true) : isNm z = true := by
  unfold isNm
  rw [h3, decide_eq_true h1, decide_eq_true h2]
  rfl
theorem isNm_asc {z : Str} (h : isNm z = true) : asc z := low_asc (isNm_low h).2.2
theorem asc_empty : asc Str.empty := fun c hc => nomatch hc
theorem asc_join {s : Str} (hs : asc s) : ∀ {xs : List Str}, (∀ x ∈ xs, asc x) → asc (Str.join s xs)
  | [], _ => asc_empty
  | [x], h => h x List.mem_cons_self
  | x :: y :: r, h => asc_cat (asc_cat (h x List.mem_cons_self) hs) (asc_join hs fun z hz => h z (List.mem_cons_of_mem _ hz))
theorem itS_asc {i : Int} (h : 0 ≤ i) : asc (itS i) := num_asc h
theorem asc_lit {z : Str} (h : (z.cps.toList.all fun c => decide (c < 128)) = true) : asc z := fun c hc => of_decide_eq_true (List.all_eq_true.mp h c hc)
theorem texts_asc (b : Bool) : ∀ (ks : List Cu) (ws : List Int) (ns : List Str), (∀ k ∈ ks, ∀ ns : List Str, (∀ z ∈ ns, asc z) → asc (k.text ns)) → (∀ w ∈ ws, 0 ≤ w) → (∀ z ∈ ns, asc z) → ∀ x ∈ Cu.texts b ks ws ns, asc x
  | [], _, _, _, _, _, x, hx => by unfold Cu.texts at hx; cases hx
  | k :: r, ws, ns, hk, hw, hn, x, hx => by
    unfold Cu.texts at hx
    rcases List.mem_cons.mp hx with rfl | hx
    · have h1 := hk k List.mem_cons_self ns hn
      unfold wk
      split
      · refine asc_cat (asc_cat (itS_asc ?_) (asc_lit (by decide +kernel))) h1
        cases ws with
        | nil => exact Int.le_refl _
        | cons w r => exact hw w List.mem_cons_self
      · exact h1
    · exact texts_asc b r ws.tail (ns.drop k.claims.length) (fun y hy => hk y (List.mem_cons_of_mem _ hy)) (fun w h => hw w (List.mem_of_mem_tail h)) (fun z h => hn z (List.mem_of_mem_drop h)) x hx
theorem text_asc : ∀ u : Cu, u.ok → ∀ ns : List Str, (∀ z ∈ ns, asc z) → asc (u.text ns) := fun u => Cu.ind (P := fun u => u.ok → ∀ ns : List Str, (∀ z ∈ ns, asc z) → asc (u.text ns)) (fun c h ns hn => by
  unfold Cu.text
  refine asc_cat (asc_cat ?_ (asc_lit (by decide +kernel))) (itS_asc h.1)
  cases ns with
  | nil => exact asc_empty
  | cons z r => exact hn z List.mem_cons_self) (fun y ws ks ih h ns hn => by
  unfold Cu.text
  have hw : ∀ w ∈ ws, 0 ≤ w := fun w hw => by
    have h3 := wfit_iff.mp h.1.2.2
    split at h3
    · have := h3.2 w hw
      omega
    · rw [h3] at hw
      cases hw
  exact asc_cat (asc_cat (asc_cat (asc_lit (by cases y <;> decide +kernel)) (asc_lit (by decide +kernel))) (asc_join (asc_lit (by decide +kernel)) (texts_asc y.wd ks ws ns (fun k hk => ih k hk (Cu.ok_kid h hk)) hw hn))) (asc_lit (by decide +kernel))) u
theorem strs_pickB (p : Str → Bool) (zs : List Str) (hb : zs.all p = true) {k : Int} (h0 : 0 ≤ k) (h1 : k < (zs.length : Int)) : ∃ y, atI (zs.map PyData.str) k = some (.str y) ∧ p y = true := by
  obtain ⟨m, rfl⟩ : ∃ m : Nat, k = (m : Int) := ⟨k.toNat, by omega⟩
  have hm : m < zs.length := by omega
  exact ⟨zs[m], atI_nat (by rw [List.getElem?_map, List.getElem?_eq_getElem hm]; rfl), List.all_eq_true.mp hb _ (List.getElem_mem hm)⟩
theorem low_pick {k : Int} (h0 : 0 ≤ k) (h1 : k < 26) : ∃ c, atI ("abcdefghijklmnopqrstuvwxyz" : Str).cps.toList k = some c ∧ lowB c = true := by
  obtain ⟨m, rfl⟩ : ∃ m : Nat, k = (m : Int) := ⟨k.toNat, by omega⟩
  have e : ("abcdefghijklmnopqrstuvwxyz" : Str).cps.toList.length = 26 := by decide +kernel
  have hm : m < ("abcdefghijklmnopqrstuvwxyz" : Str).cps.toList.length := by omega
  refine ⟨_, atI_nat (List.getElem?_eq_getElem hm), ?_⟩
  rw [← low_in]
  exact decide_eq_true (List.getElem_mem hm)
theorem low_snoc {z : Str} {c : Nat} (h : z.cps.toList.all lowB = true) (hc : lowB c = true) : (z ++ (⟨#[c]⟩ : Str)).cps.toList.all lowB = true := by
  have : (z ++ (⟨#[c]⟩ : Str)).cps.toList = z.cps.toList ++ [c] := by
    show (z.cps ++ #[c]).toList = _
    rw [Array.toList_append]
  rw [this, List.all_append, h]
  show (true && (lowB c && true)) = true
  rw [hc]
  rfl
/-! contracts of the laws of texts -/
def isNames (m : Nat) (ds : List D) : Prop := ∃ zs : List Str, ds = zs.map PyData.str ∧ zs.length = m ∧ ∀ z ∈ zs, isNm z = true
def cNames : Ct := fun ds k => ∃ (ns : List Int) (m : Nat), ds = [.list (ns.map PyData.int), .int (m : Int)] ∧ m ≤ 100 ∧ ∀ es, isNames m es → k.rl es
theorem names_v {ns : List Int} {m : Nat} (h : m ≤ 100) : cNames [.list (ns.map PyData.int), .int (m : Int)] ⟨fun _ => False, isNames m, fun _ => False⟩ := ⟨ns, m, rfl, h, fun _ h => h⟩
def cLText (n : Nat) : Ct := fun ds k => ∃ (u : Cu) (ns : List Str) (at_ : Nat), ds = [u.d, .list (ns.map PyData.str), .int (at_ : Int)] ∧ u.Ok ∧ u.deep ≤ n ∧ at_ + u.claims.length ≤ ns.length ∧ ns.length ≤ 1000 ∧ (∀ z ∈ ns, z.length ≤ 12) ∧ k.rt (.str (u.text (ns.drop at_)))
theorem lText_v {n : Nat} {u : Cu} {ns : List Str} {at_ : Nat} (h2 : u.Ok) (h3 : u.deep ≤ n) (h4 : at_ + u.claims.length ≤ ns.length) (h5 : ns.length ≤ 1000) (h6 : ∀ z ∈ ns, z.length ≤ 12) : cLText n [u.d, .list (ns.map PyData.str), .int (at_ : Int)] (kv (.str (u.text (ns.drop at_)))) := ⟨u, ns, at_, rfl, h2, h3, h4, h5, h6, rfl⟩
end Pu
set_option maxRecDepth 100000
set_option maxHeartbeats 1000000
namespace Pu
open PySem PySem.Spec PyProof.Rows L2
/-! ### objects of one's own -/
/-- a field's value: a datum, or an own list at p -/
inductive FV where
  | dat (d : D)
  | own (p : Addr) (ds : List D)
abbrev FF := Str → Option FV
def FF.put (F : FF) (f : Str) (x : FV) : FF := fun g => if g = f then some x else F g
def ObjP (K : Frag) (n : Nat) (C a dx : Addr) (own : List Addr) (F : FF) : Hp → Hp → Prop := fun R H => ∃ gs : List (Str × V), H a = some (.ins C dx gs) ∧ gs.length ≤ n ∧ (a :: own).Nodup ∧ (∀ f, F f = none → gs.lookup f = none) ∧
  (∀ f d, F f = some (.dat d) → ∃ v, gs.lookup f = some v ∧ Dp K R v d) ∧ (∀ f p ds, F f = some (.own p ds) → p ∈ own ∧ gs.lookup f = some (.ref p) ∧ ∃ ws, H p = some (.lst ws) ∧ DpAll K R ws ds) ∧
  (∀ f g p ds es, F f = some (.own p ds) → F g = some (.own p es) → f = g)
section
variable {K : Frag} {W : WX} {R0 H0 R H R' H' : Hp} {ρ ρ2 : En} {σ : L2.St} {te ty tv ta tb ti : TE} {ts : TS} {d : D} {ds es : List D} {ex : Value → En → Prop} {k : Ko} {i j n : Nat} {a dx C p : Addr} {own : List Addr} {F : FF} {f : Str} {v w : V} {S T : List Addr} {P Q : Hp → Hp → Prop}
theorem objP_stay : Stay (a :: own) (ObjP K n C a dx own F) := fun R H R' H' hr hk ⟨gs, h1, h2, h3, h4, h5, h6, h7⟩ => ⟨gs, hk a List.mem_cons_self _ h1, h2, h3, h4, fun f d e => by
  obtain ⟨v, q1, q2⟩ := h5 f d e
  exact ⟨v, q1, dp_mono hr _ _ q2⟩, fun f p ds e => by
  obtain ⟨q1, q2, ws, q3, q4⟩ := h6 f p ds e
  exact ⟨q1, q2, ws, hk p (List.mem_cons_of_mem _ q1) _ q3, dpa_mono hr _ _ q4⟩, h7⟩
/-- a field read -/
theorem ev_fld (e : ρ[i]? = some (.fact (.ref a) (a :: own) (ObjP K n C a dx own F))) (hF : F f = some (.dat d)) (hC : Cls K C) (hA : NoAttr K C f) : Ev K (tFld K (tVar i) f) ρ d := fun R0 H0 R σ H a' Q q => by
  obtain ⟨g1, g2, ⟨gs, h1, h2, h3, h4, h5, h6, h7⟩, g4⟩ := a'.fa.at_ i _ _ _ e
  obtain ⟨v, q1, q2⟩ := h5 f d hF
  exact ⟨_, g1, a, C, dx, gs, v, rfl, h1, hC, hA, q1, q v R H (Grow.refl a'.gr.sub) q2⟩
theorem evl_fld (e : ρ[i]? = some (.fact (.ref a) (a :: own) (ObjP K n C a dx own F))) (hF : F f = some (.own p ds)) (hC : Cls K C) (hA : NoAttr K C f) : EvL K (tFld K (tVar i) f) ρ ds := fun R0 H0 R σ H a' Q q => by
  obtain ⟨g1, g2, ⟨gs, h1, h2, h3, h4, h5, h6, h7⟩, g4⟩ := a'.fa.at_ i _ _ _ e
  obtain ⟨q1, q2, ws, q3, q4⟩ := h6 f p ds hF
  exact ⟨_, g1, a, C, dx, gs, _, rfl, h1, hC, hA, q2, q p ws R H (Grow.refl a'.gr.sub) (SqL.of q3) q4⟩
/-- an object asked for a method: no field of that name -/
theorem objP_meth {m : Str} (hF : F m = none) : ∀ R H, ObjP K n C a dx own F R H → ∃ a' dx fs, V.ref a = .ref a' ∧ H a' = some (.ins C dx fs) ∧ fs.lookup m = none := fun R H ⟨gs, h1, h2, h3, h4, _⟩ => ⟨a, dx, gs, rfl, h1, h4 m hF⟩
theorem put_same {F : FF} {f : Str} {x : FV} : F.put f x f = some x := if_pos rfl
theorem put_ne {F : FF} {f g : Str} {x : FV} (h : g ≠ f) : F.put f x g = F g := if_neg h
theorem putF_old {v : V} : ∀ {gs : List (Str × V)} {u : V}, gs.lookup f = some u → (putF f v gs).length = gs.length
  | [], u, h => by cases h
  | (g, x) :: r, u, h => by
    unfold putF
    split
    · rfl
    · rename_i z
      have hb : (f == g) = false := beq_eq_false_iff_ne.mpr fun y => z y.symm
      rw [List.lookup_cons, hb] at h
      rw [List.length_cons, List.length_cons, putF_old h]
/-- a field set to a datum -/
theorem objP_put {v : V} {m : Nat} (hp : ObjP K n C a dx own F R H) {gs : List (Str × V)} (hg : H a = some (.ins C dx gs)) (hm : (putF f v gs).length ≤ m) (hv : Dp K R v d) : ObjP K m C a dx own (F.put f (.dat d)) R (upd H a (.ins C dx (putF f v gs))) := by
  obtain ⟨gs', h1, h2, h3, h4, h5, h6, h7⟩ := hp
  rw [hg] at h1
  obtain rfl : gs = gs' := by cases h1; rfl
  refine ⟨_, upd_same, hm, h3, fun g e => ?_, fun g d' e => ?_, fun g p ds e => ?_, fun g g' p ds es e1 e2 => ?_⟩
  · by_cases z : g = f
    · rw [z, put_same] at e; cases e
    · rw [put_ne z] at e
      rw [lookup_putF, if_neg z]
      exact h4 g e
  · by_cases z : g = f
    · rw [z, put_same] at e
      cases e
      exact ⟨v, by rw [lookup_putF, if_pos z], hv⟩
    · rw [put_ne z] at e
      obtain ⟨u, q1, q2⟩ := h5 g d' e
      exact ⟨u, by rw [lookup_putF, if_neg z]; exact q1, q2⟩
  · by_cases z : g = f
    · rw [z, put_same] at e; cases e
    · rw [put_ne z] at e
      obtain ⟨q1, q2, ws, q3, q4⟩ := h6 g p ds e
      have npa : p ≠ a := fun y => (List.nodup_cons.mp h3).1 (by rw [← y]; exact q1)
      exact ⟨q1, by rw [lookup_putF, if_neg z]; exact q2, ws, by rw [upd_ne npa]; exact q3, q4⟩
  · by_cases z : g = f
    · rw [z, put_same] at e1; cases e1
    · by_cases z' : g' = f
      · rw [z', put_same] at e2; cases e2
      · rw [put_ne z] at e1
        rw [put_ne z'] at e2
        exact h7 g g' p ds es e1 e2
theorem objP_len {m : Nat} {v : V} (hp : ObjP K n C a dx own F R H) {gs : List (Str × V)} (hg : H a = some (.ins C dx gs)) (hm : if (F f).isSome then n ≤ m else n + 1 ≤ m) : (putF f v gs).length ≤ m := by
  obtain ⟨gs', h1, h2, h3, h4, h5, h6, h7⟩ := hp
  rw [hg] at h1
  obtain rfl : gs = gs' := by cases h1; rfl
  cases e : F f with
  | none =>
    rw [e] at hm
    have hm : n + 1 ≤ m := hm
    have := length_putF f v gs
    omega
  | some x =>
    rw [e] at hm
    have hm : n ≤ m := hm
    have : ∃ u, gs.lookup f = some u := by
      cases x with
      | dat d => obtain ⟨u, q, _⟩ := h5 f d e; exact ⟨u, q⟩
      | own p ds => obtain ⟨_, q, _⟩ := h6 f p ds e; exact ⟨_, q⟩
    obtain ⟨u, q⟩ := this
    rw [putF_old q]
    omega
theorem sd_fldD {m : Nat} (e : ρ[i]? = some (.fact (.ref a) (a :: own) (ObjP K n C a dx own F))) (h : Ev K tv ρ d) (hC : Cls K C) (hA : NoAttr K C f) (hn : n < 1000) (hm : if (F f).isSome then n ≤ m else n + 1 ≤ m) (hk : k.nx (ρ.set i (.fact (.ref a) (a :: own) (ObjP K m C a dx own (F.put f (.dat d)))))) : Sd K W ex (sFld K (tVar i) tv f) ρ k := fun R0 H0 ok R σ H a' D mm => h R0 H0 R σ H a' _ fun v R1 H1 g1 dv => by
  have a1 := a'.grow g1
  obtain ⟨s1, s2, s3, s4⟩ := a1.fa.at_ i _ _ _ e
  obtain ⟨gs, h1, h2, h3, h4, h5, h6, h7⟩ := id s3
  refine ⟨_, s1, a, C, dx, gs, rfl, h1, hC, hA, by omega, mm.nx _ R1 _ _ hk (a1.mut e (fun b o nb q => ?_) (fun x hx => ?_) objP_stay (objP_put s3 h1 (objP_len s3 h1 hm) dv))⟩
  · rw [upd_ne (fun z => nb (by rw [z]; exact List.mem_cons_self))]
    exact q
  · refine ⟨?_, .inl hx⟩
    by_cases z : x = a
    · rw [z, upd_same]; exact (fun z => nomatch z)
    · rw [upd_ne z]
      exact (s4 x hx).1
/-- the list of a field changed in place -/
theorem objP_lst {p : Addr} {ws : List V} {es : List D} (hp : ObjP K n C a dx own F R H) (hF : F f = some (.own p ds)) (hv : DpAll K R ws es) : ObjP K n C a dx own (F.put f (.own p es)) R (upd H p (.lst ws)) := by
  obtain ⟨gs, h1, h2, h3, h4, h5, h6, h7⟩ := hp
  obtain ⟨q1, q2, _⟩ := h6 f p ds hF
  have nap : a ≠ p := fun y => (List.nodup_cons.mp h3).1 (by rw [y]; exact q1)
  refine ⟨gs, by rw [upd_ne nap]; exact h1, h2, h3, fun g e => ?_, fun g d' e => ?_, fun g p' ds' e => ?_, fun g g' p' ds' es' e1 e2 => ?_⟩
  · by_cases z : g = f
    · rw [z, put_same] at e; cases e
    · rw [put_ne z] at e; exact h4 g e
  · by_cases z : g = f
    · rw [z, put_same] at e; cases e
    · rw [put_ne z] at e; exact h5 g d' e
  · by_cases z : g = f
    · rw [z, put_same] at e
      cases e
      rw [z]
      exact ⟨q1, q2, ws, upd_same, hv⟩
    · rw [put_ne z] at e
      obtain ⟨r1, r2, us, r3, r4⟩ := h6 g p' ds' e
      have npp : p' ≠ p := fun y => z (h7 g f p' ds' ds e (by rw [y]; exact hF))
      exact ⟨r1, r2, us, by rw [upd_ne npp]; exact r3, r4⟩
  · by_cases z : g = f
    · by_cases z' : g' = f
      · rw [z, z']
      · rw [z, put_same] at e1
        rw [put_ne z'] at e2
        cases e1
        rw [z]
        exact h7 f g' _ _ _ hF e2
    · by_cases z' : g' = f
      · rw [z', put_same] at e2
        rw [put_ne z] at e1
        cases e2
        rw [z']
        exact h7 g f _ _ _ e1 hF
      · rw [put_ne z] at e1
        rw [put_ne z'] at e2
        exact h7 g g' p' ds' es' e1 e2
theorem At.mut_lst {p : Addr} {ws : List V} {es : List D} (a' : At K R0 H0 R ρ σ H) (e : ρ[i]? = some (.fact (.ref a) (a :: own) (ObjP K n C a dx own F))) (hF : F f = some (.own p ds)) (hv : DpAll K R ws es) : At K R0 H0 R (ρ.set i (.fact (.ref a) (a :: own) (ObjP K n C a dx own (F.put f (.own p es))))) σ (upd H p (.lst ws)) := by
  obtain ⟨s1, s2, s3, s4⟩ := a'.fa.at_ i _ _ _ e
  obtain ⟨gs, h1, h2, h3, h4, h5, h6, h7⟩ := id s3
  obtain ⟨q1, q2, _⟩ := h6 f p ds hF
  refine a'.mut e (fun b o nb q => ?_) (fun x hx => ?_) objP_stay (objP_lst s3 hF hv)
  · rw [upd_ne (fun z => nb (by rw [z]; exact List.mem_cons_of_mem _ q1))]
    exact q
  · refine ⟨?_, .inl hx⟩
    by_cases z : x = p
    · rw [z, upd_same]; exact (fun z => nomatch z)
    · rw [upd_ne z]
      exact (s4 x hx).1
theorem sd_fldAppend (e : ρ[i]? = some (.fact (.ref a) (a :: own) (ObjP K n C a dx own F))) (hF : F f = some (.own p ds)) (h : Ev K te ρ d) (hC : Cls K C) (hA : NoAttr K C f) (hl : ds.length ≤ 100000) (hk : k.nx (ρ.set i (.fact (.ref a) (a :: own) (ObjP K n C a dx own (F.put f (.own p (ds ++ [d]))))))) : Sd K W ex (tDrop (tBM K "list" rAppend (tFld K (tVar i) f) (tCons te tNil))) ρ k := fun R0 H0 ok R σ H a' D mm => by
  obtain ⟨s1, s2, ⟨gs, h1, h2, h3, h4, h5, h6, h7⟩, s4⟩ := a'.fa.at_ i _ _ _ e
  obtain ⟨q1, q2, ws, q3, q4⟩ := h6 f p ds hF
  refine ⟨_, s1, a, C, dx, gs, _, rfl, h1, hC, hA, q2, .inl ⟨rfl, _, SqL.of q3⟩, h R0 H0 R σ H a' _ fun v R1 H1 g1 dv => ?_⟩
  refine ⟨p, ws, v, rfl, rfl, g1.hp _ _ q3, by rw [dpa_len q4]; exact Nat.lt_of_le_of_lt hl (by decide), mm.nx _ R1 _ _ hk ((a'.grow g1).mut_lst e hF (dpa_snoc (dpa_mono g1.rd _ _ q4) dv))⟩
end
end Pu
set_option maxRecDepth 100000
set_option maxHeartbeats 1000000
namespace Pu
open PySem PySem.Spec PyProof.Rows L2
/-! ### methods; objects made -/
structure MtAt (K : Frag) (C : Addr) (m qual : Str) (st : Stmt) (ps : List Str) (f : Addr) : Prop where
  at_ : Meth K C m f
  fn : ∃ fd, Fun K m qual st f fd ∧ Binds K fd ps []
structure InAt (K : Frag) (C : Addr) (qual : Str) (st : Stmt) (ps : List Str) (f : Addr) : Prop where
  at_ : Mk K C f
  fn : ∃ fd, Fun K "__init__" qual st f fd ∧ Binds K fd ps []
def OkM (P : Program) (w : World) (K : Frag) (mg : Str → Option Value) (base : Heap) (k : Nat) (C : Addr) (m : Str) (ps : List Str) (sp : Sp) : Prop :=
  ∃ f, Meth K C m f ∧ ∃ fd, Binds K fd ps [] ∧ FnOk P w K mg base (L2.CX P w) k f fd ps sp
def OkI (P : Program) (w : World) (K : Frag) (mg : Str → Option Value) (base : Heap) (k : Nat) (C : Addr) (ps : List Str) (sp : Sp) : Prop :=
  ∃ f, Mk K C f ∧ ∃ fd, Binds K fd ps [] ∧ FnOk P w K mg base (L2.CX P w) k f fd ps sp
def tMakeS (C : Addr) (sp : Sp) (E : L2.St → XK) (t : TA) : TE := fun σ H Q => t σ H fun vs H1 => ∀ x dx, H1 x = none → H1 dx = none → dx ≠ x → sp (.ref x :: vs) (upd (upd H1 dx (.own x)) x (.ins C dx [])) (fun v H2 => v = .non ∧ Q (.ref x) H2) (E σ)
section
variable {P : Program} {w : World} {K : Frag} {mg : Str → Option Value} {base : Heap}
theorem MtAt.okG {C : Addr} {m qual : Str} {st : Stmt} {ps N : List Str} {f : Addr} {k : Nat} (T : MtAt K C m qual st ps f) (S : FnScope N ps (defScope st)) (sp : Sp) (hl : ∀ vs H Q E, sp vs H Q E → vs.length = ps.length)
    (hbody : ∀ (cdv : Value) (A : Around) (outer : List Env) (s : Shared) (H : Hp) (vs : List V) (Q : VK) (E : XK), Room k (A.deeper (envOfC qual (defScope st) s.heap.objs.size f cdv)) → sp vs H Q E →
      ∃ t, PSs (cxOf (L2.CX P w) P w K mg base N qual (defScope st) f cdv A outer s H E) (defBody st) t ∧ t { nx := fun _ H' => Q .non H', rt := Q } (L2.start N vs) H) : OkM P w K mg base (k + 1) C m ps sp := by
  obtain ⟨g, fd, F, b⟩ := T
  exact ⟨f, g, fd, b, F.okX S hl hbody⟩
theorem InAt.okG {C : Addr} {qual : Str} {st : Stmt} {ps N : List Str} {f : Addr} {k : Nat} (T : InAt K C qual st ps f) (S : FnScope N ps (defScope st)) (sp : Sp) (hl : ∀ vs H Q E, sp vs H Q E → vs.length = ps.length)
    (hbody : ∀ (cdv : Value) (A : Around) (outer : List Env) (s : Shared) (H : Hp) (vs : List V) (Q : VK) (E : XK), Room k (A.deeper (envOfC qual (defScope st) s.heap.objs.size f cdv)) → sp vs H Q E →
      ∃ t, PSs (cxOf (L2.CX P w) P w K mg base N qual (defScope st) f cdv A outer s H E) (defBody st) t ∧ t { nx := fun _ H' => Q .non H', rt := Q } (L2.start N vs) H) : OkI P w K mg base (k + 1) C ps sp := by
  obtain ⟨g, fd, F, b⟩ := T
  exact ⟨f, g, fd, b, F.okX S hl hbody⟩
end
section
variable {X : Cx} {k : Nat} {C : Addr} {ps : List Str} {sp : Sp} {W : WX} {x m : Str} {p pos apos : Pos} {e o : Expr} {es : List Expr} {ta : TE} {t : TA}
theorem pe_mk (o : OkI X.prog X.w X.K X.mg X.base k C ps sp) (hr : Room (k + 1) X.A) (tk : Takes X W) (hg : Gl X x) (hm : X.mg x = some (.ref C)) (ha : PA X (e :: es) t)
    (hdb : (x == ("__debug__" : Str)) = false := by decide) (he : starEach (e :: es) X.env = (false, eval e X.env) :: starEach es X.env := by rfl) (hpl : (backTo pos (starEach es X.env)).any (·.1) = false := by rfl) :
    PE X (.Call (.Name x p) (e :: es) [] pos) (tMakeS C sp (WE W) t) := by
  obtain ⟨f, M, fd, hb, F⟩ := o
  refine ⟨fun pins s σ H Q I h => ?_⟩
  refine wpAny_Call_Name_kw (ld_glob I hg hm ?_ hdb)
  refine PySem.W.callWith_K (h₀ := X.base) I.ok.mod.kin M.kp (thn (ha.run pos pins s σ H _ I h) fun us s1 ⟨vs, H1, I1, r, q⟩ => ⟨I1.kIn, ?_⟩) he hpl
  have hq := q (s1.heap.objs.size + 1) s1.heap.objs.size (I1.hok.fresh (Nat.le_succ _)) (I1.hok.fresh (Nat.le_refl _)) (Nat.ne_of_lt (Nat.lt_succ_self _))
  have I2 := Inv.made (C := C) I1
  have r2 : Vals (V.ref (s1.heap.objs.size + 1) :: vs) (Value.ref (s1.heap.objs.size + 1) :: us) := .cons rfl r
  have hl : (Value.ref (s1.heap.objs.size + 1) :: us).length = ps.length := by
    rw [← r2.length]
    exact F.len _ _ _ _ hq
  have b := hb _ (Value.ref (s1.heap.objs.size + 1) :: us) I2.kIn (by rw [List.append_nil]; exact hl)
  rw [List.append_nil] at b
  refine wpAny_call (make_map (f := f) I1.kIn M.makes M.init (beq_iff_eq.mp M.fn) (codeAny_mono (F.run _ X.stack _ _ ⟨Value.ref (s1.heap.objs.size + 1) :: us, []⟩ (Value.ref (s1.heap.objs.size + 1) :: us) _ _ (WE W σ) (hr.make C us []) (I2.env0.make C us []) b r2 hq) fun r s' hq' => ?_))
  cases r with
  | error e => exact passAt tk σ pins _ _ e s' I2 hq'
  | ok fl =>
    cases fl with
    | ret u =>
      obtain ⟨v, H', I3, rv, ev, q3⟩ := I2.after hq'
      subst ev
      exact ⟨rv, ⟨V.ref (s1.heap.objs.size + 1), H', I3, rfl, q3⟩⟩
    | next => exact False.elim hq'
    | brk => exact False.elim hq'
    | cont => exact False.elim hq'
end
end Pu
set_option maxRecDepth 100000
set_option maxHeartbeats 1000000
namespace Pu
open PySem PySem.Spec PyProof.Rows L2
/-! ### objects made, fields that are new lists -/
section
variable {K : Frag} {W : WX} {R0 H0 R H R' H' : Hp} {ρ ρ' : En} {σ σ' : L2.St} {s f : Sl} {v w : V} {i j n : Nat} {d : D} {ds es : List D} {S T : List Addr} {P Q : Hp → Hp → Prop} {p a dx C : Addr} {vs : List V} {te tv : TE} {ta : TA} {c : Cg} {own : List Addr} {F : FF} {g : Str} {ex : Value → En → Prop} {k : Ko}
theorem At.snoc_un (a : At K R0 H0 R ρ σ H) : At K R0 H0 R (ρ ++ [.un]) (σ ++ [none]) H := by
  have hl := a.len
  refine a.sel id (fun x y _ _ e => e) (by simp [hl]) (fun x t e => ?_)
  by_cases hx : x < ρ.length
  · rw [List.getElem?_append_left hx] at e
    exact .inr ⟨e, by show _ = σ[x]?; rw [List.getElem?_append_left (by omega)]⟩
  · rw [List.getElem?_append_right (by omega)] at e
    refine .inl ?_
    cases hx2 : x - ρ.length with
    | zero => rw [hx2] at e; exact (Option.some.inj e).symm
    | succ n => rw [hx2] at e; simp at e
theorem set_last (ρ : En) (x y : Sl) : (ρ ++ [x]).set ρ.length y = ρ ++ [y] := by rw [List.set_append_right _ _ (Nat.le_refl _), Nat.sub_self]; rfl
theorem set_lastS {σ : L2.St} {m : Nat} (h : σ.length = m) (x y : Option V) : (σ ++ [x]).set m y = σ ++ [y] := by rw [List.set_append_right _ _ (by omega), show m - σ.length = 0 by omega]; rfl
theorem get_last (ρ : En) (x : Sl) : (ρ ++ [x])[ρ.length]? = some x := by rw [List.getElem?_append_right (Nat.le_refl _), Nat.sub_self]; rfl
theorem get_lastS {σ : L2.St} {m : Nat} (h : σ.length = m) (x : Option V) : (σ ++ [x])[m]? = some x := by rw [List.getElem?_append_right (by omega), show m - σ.length = 0 by omega]; rfl
/-- two facts made one -/
theorem At.fuse {S' : List Addr} {P' : Hp → Hp → Prop} (a : At K R0 H0 R (ρ ++ [.fact w T Q]) (σ ++ [some w]) H) (hl : σ.length = ρ.length) (e : ρ[i]? = some (.fact v S P)) (hS : ∀ c ∈ S', c ∈ S ∨ c ∈ T) (hst : Stay S' P') (hp : P' R H) : At K R0 H0 R (ρ.set i (.fact v S' P')) σ H := by
  have hi := (List.getElem?_eq_some_iff.mp e).1
  have e0 : (ρ ++ [.fact w T Q] : En)[i]? = some (.fact v S P) := by rw [List.getElem?_append_left hi]; exact e
  have eT : (ρ ++ [.fact w T Q] : En)[ρ.length]? = some (.fact w T Q) := get_last _ _
  have up : ∀ {x : Nat} {u : Sl}, ρ[x]? = some u → (ρ ++ [.fact w T Q] : En)[x]? = some u ∧ (σ ++ [some w])[x]? = σ[x]? := fun {x u} q => by
    have hx := (List.getElem?_eq_some_iff.mp q).1
    exact ⟨by rw [List.getElem?_append_left hx]; exact q, List.getElem?_append_left (by omega)⟩
  have key : ∀ {x : Nat} {u : Sl}, (ρ.set i (.fact v S' P'))[x]? = some u → (x ≠ i ∧ ρ[x]? = some u) ∨ (x = i ∧ u = .fact v S' P') := fun {x u} q => by
    by_cases hx : i = x
    · subst hx
      rw [List.getElem?_set_self hi] at q
      exact .inr ⟨rfl, (Option.some.inj q).symm⟩
    · rw [List.getElem?_set_ne hx] at q
      exact .inl ⟨fun z => hx z.symm, q⟩
  obtain ⟨g1, g2, g3, g4⟩ := a.fa.at_ i _ _ _ e0
  obtain ⟨t1, t2, t3, t4⟩ := a.fa.at_ _ _ _ _ eT
  have nf : ∀ {x : Nat} {u : V} {U : List Addr} {M : Hp → Hp → Prop}, x ≠ i → ρ[x]? = some (.fact u U M) → ∀ c ∈ U, c ∉ S' := fun {x u U M} nx q c hc hs => by
    have hx := (List.getElem?_eq_some_iff.mp q).1
    rcases hS c hs with z | z
    · exact a.fa.two x i u v U S M P nx (up q).1 e0 c hc z
    · exact a.fa.two x ρ.length u w U T M Q (by omega) (up q).1 eT c hc z
  have no : ∀ {x : Nat} {es : List D} {p : Addr}, ρ[x]? = some (.own es) → σ[x]? = some (some (.ref p)) → p ∉ S' := fun {x es p} q s hs => by
    have s' : (σ ++ [some w])[x]? = some (some (.ref p)) := by rw [(up q).2]; exact s
    rcases hS p hs with z | z
    · exact a.fa.off i x v S P es p e0 (up q).1 s' z
    · exact a.fa.off ρ.length x w T Q es p eT (up q).1 s' z
  refine ⟨a.gr, by rw [List.length_set]; exact hl, fun x d q => ?_, fun x es q => ?_, fun x u q => ?_, fun x y p ds es n e1 e2 s1 => ?_, ⟨fun x u U M q => ?_, fun x y u U M ds p e1 e2 s1 => ?_, fun x y u u2 U U2 M M2 n e1 e2 => ?_⟩⟩
  · rcases key q with ⟨_, q⟩ | ⟨_, z⟩
    · obtain ⟨y, h1, h2⟩ := a.val x d (up q).1
      exact ⟨y, by rw [← (up q).2]; exact h1, h2⟩
    · cases z
  · rcases key q with ⟨_, q⟩ | ⟨_, z⟩
    · obtain ⟨y, us, h1, h2⟩ := a.own x es (up q).1
      exact ⟨y, us, by rw [← (up q).2]; exact h1, h2⟩
    · cases z
  · rcases key q with ⟨_, q⟩ | ⟨_, z⟩
    · rw [← (up q).2]; exact a.raw x u (up q).1
    · cases z
  · rcases key e1 with ⟨_, e1⟩ | ⟨_, z⟩
    · rcases key e2 with ⟨_, e2⟩ | ⟨_, z⟩
      · rw [← (up e2).2]
        exact a.apart x y p ds es n (up e1).1 (up e2).1 (by rw [(up e1).2]; exact s1)
      · cases z
    · cases z
  · rcases key q with ⟨_, q⟩ | ⟨rfl, z⟩
    · rw [← (up q).2]; exact a.fa.at_ x u U M (up q).1
    · cases z
      refine ⟨by rw [← (up e).2]; exact g1, hst, hp, fun c hc => ?_⟩
      rcases hS c hc with z | z
      · exact g4 c z
      · exact t4 c z
  · rcases key e2 with ⟨_, e2⟩ | ⟨_, z⟩
    · rcases key e1 with ⟨_, e1⟩ | ⟨_, z⟩
      · exact a.fa.off x y u U M ds p (up e1).1 (up e2).1 (by rw [(up e2).2]; exact s1)
      · cases z
        exact no e2 s1
    · cases z
  · rcases key e1 with ⟨m1, e1⟩ | ⟨h1, z⟩
    · rcases key e2 with ⟨m2, e2⟩ | ⟨_, z⟩
      · exact a.fa.two x y u u2 U U2 M M2 n (up e1).1 (up e2).1
      · cases z
        exact nf m1 e1
    · rcases key e2 with ⟨m2, e2⟩ | ⟨h2, _⟩
      · cases z
        exact fun c hc hc2 => nf m2 e2 c hc2 hc
      · exact absurd (h1.trans h2.symm) n
/-- a field set to a new list -/
theorem sd_fldO {m : Nat} (e : ρ[i]? = some (.fact (.ref a) (a :: own) (ObjP K n C a dx own F))) (h : EvF K tv ρ ds) (hC : Cls K C) (hA : NoAttr K C g) (hn : n < 1000) (hm : if (F g).isSome then n ≤ m else n + 1 ≤ m) (hk : ∀ p, k.nx (ρ.set i (.fact (.ref a) (a :: p :: own) (ObjP K m C a dx (p :: own) (F.put g (.own p ds)))))) : Sd K W ex (sFld K (tVar i) tv g) ρ k := fun R0 H0 ok R σ H a' D mm => h R0 H0 R σ H a' _ fun p vs R1 H1 g1 hn1 hr hp dv => by
  have hl := a'.len
  have hi := (List.getElem?_eq_some_iff.mp e).1
  have a1 := a'.grow g1
  obtain ⟨s1, s2, s3, s4⟩ := a1.fa.at_ i _ _ _ e
  obtain ⟨gs, h1, h2, h3, h4, h5, h6, h7⟩ := id s3
  refine ⟨_, s1, a, C, dx, gs, rfl, h1, hC, hA, by omega, mm.nx _ R1 _ _ (hk p) ?_⟩
  have hno : p ∉ a :: own := fun z => ((a'.fa.at_ i _ _ _ e).2.2.2 p z).1 hn1
  have npa : p ≠ a := fun z => hno (by rw [z]; exact List.mem_cons_self)
  -- p beside the slots, as a fact
  have b1 := a1.snoc_own (ds := ds) hp dv hr (a'.gr.hp.free hn1) (fun j fs q z => by
    obtain ⟨p2, vs2, q1, q2, _⟩ := a'.own j fs q
    rw [z] at q1
    cases q1
    rw [hn1] at q2
    cases q2) (fun j v S P q z => ((a'.fa.at_ j v S P q).2.2.2 p z).1 hn1)
  have b2 := b1.own_fact (get_last _ _) (p := p) (get_lastS hl _)
  rw [set_last] at b2
  -- the object written
  have eo : (ρ ++ [.fact (.ref p) [p] (ListP K p ds)] : En)[i]? = some (.fact (.ref a) (a :: own) (ObjP K n C a dx own F)) := by rw [List.getElem?_append_left hi]; exact e
  have b3 := b2.mut (H' := upd H1 a (.ins C dx (putF g (.ref p) gs))) (S' := a :: own) (P' := fun _ _ => True) eo (fun b o nb q => by
    rw [upd_ne (fun z => nb (by rw [z]; exact List.mem_cons_self))]
    exact q) (fun x hx => by
    refine ⟨?_, .inl hx⟩
    by_cases z : x = a
    · rw [z, upd_same]; exact (fun z => nomatch z)
    · rw [upd_ne z]
      exact (s4 x hx).1) (fun _ _ _ _ _ _ _ => trivial) trivial
  rw [List.set_append_left _ _ hi] at b3
  have b4 := b3.fuse (S' := a :: p :: own) (P' := ObjP K m C a dx (p :: own) (F.put g (.own p ds))) (by rw [List.length_set]; exact hl) (List.getElem?_set_self hi) (fun c hc => by
    rcases List.mem_cons.mp hc with rfl | hc
    · exact .inl List.mem_cons_self
    · rcases List.mem_cons.mp hc with rfl | hc
      · exact .inr List.mem_cons_self
      · exact .inl (List.mem_cons_of_mem _ hc)) objP_stay ?_
  · rw [List.set_set] at b4
    exact b4
  refine ⟨_, upd_same, objP_len s3 h1 hm, List.nodup_cons.mpr ⟨fun z => ?_, List.nodup_cons.mpr ⟨fun z => hno (List.mem_cons_of_mem _ z), (List.nodup_cons.mp h3).2⟩⟩, fun f e => ?_, fun f d e => ?_, fun f q es e => ?_, fun f f' q es es' e1 e2 => ?_⟩
  · rcases List.mem_cons.mp z with z | z
    · exact npa z.symm
    · exact (List.nodup_cons.mp h3).1 z
  · by_cases z : f = g
    · rw [z, put_same] at e; cases e
    · rw [put_ne z] at e
      rw [lookup_putF, if_neg z]
      exact h4 f e
  · by_cases z : f = g
    · rw [z, put_same] at e; cases e
    · rw [put_ne z] at e
      obtain ⟨u, q1, q2⟩ := h5 f d e
      exact ⟨u, by rw [lookup_putF, if_neg z]; exact q1, q2⟩
  · by_cases z : f = g
    · rw [z, put_same] at e
      cases e
      exact ⟨List.mem_cons_self, by rw [lookup_putF, if_pos z], vs, by rw [upd_ne npa]; exact hp, dv⟩
    · rw [put_ne z] at e
      obtain ⟨q1, q2, ws, q3, q4⟩ := h6 f q es e
      have nqa : q ≠ a := fun y => (List.nodup_cons.mp h3).1 (by rw [← y]; exact q1)
      exact ⟨List.mem_cons_of_mem _ q1, by rw [lookup_putF, if_neg z]; exact q2, ws, by rw [upd_ne nqa]; exact q3, q4⟩
  · by_cases z : f = g
    · by_cases z' : f' = g
      · rw [z, z']
      · rw [z, put_same] at e1
        rw [put_ne z'] at e2
        cases e1
        exact absurd (List.mem_cons_of_mem _ (h6 f' _ _ e2).1) hno
    · by_cases z' : f' = g
      · rw [z', put_same] at e2
        rw [put_ne z] at e1
        cases e2
        exact absurd (List.mem_cons_of_mem _ (h6 f _ _ e1).1) hno
      · rw [put_ne z] at e1
        rw [put_ne z'] at e2
        exact h7 f f' q es es' e1 e2
/-- an object made -/
theorem evg_make {k : Addr → Addr → Kg} (ha : EvA K ta ρ ds) (hc : ∀ x dx, c (.fact (.ref x) [x] (ObjP K 0 C x dx [] (fun _ => none)) :: ds.map Sl.val) (k x dx)) (hf : ∀ x dx f s, (k x dx).rt f s → Handed (.ref x) f ∧ s = .val .none) (hx : ∀ x dx y f, (k x dx).ex y f → Handed (.ref x) f) :
    EvG K W (tMakeS C (spG K c) (WE W) ta) ρ (fun ρ' => ∃ x dx f, (k x dx).rt f (.val .none) ∧ ρ' = ρ ++ [f]) (fun y ρ' => (∃ x dx f, (k x dx).ex y f) ∧ ρ' = ρ) := fun R0 H0 R σ H a Q q qx => ha R0 H0 R σ H a _ fun vs R1 H1 g dv => by
  intro x dx nx ndx ne
  have hl := a.len
  have a1 := a.grow g
  have g1 : Grow R1 H1 R1 (upd H1 dx (.own x)) := Grow.hide g.sub ndx
  have nx1 : (upd H1 dx (.own x)) x = none := by rw [upd_ne (Ne.symm ne)]; exact nx
  have g2 : Grow R1 H1 R1 (upd (upd H1 dx (.own x)) x (.ins C dx [])) := g1.trans (Grow.hide g1.sub nx1)
  have b1 := (a1.snoc_un).new_fact (v := .ref x) (S := [x]) (P := ObjP K 0 C x dx [] (fun _ => none)) g2 (i := ρ.length) (by simp) (fun c hc => by
    obtain rfl := List.mem_singleton.mp hc
    exact ⟨nx, (by rw [upd_same]; exact (fun z => nomatch z)), g.sub.free nx⟩) objP_stay ⟨[], upd_same, Nat.le_refl _, by simp, (fun _ _ => rfl), (fun _ _ e => nomatch e), (fun _ _ _ e => nomatch e), (fun _ _ _ _ _ e => nomatch e)⟩
  rw [set_last, set_lastS hl] at b1
  have hi : (ρ ++ [.fact (.ref x) [x] (ObjP K 0 C x dx [] (fun _ => none))] : En)[ρ.length]? = some (.fact (.ref x) [x] (ObjP K 0 C x dx [] (fun _ => none))) := get_last _ _
  have r : ArgR K R1 (.fact (.ref x) [x] (ObjP K 0 C x dx [] (fun _ => none)) :: ds.map Sl.val) (.ref x :: vs) := (argR_vals dv).fact
  have hone : ∀ j v S' P', (.fact (.ref x) [x] (ObjP K 0 C x dx [] (fun _ => none)) :: ds.map Sl.val : En)[j]? = some (.fact v S' P') → j = 0 ∧ v = .ref x ∧ S' = [x] ∧ P' = ObjP K 0 C x dx [] (fun _ => none) := fun j v S' P' e => by
    cases j with
    | zero =>
      cases (Option.some.inj e)
      exact ⟨rfl, rfl, rfl, rfl⟩
    | succ j =>
      rw [List.getElem?_cons_succ, List.getElem?_map] at e
      cases q : ds[j]? with
      | none => rw [q] at e; cases e
      | some d => rw [q] at e; cases e
  refine ⟨R1, offH _ [x], _, k x dx, at_lend (h := 0) b1 hi r hone, hc x dx, fun f s w v R' H' hr b => ?_, fun y f w R' H' he b => ?_⟩
  · obtain ⟨hh, rfl⟩ := hf x dx f s hr
    obtain ⟨u, u1, u2⟩ := b.val 1 .none rfl
    have : v = .non := by
      have := Option.some.inj (Option.some.inj u1)
      rw [this]
      cases u2
      rfl
    have b2 := b1.give hi b hh
    rw [set_last] at b2
    exact ⟨this, q _ R' _ H' ⟨x, dx, f, hr, rfl⟩ (g.rd.trans b.gr.rd) (b2.unsnoc (by simp [hl]))⟩
  · have b2 := b1.giveX hi b (hx x dx y f he)
    rw [set_last] at b2
    exact qx y _ R' H' ⟨⟨x, dx, f, he⟩, rfl⟩ (b2.unsnoc hl)
end
end Pu
set_option maxRecDepth 100000
set_option maxHeartbeats 1000000
namespace Pu
open PySem PySem.Spec PyProof.Rows L2
section
variable {X : Cx} {K : Frag} {o e value : Expr} {f : Str} {pos pos' tpos : Pos} {ta tv : TE}
theorem b_fld (he : PE X e ta) (hb : attributeBase e f X.env (eval e X.env) = eval e X.env) (hK : X.K = K := by rfl) : PE X (.Attribute e f pos) (tFld K ta f) := by subst hK; exact pe_fld he hb
theorem b_sfld (ha : PE X o ta) (hv : PE X value tv) (hs : swapsWith value (some (.Attribute o f pos')) pos.line X.env = pure false) (hK : X.K = K := by rfl) : PS X (.Assign [.Attribute o f pos'] value pos) (sFld K ta tv f) := by subst hK; exact ps_fld ha hv hs
end
theorem spG_no {K : Frag} {c : Cg} {vs : List V} {H : Hp} {Q : VK} {E : XK} (h : spG K c vs H Q E) (hn : ∀ ρ k, c ρ k → False) : False := by
  obtain ⟨_, _, ρ, k, _, hc, _⟩ := h
  exact hn ρ k hc
/-- while, the measure told beside the slots -/
theorem sd_whileN {K : Frag} {W : WX} {ρ : En} {tt : TT} {tb : TS} {ex : Value → En → Prop} {k : Ko} (Inv : Nat → En → Prop) (m0 : Nat) (h0 : Inv m0 ρ)
    (hs : ∀ m ρ', Inv m ρ' → ∃ b, EvT K tt ρ' b ∧ (b = true → Sd K W ex tb ρ' { k with nx := fun r => ∃ m', m' < m ∧ Inv m' r, ct := fun r => ∃ m', m' < m ∧ Inv m' r, bk := k.nx }) ∧ (b = false → k.nx ρ')) : Sd K W ex (tWhile tt tb) ρ k := fun R0 H0 ok R σ H a D m => by
  refine ⟨fun n σ' H' => ∃ ρ' R', Inv n ρ' ∧ At K R0 H0 R' ρ' σ' H', ⟨m0, ρ, R, h0, a⟩, ?_⟩
  rintro n σ' H' ⟨ρ', R', w, a'⟩
  obtain ⟨b, hb, h1, h2⟩ := hs n ρ' w
  refine hb R0 H0 R' σ' H' a' _ fun R2 H2 g2 => ?_
  have a2 := a'.grow g2
  cases b with
  | true =>
    refine iteT ⟨fun σ3 H3 => ∃ ρ3 R3, (∃ m', m' < n ∧ Inv m' ρ3) ∧ At K R0 H0 R3 ρ3 σ3 H3, fun σ3 H3 ⟨ρ3, R3, ⟨m', l3, w3⟩, a3⟩ => ⟨m', l3, ρ3, R3, w3, a3⟩, ?_⟩
    exact h1 rfl R0 H0 ok R2 σ' H2 a2 _ ⟨fun r R3 σ3 H3 q a3 => ⟨r, R3, q, a3⟩, m.rt, m.rl, m.nx, fun r R3 σ3 H3 q a3 => ⟨r, R3, q, a3⟩, m.rg⟩
  | false => exact iteF (m.nx _ _ _ _ (h2 rfl) a2)
/-! ### the reader of texts -/
def RdF (t : Str) (n : Nat) (p : Addr) (zs : List Str) : FF := fun f => if f = "text" then some (.dat (.str t)) else if f = "spot" then some (.dat (.int (n : Int))) else if f = "called" then some (.own p (zs.map PyData.str)) else none
def RdS (K : Frag) (C a dx p : Addr) (t : Str) (n : Nat) (zs : List Str) : Sl := .fact (.ref a) [a, p] (ObjP K 3 C a dx [p] (RdF t n p zs))
theorem st_ : ¬ (("spot" : Str) = "text") := by decide +kernel
theorem ct_ : ¬ (("called" : Str) = "text") := by decide +kernel
theorem cs_ : ¬ (("called" : Str) = "spot") := by decide +kernel
theorem rdF_text {t : Str} {n : Nat} {p : Addr} {zs : List Str} : RdF t n p zs "text" = some (.dat (.str t)) := if_pos rfl
theorem rdF_spot {t : Str} {n : Nat} {p : Addr} {zs : List Str} : RdF t n p zs "spot" = some (.dat (.int (n : Int))) := by unfold RdF; rw [if_neg st_, if_pos rfl]
theorem rdF_called {t : Str} {n : Nat} {p : Addr} {zs : List Str} : RdF t n p zs "called" = some (.own p (zs.map PyData.str)) := by unfold RdF; rw [if_neg ct_, if_neg cs_, if_pos rfl]
theorem rdF_no {t : Str} {n : Nat} {p : Addr} {zs : List Str} {m : Str} (h1 : ¬ m = "text") (h2 : ¬ m = "spot") (h3 : ¬ m = "called") : RdF t n p zs m = none := by unfold RdF; rw [if_neg h1, if_neg h2, if_neg h3]
theorem rdF_put {t : Str} {n m : Nat} {p : Addr} {zs : List Str} : (RdF t n p zs).put "spot" (.dat (.int (m : Int))) = RdF t m p zs := by
  funext g
  unfold FF.put
  by_cases h : g = "spot"
  · rw [if_pos h, h, rdF_spot]
  · rw [if_neg h]
    unfold RdF
    rw [if_neg h, if_neg h]
theorem rdF_call {t : Str} {n : Nat} {p : Addr} {zs ys : List Str} : (RdF t n p zs).put "called" (.own p (ys.map PyData.str)) = RdF t n p ys := by
  funext g
  unfold FF.put
  by_cases h : g = "called"
  · rw [if_pos h, h, rdF_called]
  · rw [if_neg h]
    unfold RdF
    rw [if_neg h, if_neg h]
/-- the signs from n on that are among s -/
def runL (s : Str) : List Nat → Nat
  | [] => 0
  | c :: r => if c ∈ s.cps.toList then 1 + runL s r else 0
def runEnd (t s : Str) (n : Nat) : Nat := n + runL s (t.cps.toList.drop n)
def subS (t : Str) (i j : Nat) : Str := ⟨((t.cps.toList.drop i).take (j - i)).toArray⟩
theorem runL_le (s : Str) : ∀ l : List Nat, runL s l ≤ l.length
  | [] => Nat.le_refl _
  | c :: r => by
    unfold runL
    split
    · have := runL_le s r
      rw [List.length_cons]
      omega
    · omega
def meetsB (t s : Str) (n : Nat) : Bool := decide (subS t n (n + s.length) = s)
def cInitR (K : Frag) (C : Addr) : Cg := fun ρ k => ∃ (x dx : Addr) (t : Str), ρ = [.fact (.ref x) [x] (ObjP K 0 C x dx [] (fun _ => none)), .val (.str t)] ∧ ∀ p, k.rt (RdS K C x dx p t 0 []) (.val .none)
def cRunOf (K : Frag) (C : Addr) : Cg := fun ρ k => ∃ (x dx p : Addr) (t s : Str) (n : Nat) (zs : List Str), ρ = [RdS K C x dx p t n zs, .val (.str s)] ∧ n ≤ t.length ∧ t.length ≤ 90000 ∧ k.rt (RdS K C x dx p t (runEnd t s n) zs) (.val (.str (subS t n (runEnd t s n))))
def cMeets (K : Frag) (C : Addr) : Cg := fun ρ k => ∃ (x dx p : Addr) (t s : Str) (n : Nat) (zs : List Str), ρ = [RdS K C x dx p t n zs, .val (.str s)] ∧ n ≤ t.length ∧ t.length ≤ 90000 ∧ s.length ≤ 100 ∧ asc t ∧ asc s ∧ k.rt (RdS K C x dx p t (if meetsB t s n then n + s.length else n) zs) (.val (.bool (meetsB t s n)))
def cMust (K : Frag) (C C0 : Addr) : Cg := fun ρ k => ∃ (x dx p : Addr) (t s : Str) (n : Nat) (zs : List Str), ρ = [RdS K C x dx p t n zs, .val (.str s)] ∧ n ≤ t.length ∧ t.length ≤ 90000 ∧ s.length ≤ 100 ∧ asc t ∧ asc s ∧ (meetsB t s n = true → k.rt (RdS K C x dx p t (n + s.length) zs) (.val .none)) ∧ (meetsB t s n = false → k.ex (.ref C0) (RdS K C x dx p t n zs))
theorem sub_cut {t : Str} {i j : Nat} (hi : i ≤ t.length) : cutS t (some (i : Int)) (some (j : Int)) = subS t i j := by
  have hl : t.cps.toList.length = t.length := Array.length_toList
  show (⟨((t.cps.toList.drop (HT.sIx t.length 0 (some (i : Int)))).take (HT.sIx t.length t.length (some (j : Int)) - HT.sIx t.length 0 (some (i : Int)))).toArray⟩ : Str) = _
  have e1 : HT.sIx t.length 0 (some (i : Int)) = i := by
    show (if (i : Int) < 0 then ((i : Int) + (t.length : Int)).toNat else min (i : Int).toNat t.length) = i
    rw [if_neg (by omega)]
    omega
  have e2 : HT.sIx t.length t.length (some (j : Int)) = min j t.length := by
    show (if (j : Int) < 0 then ((j : Int) + (t.length : Int)).toNat else min (j : Int).toNat t.length) = _
    rw [if_neg (by omega), Int.toNat_natCast]
  rw [e1, e2]
  unfold subS
  congr 2
  by_cases h : j ≤ t.length
  · rw [Nat.min_eq_left h]
  · rw [Nat.min_eq_right (by omega), List.take_of_length_le (by rw [List.length_drop]; omega), List.take_of_length_le (by rw [List.length_drop]; omega)]
theorem sub_len {t : Str} {i j : Nat} : (subS t i j).length ≤ j - i := by
  show ((t.cps.toList.drop i).take (j - i)).toArray.size ≤ _
  rw [List.size_toArray, List.length_take]
  omega
theorem asc_sub {t : Str} (h : asc t) (i j : Nat) : asc (subS t i j) := fun c hc => h c (List.mem_of_mem_drop (List.mem_of_mem_take (by simpa [subS] using hc)))
theorem run_step {t s : Str} {n : Nat} {c : Nat} (hc : t.cps.toList[n]? = some c) : runEnd t s n = if c ∈ s.cps.toList then runEnd t s (n + 1) else n := by
  unfold runEnd
  have hn := getElem?_lt hc
  have e : t.cps.toList.drop n = c :: t.cps.toList.drop (n + 1) := by
    rw [List.drop_eq_getElem_cons hn]
    congr 1
    rw [List.getElem?_eq_getElem hn] at hc
    exact Option.some.inj hc
  rw [e]
  have e2 : runL s (c :: t.cps.toList.drop (n + 1)) = if c ∈ s.cps.toList then 1 + runL s (t.cps.toList.drop (n + 1)) else 0 := rfl
  rw [e2]
  split
  · omega
  · omega
theorem run_end {t s : Str} {n : Nat} (hn : t.length ≤ n) : runEnd t s n = n := by
  unfold runEnd
  rw [List.drop_eq_nil_of_le (by rw [show t.cps.toList.length = t.length from Array.length_toList]; exact hn)]
  rfl
theorem run_le {t s : Str} {n : Nat} (hn : n ≤ t.length) : n ≤ runEnd t s n ∧ runEnd t s n ≤ t.length := by
  have h := runL_le s (t.cps.toList.drop n)
  rw [List.length_drop, show t.cps.toList.length = t.length from Array.length_toList] at h
  unfold runEnd
  omega
end Pu
set_option maxRecDepth 100000
set_option maxHeartbeats 1000000
namespace Pu
open PySem PySem.Spec PyProof.Rows L2
/-! ### what a reader reads -/
abbrev LET : Str := "abcdefghijklmnopqrstuvwxyz"
abbrev FIG : Str := "0123456789"
abbrev PRes := Option (Cu × Nat × List Str)
/-- a number at n: its value, the place behind it -/
def numAt (t : Str) (n : Nat) : Option (Int × Nat) := if okNum (subS t n (runEnd t FIG n)) then some (numOf (subS t n (runEnd t FIG n)), runEnd t FIG n) else none
/-- a weight at n and a blank -/
def wgtAt (t : Str) (n : Nat) : Option (Int × Nat) := match numAt t n with
  | none => none
  | some (v, m) => if meetsB t " " m then some (v, m + 1) else none
/-- what a knot is made of -/
def knotR (w : Str) (ws : List Int) (ks : List Cu) (n : Nat) (zs : List Str) : PRes := if knotC w ws ks = 4 then some (.knot (wyOf w) ws ks, n, zs) else none
def parseK (Pd : Nat → List Str → PRes) (t w : Str) : Nat → Nat → List Str → List Int → List Cu → PRes
  | 0, _, _, _, _ => none
  | f + 1, n, zs, ws, ks => match (if WEIGHEDL.contains w then wgtAt t n else some (0, n)) with
    | none => none
    | some (v, m) => match Pd m zs with
      | none => none
      | some (k, m2, zs2) => if meetsB t ", " m2 then parseK Pd t w f (m2 + 2) zs2 (if WEIGHEDL.contains w then ws ++ [v] else ws) (ks ++ [k]) else
        if meetsB t ")" m2 then knotR w (if WEIGHEDL.contains w then ws ++ [v] else ws) (ks ++ [k]) (m2 + 1) zs2 else none
/-- the custom written at n, d knots deep at most (and its boats' names behind zs) -/
def parse (t : Str) : Nat → Nat → List Str → PRes
  | d, n, zs =>
    if meetsB t ":" (runEnd t LET n) then
      match numAt t (runEnd t LET n + 1) with
      | none => none
      | some (v, m) => if v ≤ 1000000000 then some (.boat v, m, zs ++ [subS t n (runEnd t LET n)]) else none
    else if meetsB t "(" (runEnd t LET n) then
      match d with
      | 0 => none
      | d + 1 => parseK (parse t d) t (subS t n (runEnd t LET n)) (t.length + 1) (runEnd t LET n + 1) zs [] []
    else none
theorem meets_at {t s : Str} {n : Nat} (h : meetsB t s n = true) (hn : n ≤ t.length) : n + s.length ≤ t.length := by
  have e : subS t n (n + s.length) = s := of_decide_eq_true h
  have hl : (subS t n (n + s.length)).length = s.length := by rw [e]
  have h2 : ((t.cps.toList.drop n).take (n + s.length - n)).toArray.size = s.length := hl
  rw [List.size_toArray, List.length_take, List.length_drop, show t.cps.toList.length = t.length from Array.length_toList] at h2
  omega
theorem colon_len : (":" : Str).length = 1 := by decide +kernel
theorem open_len : ("(" : Str).length = 1 := by decide +kernel
theorem close_len : (")" : Str).length = 1 := by decide +kernel
theorem blank_len : (" " : Str).length = 1 := by decide +kernel
theorem comma_len : (", " : Str).length = 2 := by decide +kernel
theorem numAt_ok {t : Str} {n m : Nat} {v : Int} (h : numAt t n = some (v, m)) (hn : n ≤ t.length) : n ≤ m ∧ m ≤ t.length ∧ 0 ≤ v := by
  unfold numAt at h
  split at h
  · cases h
    have := run_le (s := FIG) hn
    exact ⟨this.1, this.2, Int.natCast_nonneg _⟩
  · cases h
theorem wgtAt_ok {t : Str} {n m : Nat} {v : Int} (h : wgtAt t n = some (v, m)) (hn : n ≤ t.length) : n ≤ m ∧ m ≤ t.length := by
  unfold wgtAt at h
  cases e : numAt t n with
  | none => rw [e] at h; cases h
  | some q =>
    obtain ⟨v', m'⟩ := q
    rw [e] at h
    obtain ⟨h1, h2, _⟩ := numAt_ok e hn
    have h : (if meetsB t " " m' then some (v', m' + 1) else none) = some (v, m) := h
    split at h
    · rename_i hm
      cases h
      have := meets_at hm h2
      rw [blank_len] at this
      omega
    · cases h
/-- a parser's word on what it reads -/
def PdOk (t : Str) (Pd : Nat → List Str → PRes) : Prop := ∀ n zs u m ys, n ≤ t.length → Pd n zs = some (u, m, ys) → n < m ∧ m ≤ t.length ∧ ys.length ≤ zs.length + (m - n) ∧ u.Ok
theorem parseK_ok {t w : Str} {Pd : Nat → List Str → PRes} (hP : PdOk t Pd) : ∀ (f n : Nat) (zs : List Str) (ws : List Int) (ks : List Cu) (u : Cu) (m : Nat) (ys : List Str), n ≤ t.length → (∀ k ∈ ks, k.Ok) → parseK Pd t w f n zs ws ks = some (u, m, ys) → n < m ∧ m ≤ t.length ∧ ys.length ≤ zs.length + (m - n) ∧ u.Ok
  | 0, _, _, _, _, _, _, _, _, _, h => by cases h
  | f + 1, n, zs, ws, ks, u, m, ys, hn, hks, h => by
    unfold parseK at h
    cases e1 : (if WEIGHEDL.contains w then wgtAt t n else some (0, n)) with
    | none => rw [e1] at h; cases h
    | some q =>
      obtain ⟨v, m1⟩ := q
      have hm1 : n ≤ m1 ∧ m1 ≤ t.length := by
        split at e1
        · exact wgtAt_ok e1 hn
        · cases e1
          exact ⟨Nat.le_refl _, hn⟩
      rw [e1] at h
      cases e2 : Pd m1 zs with
      | none => simp only [e2] at h; cases h
      | some q =>
        obtain ⟨k, m2, zs2⟩ := q
        simp only [e2] at h
        obtain ⟨a1, a2, a3, a4⟩ := hP m1 zs k m2 zs2 hm1.2 e2
        have hks2 : ∀ x ∈ ks ++ [k], x.Ok := fun x hx => by
          rcases List.mem_append.mp hx with hx | hx
          · exact hks x hx
          · obtain rfl := List.mem_singleton.mp hx
            exact a4
        by_cases c1 : meetsB t ", " m2 = true
        · rw [if_pos c1] at h
          have hb := meets_at c1 a2
          rw [comma_len] at hb
          obtain ⟨b1, b2, b3, b4⟩ := parseK_ok hP f (m2 + 2) zs2 _ (ks ++ [k]) u m ys hb hks2 h
          exact ⟨by omega, b2, by omega, b4⟩
        · rw [if_neg c1] at h
          by_cases c2 : meetsB t ")" m2 = true
          · rw [if_pos c2] at h
            have hb := meets_at c2 a2
            rw [close_len] at hb
            generalize (if WEIGHEDL.contains w then ws ++ [v] else ws) = ws2 at h
            unfold knotR at h
            split at h
            · rename_i h4
              cases h
              refine ⟨by omega, hb, by omega, ?_⟩
              obtain ⟨y, rfl⟩ : ∃ y : Wy, w = y.s := way_cases (by
                unfold knotC at h4
                split at h4
                · rename_i z
                  exact z
                · cases h4)
              rw [wyOf_s]
              exact knotC_made h4 hks2
            · cases h
          · rw [if_neg c2] at h
            cases h
theorem parse_ok (t : Str) : ∀ d : Nat, PdOk t (parse t d) := fun d => by
  induction d with
  | zero =>
    intro n zs u m ys hn h
    have hr := run_le (s := LET) hn
    unfold parse at h
    split at h
    · rename_i c1
      have hb := meets_at c1 hr.2
      rw [colon_len] at hb
      cases e : numAt t (runEnd t LET n + 1) with
      | none => simp only [e] at h; cases h
      | some q =>
        obtain ⟨v, m1⟩ := q
        simp only [e] at h
        obtain ⟨a1, a2, a3⟩ := numAt_ok e hb
        split at h
        · cases h
          exact ⟨by omega, a2, by rw [List.length_append]; show zs.length + 1 ≤ _; omega, ⟨⟨a3, by assumption⟩, by show 1 ≤ 12; decide, by show 1 ≤ 8; decide⟩⟩
        · cases h
    · split at h
      · cases h
      · cases h
  | succ d ih =>
    intro n zs u m ys hn h
    have hr := run_le (s := LET) hn
    unfold parse at h
    split at h
    · rename_i c1
      have hb := meets_at c1 hr.2
      rw [colon_len] at hb
      cases e : numAt t (runEnd t LET n + 1) with
      | none => simp only [e] at h; cases h
      | some q =>
        obtain ⟨v, m1⟩ := q
        simp only [e] at h
        obtain ⟨a1, a2, a3⟩ := numAt_ok e hb
        split at h
        · cases h
          exact ⟨by omega, a2, by rw [List.length_append]; show zs.length + 1 ≤ _; omega, ⟨⟨a3, by assumption⟩, by show 1 ≤ 12; decide, by show 1 ≤ 8; decide⟩⟩
        · cases h
    · split at h
      · rename_i c2
        have hb := meets_at c2 hr.2
        rw [open_len] at hb
        obtain ⟨b1, b2, b3, b4⟩ := parseK_ok ih _ _ _ _ _ _ _ _ hb (fun k hk => by cases hk) h
        exact ⟨by omega, b2, by omega, b4⟩
      · cases h
end Pu
set_option maxRecDepth 100000
set_option maxHeartbeats 1000000
namespace Pu
open PySem PySem.Spec PyProof.Rows L2
/-! ### calls of what a lent thing tells -/
section
variable {K : Frag} {W : WX} {ρ : En} {te : TE} {ds : List D} {ex : Value → En → Prop} {k : Ko} {i : Nat} {P : En → Prop} {X : Value → En → Prop} {c : Ct}
theorem evg_call1 (kd : En → D → Kc) (h : EvG K W te ρ P X) (hP : ∀ ρ', P ρ' → ∃ ρ1 d, ρ' = ρ1 ++ [.val d] ∧ ρ1.length = ρ.length ∧ c [d] (kd ρ1 d) ∧ ∀ es, ¬ (kd ρ1 d).rl es) :
    EvG K W (tCallS (spc K c) (WE W) (tCons te tNil)) ρ (fun ρ' => ∃ ρ1 d d', P (ρ1 ++ [.val d]) ∧ ρ1.length = ρ.length ∧ (kd ρ1 d).rt d' ∧ ρ' = ρ1 ++ [.val d']) (fun y ρ' => X y ρ' ∨ ∃ d, P (ρ' ++ [.val d]) ∧ (kd ρ' d).ex y) := fun R0 H0 R σ H a Q q qx =>
  h R0 H0 R σ H a _ (fun ρ' R' v H' p s a' => by
    obtain ⟨ρ1, d, rfl, hl, hc, hn⟩ := hP ρ' p
    obtain ⟨v', g1, g2⟩ := a'.val ρ1.length d (by rw [List.getElem?_append_right (Nat.le_refl _), Nat.sub_self]; rfl)
    rw [List.getElem?_append_right (by rw [a.len, hl]; exact Nat.le_refl _), a.len, hl, Nat.sub_self] at g1
    have e : v' = v := (Option.some.inj (Option.some.inj g1)).symm
    subst e
    have a2 := a'.unsnoc (by rw [a.len, hl])
    exact ⟨R', [d], kd ρ1 d, a'.gr.sub, .cons g2 .nil, hc, fun d' v2 R2 H2 hr g dv => q _ R2 v2 H2 ⟨ρ1, d, d', p, hl, hr, rfl⟩ (s.trans g.rd) ((a2.grow g).snoc dv), fun es _ _ _ _ hr => absurd hr (hn es), fun y R2 H2 hx g => qx y ρ1 R2 H2 (.inr ⟨d, p, hx⟩) (a2.grow g)⟩) fun y ρ' R' H' p a' => qx y ρ' R' H' (.inl p) a'
theorem sd_appendG (e : ρ[i]? = some (.own ds)) (hl : ds.length ≤ 100000) (h : EvG K W te ρ P X) (hk : ∀ ρ', P ρ' → ∃ ρ1 d, ρ' = ρ1 ++ [.val d] ∧ ρ1.length = ρ.length ∧ ρ1[i]? = some (.own ds) ∧ k.nx (ρ1.set i (.own (ds ++ [d])))) (hx : ∀ c ρ', X c ρ' → ex c ρ') : Sd K W ex (tDrop (tBM K "list" rAppend (tVar i) (tCons te tNil))) ρ k := fun R0 H0 ok R σ H a D m => by
  obtain ⟨p, vs, h1, h2, h3, h4, h5⟩ := a.own i ds e
  refine ⟨_, h1, .inl ⟨rfl, _, SqL.of h2⟩, h R0 H0 R σ H a _ (fun ρ' R' v H' q s a' => ?_) fun c ρ' R' H' q a' => ok c ρ' R' σ H' (hx c ρ' q) a'⟩
  obtain ⟨ρ1, d, rfl, hl1, e1, hn⟩ := hk ρ' q
  obtain ⟨v', g1, g2⟩ := a'.val ρ1.length d (by rw [List.getElem?_append_right (Nat.le_refl _), Nat.sub_self]; rfl)
  rw [List.getElem?_append_right (by rw [a.len, hl1]; exact Nat.le_refl _), a.len, hl1, Nat.sub_self] at g1
  have ev : v' = v := (Option.some.inj (Option.some.inj g1)).symm
  subst ev
  have a2 := a'.unsnoc (by rw [a.len, hl1])
  obtain ⟨p2, us, q1, q2, q3, q4, q5⟩ := a2.own i ds e1
  rw [h1] at q1
  obtain rfl : p = p2 := by cases q1; rfl
  exact ⟨p, us, _, rfl, rfl, q2, by rw [dpa_len q3]; exact Nat.lt_of_le_of_lt hl (by decide), m.nx _ R' _ _ hn (a2.put e1 h1 (dpa_snoc q3 g2))⟩
end
/-! ### the reader's contract -/
def cHere (K : Frag) (CR : Addr) (Cs : List Addr) (dd : Nat) : Cg := fun ρ k => ∃ (x dx p : Addr) (t : Str) (n d deep : Nat) (zs : List Str), ρ = [RdS K CR x dx p t n zs, .val (.int (deep : Int))] ∧ deep + d = 8 ∧ d < dd ∧ n ≤ t.length ∧ t.length ≤ 90000 ∧ asc t ∧ zs.length ≤ n ∧
  (∀ u m ys, parse t d n zs = some (u, m, ys) → k.rt (RdS K CR x dx p t m ys) (.val u.d)) ∧ (parse t d n zs = none → ∀ C ∈ Cs, ∀ m ys, k.ex (.ref C) (RdS K CR x dx p t m ys))
theorem no_here {K : Frag} {CR : Addr} {Cs : List Addr} {ρ : En} {k : Kg} (h : cHere K CR Cs 0 ρ k) : False := by
  obtain ⟨_, _, _, _, _, d, _, _, _, _, h, _⟩ := h
  omega
end Pu
set_option maxRecDepth 100000
set_option maxHeartbeats 1000000
namespace Pu
open PySem PySem.Spec PyProof.Rows L2
/-! ### reading what was written -/
theorem itS_list (n : Nat) : (itS (n : Int)).cps.toList = TL.numL n := TL.tl_num n
theorem fig_of {c : Nat} : c ∈ FIG.cps.toList ↔ 48 ≤ c ∧ c ≤ 57 := by
  have h := dig_in c
  constructor
  · intro q
    have e : decide (c ∈ ("0123456789" : Str).cps.toList) = true := decide_eq_true q
    rw [h, Bool.and_eq_true, decide_eq_true_eq, decide_eq_true_eq] at e
    exact e
  · intro q
    have e : (decide (48 ≤ c) && decide (c ≤ 57)) = true := by rw [decide_eq_true q.1, decide_eq_true q.2]; rfl
    rw [← h] at e
    exact of_decide_eq_true e
end Pu
set_option maxRecDepth 100000
set_option maxHeartbeats 1000000
namespace Pu
open PySem PySem.Spec PyProof.Rows L2
/-! ### a field's list handed to a call that keeps nothing of it -/
section
variable {K : Frag} {W : WX} {ρ : En} {t1 : TE} {d1 : D} {ds : List D} {i n : Nat} {a dx C p : Addr} {own : List Addr} {F : FF} {f : Str} {c : Ct} {kk : Kc}
theorem evg_callFld (e : ρ[i]? = some (.fact (.ref a) (a :: own) (ObjP K n C a dx own F))) (hF : F f = some (.own p ds)) (hC : Cls K C) (hA : NoAttr K C f) (h1 : Ev K t1 ρ d1) (hc : c [d1, .list ds] kk) (hrt : ∀ d', kk.rt d' → noL d' = true) (hrl : ∀ es, ¬ kk.rl es) :
    EvG K W (tCallS (spc K c) (WE W) (tCons t1 (tCons (tFld K (tVar i) f) tNil))) ρ (fun ρ' => ∃ d', kk.rt d' ∧ ρ' = ρ ++ [.val d']) (fun x ρ' => kk.ex x ∧ ρ' = ρ) := fun R0 H0 R σ H a' Q q qx => h1 R0 H0 R σ H a' _ fun v1 R1 H1 g1 dv1 => by
  have a1 := a'.grow g1
  obtain ⟨s1, s2, ⟨gs, b1, b2, b3, b4, b5, b6, b7⟩, s4⟩ := a1.fa.at_ i _ _ _ e
  obtain ⟨q1, q2, ws, q3, q4⟩ := b6 f p ds hF
  have hpS : p ∈ a :: own := List.mem_cons_of_mem _ q1
  have hno : ∀ x ∈ [p], R1 x = none := fun x hx => by rw [List.mem_singleton.mp hx]; exact (s4 p hpS).2.1
  have rr : Same R1 (showR R1 H1 [p]) := same_show hno
  have back : ∀ {R2 H2 : Hp}, Grow (showR R1 H1 [p]) H1 R2 H2 → Grow R1 H1 (hideR R2 [p]) H2 := fun {R2 H2} g => ⟨fun x o e => by
    have hx : x ∉ [p] := fun z => by rw [hno x z] at e; cases e
    rw [hideR_ne hx]
    exact g.rd x o (by rw [showR_ne hx]; exact e), g.hp, fun x o e => by
    by_cases hx : x ∈ [p]
    · rw [hideR_in hx] at e; cases e
    · rw [hideR_ne hx] at e
      exact g.sub x o e, fun x e n => by
    by_cases hx : x ∈ [p]
    · rw [hideR_in hx] at n; exact absurd rfl n
    · rw [hideR_ne hx] at n
      exact g.new x (by rw [showR_ne hx]; exact e) n⟩
  refine ⟨_, s1, a, C, dx, gs, _, rfl, b1, hC, hA, q2, showR R1 H1 [p], [d1, .list ds], kk, show_sub a1.gr.sub, .cons (dp_mono rr _ _ dv1) (.cons (.lst (SqL.of (by rw [showR_in List.mem_cons_self]; exact q3)) (dpa_mono rr _ _ q4)) .nil), hc, fun d' v R2 H2 hr g dv => ?_, fun es _ _ _ _ hr => absurd hr (hrl es), fun x R2 H2 hx g => ?_⟩
  · have g2 := back g
    exact q _ _ v H2 ⟨d', hr, rfl⟩ (g1.rd.trans g2.rd) ((a1.grow g2).snoc (dp_hideN (hrt d' hr) [p] (fun x hx => by
      rw [List.mem_singleton.mp hx]
      exact .inr ⟨ws, g.rd p _ (by rw [showR_in List.mem_cons_self]; exact q3)⟩) dv))
  · exact qx x _ _ H2 ⟨hx, rfl⟩ (a1.grow (back g))
end
end Pu
set_option maxRecDepth 100000
set_option maxHeartbeats 1000000
namespace Pu
open PySem PySem.Spec PyProof.Rows L2
/-! ### a pair with a new list in it -/
def Tup2P (K : Frag) (t : Addr) (d0 : D) (p : Addr) (ds : List D) : Hp → Hp → Prop := fun R H => ∃ v0 vs, R t = some (.tup [v0, .ref p]) ∧ Dp K R v0 d0 ∧ H p = some (.lst vs) ∧ DpAll K R vs ds
theorem tup2P_stay {K : Frag} {t p : Addr} {d0 : D} {ds : List D} : Stay [p] (Tup2P K t d0 p ds) := fun R H R' H' hr hk ⟨v0, vs, h1, h2, h4, h5⟩ => ⟨v0, vs, hr _ _ h1, dp_mono hr _ _ h2, hk p List.mem_cons_self _ h4, dpa_mono hr _ _ h5⟩
section
variable {K : Frag} {W : WX} {ρ : En} {ta tb : TE} {d0 : D} {ds : List D} {ex : Value → En → Prop} {k : Ko}
theorem sd_retT2 (h0 : Ev K ta ρ d0) (h1 : EvF K tb ρ ds) (hk : ∀ t p, k.rg (ρ ++ [.fact (.ref t) [p] (Tup2P K t d0 p ds)])) : Sd K W ex (tRet (tTup (tCons ta (tCons tb tNil)))) ρ k := fun R0 H0 ok R σ H a D m =>
  h0 R0 H0 R σ H a _ fun v0 R1 H1 g1 e0 => h1 R0 H0 R1 σ H1 (a.grow g1) _ fun p vs R2 H2 g2 hn hr hp dv => by
    have hl := a.len
    have a1 := a.grow g1
    have a2 := a1.grow g2
    refine ⟨Nat.le_of_ble_eq_true rfl, fun t ht => ?_⟩
    have b1 := a2.snoc_own (ds := ds) hp dv hr (a1.gr.hp.free hn) (fun j fs q z => by
      obtain ⟨p2, vs2, q1, q2, _⟩ := a1.own j fs q
      rw [z] at q1
      cases q1
      rw [hn] at q2
      cases q2) (fun j v S P q z => ((a1.fa.at_ j v S P q).2.2.2 p z).1 hn)
    have b2 := b1.own_fact (get_last _ _) (p := p) (get_lastS hl _)
    rw [set_last] at b2
    have g3 := Grow.alloc (o := .tup [v0, .ref p]) a2.gr.sub ht
    have b3 := (b2.grow g3).snoc_fact (i := ρ.length) (v := .ref t) (get_last _ _) (tup2P_stay (K := K) (t := t) (d0 := d0) (p := p) (ds := ds)) ⟨v0, vs, upd_same, dp_mono (g2.rd.trans g3.rd) _ _ e0, g3.hp _ _ hp, dpa_mono g3.rd _ _ dv⟩
    rw [set_last] at b3
    exact m.rg _ _ _ σ _ (hk t p) (b3.skip hl)
end
end Pu
set_option maxRecDepth 100000
set_option maxHeartbeats 1000000
namespace Pu
open PySem PySem.Spec PyProof.Rows L2
/-! ### a call that tells a new pair, taken as a value -/
section
variable {K : Frag} {W : WX} {ρ : En} {ta : TA} {d0 : D} {ds es : List D} {c : Cg} {k : Kg} {E : L2.St → XK}
theorem ev_callT2 (ha : EvA K ta ρ ds) (hc : c (ds.map Sl.val) k) (hr : ∀ f s, k.rt f s → ∃ t p, s = .fact (.ref t) [p] (Tup2P K t d0 p es)) (hx : ∀ x f, ¬ k.ex x f) : Ev K (tCallS (spG K c) E ta) ρ (.tuple [d0, .list es]) := fun R0 H0 R σ H a Q q => ha R0 H0 R σ H a _ fun vs R1 H1 g1 dv => by
  have a1 := a.grow g1
  have hll := dpa_len dv
  refine ⟨R1, H1, ds.map Sl.val, k, ?_, hc, fun f s w' v R' H' hr' b => ?_, fun y f w' R' H' he b => absurd he (hx y f)⟩
  · have := at_start (K := K) (N := List.replicate ds.length (Str.ofString "")) g1.sub dv
    rw [List.length_replicate, Nat.sub_self, List.replicate_zero, List.append_nil] at this
    unfold L2.start at this
    rw [List.length_replicate, hll, Nat.sub_self, List.replicate_zero, List.append_nil] at this
    exact this
  · obtain ⟨t, p, rfl⟩ := hr f s hr'
    obtain ⟨u1, _, ⟨v0, us, t1, t2, t3, t4⟩, u4⟩ := b.fa.at_ 1 _ _ _ rfl
    have ev : v = .ref t := Option.some.inj (Option.some.inj u1)
    subst ev
    obtain ⟨_, r0, n0⟩ := u4 p List.mem_cons_self
    have gs := b.gr.show_ n0 t3
    have rr : Same R' (upd R' p (.lst us)) := same_upd r0
    exact q _ _ H' (g1.trans gs) (.tup (SqT.of (rr _ _ t1)) (.cons (dp_mono rr _ _ t2) (.cons (.lst (SqL.of upd_same) (dpa_mono rr _ _ t4)) .nil)))
end
/-! ### what read tells -/
def readR (t : Str) : Option (Cu × List Str) := match parse t 7 0 [] with
  | none => none
  | some (u, m, ys) => if m = t.length ∧ lookN u ys = 2 then some (u, ys) else none
def cRead (K : Frag) (C0 : Addr) : Cg := fun ρ k => ∃ t : Str, ρ = [.val (.str t)] ∧ t.length ≤ 90000 ∧ asc t ∧ (∀ u ys, readR t = some (u, ys) → ∀ tt p, k.rt .un (.fact (.ref tt) [p] (Tup2P K tt u.d p (ys.map PyData.str)))) ∧ (readR t = none → k.ex (.ref C0) .un)
/-- a parser tells just as many names as there are boats -/
def PdN (Pd : Nat → List Str → PRes) : Prop := ∀ n zs u m ys, Pd n zs = some (u, m, ys) → ∃ xs, ys = zs ++ xs ∧ xs.length = u.claims.length
theorem parseK_names {t w : Str} {Pd : Nat → List Str → PRes} (hP : PdN Pd) : ∀ (f n : Nat) (zs : List Str) (ws : List Int) (ks : List Cu) (u : Cu) (m : Nat) (ys : List Str), parseK Pd t w f n zs ws ks = some (u, m, ys) → ∃ xs, ys = zs ++ xs ∧ (Cu.claimsL ks).length + xs.length = u.claims.length
  | 0, _, _, _, _, _, _, _, h => by cases h
  | f + 1, n, zs, ws, ks, u, m, ys, h => by
    unfold parseK at h
    cases e1 : (if WEIGHEDL.contains w then wgtAt t n else some (0, n)) with
    | none => rw [e1] at h; cases h
    | some q =>
      obtain ⟨v, m1⟩ := q
      rw [e1] at h
      cases e2 : Pd m1 zs with
      | none => simp only [e2] at h; cases h
      | some q =>
        obtain ⟨k, m2, zs2⟩ := q
        simp only [e2] at h
        obtain ⟨xs, rfl, hx⟩ := hP m1 zs k m2 zs2 e2
        have hcl : (Cu.claimsL (ks ++ [k])).length = (Cu.claimsL ks).length + k.claims.length := by
          rw [Cu.claimsL_append, List.length_append]
          congr 1
          show (k.claims ++ []).length = _
          rw [List.append_nil]
        by_cases c1 : meetsB t ", " m2 = true
        · rw [if_pos c1] at h
          obtain ⟨xs2, rfl, h2⟩ := parseK_names hP f (m2 + 2) (zs ++ xs) _ (ks ++ [k]) u m ys h
          exact ⟨xs ++ xs2, List.append_assoc _ _ _, by rw [List.length_append]; omega⟩
        · rw [if_neg c1] at h
          by_cases c2 : meetsB t ")" m2 = true
          · rw [if_pos c2] at h
            generalize (if WEIGHEDL.contains w then ws ++ [v] else ws) = ws2 at h
            unfold knotR at h
            split at h
            · cases h
              exact ⟨xs, rfl, by show _ = (Cu.claimsL (ks ++ [k])).length; omega⟩
            · cases h
          · rw [if_neg c2] at h
            cases h
theorem parse_names (t : Str) : ∀ d : Nat, PdN (parse t d) := fun d => by
  induction d with
  | zero =>
    intro n zs u m ys h
    unfold parse at h
    split at h
    · cases e : numAt t (runEnd t LET n + 1) with
      | none => simp only [e] at h; cases h
      | some q =>
        obtain ⟨v, m1⟩ := q
        simp only [e] at h
        split at h
        · cases h
          exact ⟨_, rfl, rfl⟩
        · cases h
    · split at h <;> cases h
  | succ d ih =>
    intro n zs u m ys h
    unfold parse at h
    split at h
    · cases e : numAt t (runEnd t LET n + 1) with
      | none => simp only [e] at h; cases h
      | some q =>
        obtain ⟨v, m1⟩ := q
        simp only [e] at h
        split at h
        · cases h
          exact ⟨_, rfl, rfl⟩
        · cases h
    · split at h
      · obtain ⟨xs, e, hx⟩ := parseK_names ih _ _ _ _ _ _ _ _ h
        exact ⟨xs, e, by rw [← hx]; show _ = 0 + _; omega⟩
      · cases h
/-- the names are pieces of the text -/
theorem sub_short {t : Str} {i j : Nat} : (subS t i j).length ≤ t.length := by
  show ((t.cps.toList.drop i).take (j - i)).toArray.size ≤ _
  rw [List.size_toArray, List.length_take, List.length_drop, show t.cps.toList.length = t.length from Array.length_toList]
  omega
def PdS (t : Str) (Pd : Nat → List Str → PRes) : Prop := ∀ n zs u m ys, Pd n zs = some (u, m, ys) → ∀ w ∈ ys, w ∈ zs ∨ w.length ≤ t.length
theorem parseK_short {t w : Str} {Pd : Nat → List Str → PRes} (hP : PdS t Pd) : ∀ (f n : Nat) (zs : List Str) (ws : List Int) (ks : List Cu) (u : Cu) (m : Nat) (ys : List Str), parseK Pd t w f n zs ws ks = some (u, m, ys) → ∀ w ∈ ys, w ∈ zs ∨ w.length ≤ t.length
  | 0, _, _, _, _, _, _, _, h => by cases h
  | f + 1, n, zs, ws, ks, u, m, ys, h => by
    unfold parseK at h
    cases e1 : (if WEIGHEDL.contains w then wgtAt t n else some (0, n)) with
    | none => rw [e1] at h; cases h
    | some q =>
      obtain ⟨v, m1⟩ := q
      rw [e1] at h
      cases e2 : Pd m1 zs with
      | none => simp only [e2] at h; cases h
      | some q =>
        obtain ⟨k, m2, zs2⟩ := q
        simp only [e2] at h
        have h1 := hP m1 zs k m2 zs2 e2
        by_cases c1 : meetsB t ", " m2 = true
        · rw [if_pos c1] at h
          have h2 := parseK_short hP f (m2 + 2) zs2 _ (ks ++ [k]) u m ys h
          intro x hx
          rcases h2 x hx with z | z
          · exact h1 x z
          · exact .inr z
        · rw [if_neg c1] at h
          by_cases c2 : meetsB t ")" m2 = true
          · rw [if_pos c2] at h
            generalize (if WEIGHEDL.contains w then ws ++ [v] else ws) = ws2 at h
            unfold knotR at h
            split at h
            · cases h
              exact h1
            · cases h
          · rw [if_neg c2] at h
            cases h
theorem boat_short {t : Str} {n : Nat} {zs : List Str} {u : Cu} {m : Nat} {ys : List Str} (h : (match numAt t (runEnd t LET n + 1) with
    | none => none
    | some (v, m) => if v ≤ 1000000000 then some (Cu.boat v, m, zs ++ [subS t n (runEnd t LET n)]) else none) = some (u, m, ys)) : ∀ w ∈ ys, w ∈ zs ∨ w.length ≤ t.length := by
  cases e : numAt t (runEnd t LET n + 1) with
  | none => simp only [e] at h; cases h
  | some q =>
    obtain ⟨v, m1⟩ := q
    simp only [e] at h
    split at h
    · cases h
      intro x hx
      rcases List.mem_append.mp hx with hx | hx
      · exact .inl hx
      · obtain rfl := List.mem_singleton.mp hx
        exact .inr sub_short
    · cases h
theorem parse_shorts (t : Str) : ∀ d : Nat, PdS t (parse t d) := fun d => by
  induction d with
  | zero =>
    intro n zs u m ys h
    unfold parse at h
    split at h
    · exact boat_short h
    · split at h <;> cases h
  | succ d ih =>
    intro n zs u m ys h
    unfold parse at h
    split at h
    · exact boat_short h
    · split at h
      · exact parseK_short ih _ _ _ _ _ _ _ _ h
      · cases h
theorem parse_short {t : Str} {d : Nat} {u : Cu} {m : Nat} {ys : List Str} (h : parse t d 0 [] = some (u, m, ys)) (hl : t.length ≤ 90000) : ∀ w ∈ ys, w.length ≤ 90000 := fun w hw => by
  rcases parse_shorts t d 0 [] u m ys h w hw with z | z
  · cases z
  · omega
/-! ### what was written is read -/
theorem cat_list (a b : Str) : (a ++ b).cps.toList = a.cps.toList ++ b.cps.toList := by
  show (a.cps ++ b.cps).toList = _
  rw [Array.toList_append]
theorem let_of {c : Nat} : c ∈ LET.cps.toList ↔ lowB c = true := by
  rw [← low_in, decide_eq_true_eq]
theorem colon_list : (":" : Str).cps.toList = [58] := by decide +kernel
theorem blank_list : (" " : Str).cps.toList = [32] := by decide +kernel
theorem tl_len (s : Str) : s.cps.toList.length = s.length := Array.length_toList
theorem wd_way (y : Wy) : WEIGHEDL.contains y.s = y.wd := by cases y <;> decide +kernel
theorem ys_low (y : Wy) : y.s.cps.toList.all lowB = true := by cases y <;> decide +kernel
theorem nat_int {c : Int} (h : 0 ≤ c) : ∃ n : Nat, c = (n : Int) := ⟨c.toNat, by omega⟩
/-- one kid, with its weight ahead -/
theorem join_cons2 (s x y : Str) (r : List Str) : Str.join s (x :: y :: r) = x ++ s ++ Str.join s (y :: r) := rfl
end Pu
set_option maxRecDepth 100000
set_option maxHeartbeats 1000000
namespace Pu
open PySem PySem.Spec PyProof.Rows L2
/-! ### a method that only looks at the thing lent -/
/-! ### alike, lists and None too -/
def alL : Nat → D → Prop
  | 0, _ => False
  | _ + 1, .none => True
  | _ + 1, .int _ => True
  | _ + 1, .str z => SeqAt.shaped (.str z) = true
  | n + 1, .tuple ds => ds.length ≤ 10000 ∧ ∀ d ∈ ds, alL n d
  | n + 1, .list ds => ds.length ≤ 10000 ∧ ∀ d ∈ ds, alL n d
  | _ + 1, _ => False
def cAlikeL (n : Nat) : Ct := fun ds k => ∃ d : D, ds = [d, d] ∧ alL n d ∧ k.rt (.bool true)
theorem alikeL_v {n : Nat} {d : D} (h : alL n d) : cAlikeL n [d, d] (kv (.bool true)) := ⟨d, rfl, h, rfl⟩
theorem alL_up : ∀ (n : Nat) (d : D), alL n d → alL (n + 1) d
  | 0, _, h => h.elim
  | n + 1, .none, h => trivial
  | n + 1, .int _, h => trivial
  | n + 1, .str _, h => h
  | n + 1, .tuple ds, h => ⟨h.1, fun d hd => alL_up n d (h.2 d hd)⟩
  | n + 1, .list ds, h => ⟨h.1, fun d hd => alL_up n d (h.2 d hd)⟩
  | n + 1, .bool _, h => h.elim
  | n + 1, .dict _, h => h.elim
theorem alL_mono {n : Nat} {d : D} (h : alL n d) {m : Nat} (hm : n ≤ m) : alL m d := by
  obtain ⟨k, rfl⟩ : ∃ k, m = n + k := ⟨m - n, by omega⟩
  clear hm
  induction k with
  | zero => exact h
  | succ k ih => exact alL_up _ _ ih
theorem alL_int (n : Nat) (i : Int) : alL (n + 1) (.int i) := trivial
theorem alL_str (n : Nat) {z : Str} (h : asc z) : alL (n + 1) (.str z) := asc_sh h
theorem alL_strs {n : Nat} {zs : List Str} (h : ∀ z ∈ zs, asc z) (hl : zs.length ≤ 10000) : alL (n + 2) (.list (zs.map PyData.str)) := ⟨by rw [List.length_map]; exact hl, fun d hd => by
  obtain ⟨z, hz, rfl⟩ := List.mem_map.mp hd
  exact alL_str n (h z hz)⟩
theorem alL_cu : ∀ u : Cu, u.Ok → alL (2 * u.deep) u.d := fun u => Cu.ind (P := fun u => u.Ok → alL (2 * u.deep) u.d) (fun c _ => ⟨by show 2 ≤ 10000; decide, fun d hd => by
    rcases List.mem_cons.mp hd with rfl | hd
    · show SeqAt.shaped (.str "boat") = true
      decide +kernel
    · obtain rfl := List.mem_singleton.mp hd
      exact trivial⟩) (fun y ws ks ih h => by
    rw [Cu.at_knot]
    have hwl := h.w10
    have hkl := h.ok.1.2.1
    have e : 2 * (Cu.knot y ws ks).deep = 2 * Cu.deepL ks + 1 + 1 := by show 2 * (1 + Cu.deepL ks) = _; omega
    rw [e]
    refine ⟨by show 3 ≤ 10000; decide, fun d hd => ?_⟩
    rcases List.mem_cons.mp hd with rfl | hd
    · show SeqAt.shaped (.str y.s) = true
      cases y <;> decide +kernel
    · rcases List.mem_cons.mp hd with rfl | hd
      · refine ⟨by rw [List.length_map]; omega, fun d hd => ?_⟩
        obtain ⟨i, _, rfl⟩ := List.mem_map.mp hd
        have hp : 1 ≤ 2 * Cu.deepL ks := by
          cases ks with
          | nil => exact absurd rfl h.ok.1.1
          | cons k r =>
            have := k.deep_pos
            show 1 ≤ 2 * max k.deep _
            omega
        exact alL_mono (alL_int 0 i) hp
      · obtain rfl := List.mem_singleton.mp hd
        refine ⟨by rw [List.length_map]; omega, fun d hd => ?_⟩
        obtain ⟨k, hk, rfl⟩ := List.mem_map.mp hd
        have := Cu.deepL_le.mp (Nat.le_refl (Cu.deepL ks)) k hk
        exact alL_mono (ih k hk (h.kid hk)) (by omega)) u
theorem alL_cu' {u : Cu} (h : u.Ok) : alL 16 u.d := alL_mono (alL_cu u h) (by have := h.low; omega)
end Pu
set_option maxRecDepth 100000
set_option maxHeartbeats 1000000
namespace Pu
open PySem PySem.Spec PyProof.Rows L2
/-! ### exceptions whose context is known to be None -/
theorem fn_weak {P : Program} {w : World} {K : Frag} {mg : Str → Option Value} {base : Heap} {k : Nat} {f : Addr} {fd : FuncData} {ps : List Str} {sp : Sp} (F : FnOk P w K mg base (L2N.CX P w) k f fd ps sp) : FnOk P w K mg base (L2.CX P w) k f fd ps sp := ⟨F.len, fun A outer s H args us vs Q E hr he hb hv hs => codeAny_mono (F.run A outer s H args us vs Q E hr he hb hv hs) fun r s' q => by
  cases r with
  | error e =>
    obtain ⟨a, B, H', cls, d, h1, h2, h3, h4, h5, h6, h7, h8⟩ := q
    exact ⟨a, B, H', cls, d, h1, L2H.flyingZ_imp (fun o h => ⟨h.1, h.2.1⟩) h2, h3, h4, h5, h6, h7, h8⟩
  | ok fl => cases fl <;> exact q⟩
theorem fun_okN {P : Program} {w : World} {K : Frag} {mg : Str → Option Value} {base : Heap} {x qual : Str} {st : Stmt} {f : Addr} {fd : FuncData} {N ps : List Str} {k : Nat} {sp : Sp} (F : Fun K x qual st f fd) (S : FnScope N ps (defScope st)) (hl : ∀ vs H Q E, sp vs H Q E → vs.length = ps.length)
    (hbody : ∀ (cdv : Value) (A : Around) (outer : List Env) (s : Shared) (H : Hp) (vs : List V) (Q : VK) (E : XK), Room k (A.deeper (envOfC qual (defScope st) s.heap.objs.size f cdv)) → sp vs H Q E →
      ∃ t, PSs (cxOf (L2N.CX P w) P w K mg base N qual (defScope st) f cdv A outer s H E) (defBody st) t ∧ t { nx := fun _ H' => Q .non H', rt := Q } (L2.start N vs) H) : FnOk P w K mg base (L2N.CX P w) (k + 1) f fd ps sp := by
  obtain ⟨⟨oc, od, kV, doc, pm, an, cdv, ct, osl, rfl, lk, hcd⟩, kp⟩ := F
  exact fn_of lk hcd S hl (fun A outer s H vs Q E hr hs => hbody cdv A outer s H vs Q E hr hs)
def OkN (P : Program) (w : World) (K : Frag) (mg : Str → Option Value) (base : Heap) (k : Nat) (x : Str) (ps : List Str) (sp : Sp) : Prop :=
  ∃ f, mg x = some (.ref f) ∧ PySem.W.keepIn K (.ref f) = true ∧ ∃ fd, Binds K fd ps [] ∧ FnOk P w K mg base (L2N.CX P w) k f fd ps sp
def OkMN (P : Program) (w : World) (K : Frag) (mg : Str → Option Value) (base : Heap) (k : Nat) (C : Addr) (m : Str) (ps : List Str) (sp : Sp) : Prop :=
  ∃ f, Meth K C m f ∧ ∃ fd, Binds K fd ps [] ∧ FnOk P w K mg base (L2N.CX P w) k f fd ps sp
def OkIN (P : Program) (w : World) (K : Frag) (mg : Str → Option Value) (base : Heap) (k : Nat) (C : Addr) (ps : List Str) (sp : Sp) : Prop :=
  ∃ f, Mk K C f ∧ ∃ fd, Binds K fd ps [] ∧ FnOk P w K mg base (L2N.CX P w) k f fd ps sp
section
variable {P : Program} {w : World} {K : Frag} {mg : Str → Option Value} {base : Heap} {k : Nat} {x m : Str} {C : Addr} {ps : List Str} {sp : Sp}
theorem OkN.weak (h : OkN P w K mg base k x ps sp) : Ok P w K mg base k x ps sp := by
  obtain ⟨f, g, kp, fd, b, F⟩ := h
  exact ⟨f, g, kp, fd, b, fn_weak F⟩
theorem OkMN.weak (h : OkMN P w K mg base k C m ps sp) : OkM P w K mg base k C m ps sp := by
  obtain ⟨f, g, fd, b, F⟩ := h
  exact ⟨f, g, fd, b, fn_weak F⟩
theorem OkIN.weak (h : OkIN P w K mg base k C ps sp) : OkI P w K mg base k C ps sp := by
  obtain ⟨f, g, fd, b, F⟩ := h
  exact ⟨f, g, fd, b, fn_weak F⟩
end
section
variable {P : Program} {w : World} {K : Frag} {mg : Str → Option Value} {base : Heap}
theorem FnAt.okN {x : Str} {st : Stmt} {ps N : List Str} {f : Addr} {k : Nat} (T : FnAt K mg x st ps f) (S : FnScope N ps (defScope st)) (c : Ct) (hl : ∀ ds k, c ds k → ds.length = ps.length)
    (hbody : ∀ (cdv : Value) (A : Around) (outer : List Env) (s : Shared) (H : Hp) (vs : List V) (Q : VK) (E : XK), Room k (A.deeper (envOfC x (defScope st) s.heap.objs.size f cdv)) → spc K c vs H Q E →
      ∃ t, PSs (cxOf (L2N.CX P w) P w K mg base N x (defScope st) f cdv A outer s H E) (defBody st) t ∧ t { nx := fun _ H' => Q .non H', rt := Q } (L2.start N vs) H) : OkN P w K mg base (k + 1) x ps (spc K c) := by
  obtain ⟨g, fd, F, b⟩ := T
  exact ⟨f, g, F.kp, fd, b, fun_okN F S (spc_len hl) hbody⟩
theorem FnAt.okGN {x : Str} {st : Stmt} {ps N : List Str} {f : Addr} {k : Nat} (T : FnAt K mg x st ps f) (S : FnScope N ps (defScope st)) (sp : Sp) (hl : ∀ vs H Q E, sp vs H Q E → vs.length = ps.length)
    (hbody : ∀ (cdv : Value) (A : Around) (outer : List Env) (s : Shared) (H : Hp) (vs : List V) (Q : VK) (E : XK), Room k (A.deeper (envOfC x (defScope st) s.heap.objs.size f cdv)) → sp vs H Q E →
      ∃ t, PSs (cxOf (L2N.CX P w) P w K mg base N x (defScope st) f cdv A outer s H E) (defBody st) t ∧ t { nx := fun _ H' => Q .non H', rt := Q } (L2.start N vs) H) : OkN P w K mg base (k + 1) x ps sp := by
  obtain ⟨g, fd, F, b⟩ := T
  exact ⟨f, g, F.kp, fd, b, fun_okN F S hl hbody⟩
theorem MtAt.okGN {C : Addr} {m qual : Str} {st : Stmt} {ps N : List Str} {f : Addr} {k : Nat} (T : MtAt K C m qual st ps f) (S : FnScope N ps (defScope st)) (sp : Sp) (hl : ∀ vs H Q E, sp vs H Q E → vs.length = ps.length)
    (hbody : ∀ (cdv : Value) (A : Around) (outer : List Env) (s : Shared) (H : Hp) (vs : List V) (Q : VK) (E : XK), Room k (A.deeper (envOfC qual (defScope st) s.heap.objs.size f cdv)) → sp vs H Q E →
      ∃ t, PSs (cxOf (L2N.CX P w) P w K mg base N qual (defScope st) f cdv A outer s H E) (defBody st) t ∧ t { nx := fun _ H' => Q .non H', rt := Q } (L2.start N vs) H) : OkMN P w K mg base (k + 1) C m ps sp := by
  obtain ⟨g, fd, F, b⟩ := T
  exact ⟨f, g, fd, b, fun_okN F S hl hbody⟩
theorem InAt.okGN {C : Addr} {qual : Str} {st : Stmt} {ps N : List Str} {f : Addr} {k : Nat} (T : InAt K C qual st ps f) (S : FnScope N ps (defScope st)) (sp : Sp) (hl : ∀ vs H Q E, sp vs H Q E → vs.length = ps.length)
    (hbody : ∀ (cdv : Value) (A : Around) (outer : List Env) (s : Shared) (H : Hp) (vs : List V) (Q : VK) (E : XK), Room k (A.deeper (envOfC qual (defScope st) s.heap.objs.size f cdv)) → sp vs H Q E →
      ∃ t, PSs (cxOf (L2N.CX P w) P w K mg base N qual (defScope st) f cdv A outer s H E) (defBody st) t ∧ t { nx := fun _ H' => Q .non H', rt := Q } (L2.start N vs) H) : OkIN P w K mg base (k + 1) C ps sp := by
  obtain ⟨g, fd, F, b⟩ := T
  exact ⟨f, g, fd, b, fun_okN F S hl hbody⟩
end
section
variable {X : Cx} {k : Nat} {C : Addr} {ps : List Str} {sp : Sp} {W : WX} {x m : Str} {p pos apos : Pos} {e o : Expr} {es : List Expr} {ta : TE} {t : TA}
theorem pe_mthN {pl : Sem Bool} (F : OkMN X.prog X.w X.K X.mg X.base k C m ps sp) (c : Cls X.K C) (hr : Room k X.A) (tk : L2N.Takes X W) (he : PE X o ta) (ha : PA X (e :: es) t)
    (hst : starEach (e :: es) X.env = (false, eval e X.env) :: starEach es X.env := by rfl) (hpl : (backTo pos (starEach es X.env)).any (·.1) = false := by rfl)
    (ht : eval (.Call (.Attribute o m apos) (e :: es) [] pos) X.env = (do
      let ov ← eval o X.env
      standAt apos.atName
      let (f, first) ← holding [ov] (getMethod ov m pl)
      callWith pos f first (backTo pos (starEach (e :: es) X.env)) (backToKw pos (keywordEach [] X.env))) := by rfl) : PE X (.Call (.Attribute o m apos) (e :: es) [] pos) (tMethS C m sp (WE W) ta t) := by
  obtain ⟨f, hm, fd, b, F⟩ := F
  refine ⟨fun pins s σ H Q I h => ?_⟩
  refine PySem.W.methodCall_KW (pl := pl) (thn (he.run pins s σ H _ I h) fun u s1 ⟨x, H1, I1, rx, a, dx, fs, ex, ea, l, q⟩ => ?_) ht
  subst ex
  obtain rfl : u = Value.ref a := rx
  refine getmeth_ok I1 ea c hm l ?_
  refine PySem.W.callWith_K (first := [.ref a]) (h₀ := X.base) I.ok.mod.kin hm.kp (thn (ha.run pos pins s1 σ H1 _ I1 q) fun us s2 ⟨vs, H2, I2, r, q2⟩ => ⟨I2.kIn, ?_⟩) hst hpl
  exact run_fnS (us := .ref a :: us) (vs := .ref a :: vs) (E := WE W) F hr b (L2N.passAt tk σ) I2 (.cons rfl r) q2
end
section
variable {X : Cx} {k : Nat} {x : Str} {ps : List Str} {sp : Sp} {W : WX} {p pos : Pos} {e : Expr} {es : List Expr} {ta : TA}
theorem pe_fnN (o : OkN X.prog X.w X.K X.mg X.base k x ps sp) (hr : Room k X.A) (tk : L2N.Takes X W) (hg : Gl X x) (ha : PA X (e :: es) ta)
    (hdb : (x == ("__debug__" : Str)) = false := by decide) (he : starEach (e :: es) X.env = (false, eval e X.env) :: starEach es X.env := by rfl) (hpl : (backTo pos (starEach es X.env)).any (·.1) = false := by rfl) :
    PE X (.Call (.Name x p) (e :: es) [] pos) (tCallS sp (WE W) ta) := by
  obtain ⟨f, g, kp, fd, b, F⟩ := o
  exact pe_callS F hr hg g kp b (fun σ => L2N.passAt tk σ) ha hdb he hpl
end
section
variable {X : Cx} {K : Frag}
theorem takes0N : L2N.Takes X (fun _ _ _ _ => False) := fun u s' ⟨_, _, _, _, _, _, _, _, _, _, _, _, _, _, _, _, h⟩ => h.elim
theorem ps_raiseCN {W : WX} {C : Addr} {x m : Str} {j : Nat} {p p2 pos pos2 : Pos} (hc : X.calm = true) (tk : L2N.Takes X W) (q : PySem.W.excIn X.K C [.type "ValueError", .type "Exception", .type "BaseException", .type "object"] "ValueError.__new__" = true) (gC : X.mg x = some (.ref C))
    (kC : PySem.W.keepIn X.K (.ref C) = true) (h1 : PySem.W.subIn X.K (.ref C) (.type "BaseException") = some true) (h2 : PySem.W.typeIn X.K (.ref C) = some (.type "type")) (hg : Gl X x) (hdb : (x == ("__debug__" : Str)) = false := by decide) :
    PS X (.Raise (some (.Call (.Name x p) [.Constant (.str m) j p2] [] pos)) none pos2) (tRaiseC W C) :=
  L2N.ps_raise hc tk (L2N.pmk_own PySem.F.excBase_ValueError q gC kC (raises_own h1 h2) hg hdb)
/-- raise in an except suite -/
theorem ps_raiseCH {W : WX} {C : Addr} {x m : Str} {j : Nat} {p p2 pos pos2 : Pos} (hc : L2H.HotC X) (tk : Takes X W) (q : PySem.W.excIn X.K C [.type "ValueError", .type "Exception", .type "BaseException", .type "object"] "ValueError.__new__" = true) (gC : X.mg x = some (.ref C))
    (kC : PySem.W.keepIn X.K (.ref C) = true) (h1 : PySem.W.subIn X.K (.ref C) (.type "BaseException") = some true) (h2 : PySem.W.typeIn X.K (.ref C) = some (.type "type")) (hg : Gl X x) (hdb : (x == ("__debug__" : Str)) = false := by decide) :
    PS X (.Raise (some (.Call (.Name x p) [.Constant (.str m) j p2] [] pos)) none pos2) (tRaiseC W C) :=
  L2H.ps_raiseH hc tk (L2N.pmk_own PySem.F.excBase_ValueError q gC kC (raises_own h1 h2) hg hdb)
theorem t_tryX {x : Str} {c : Value} {body suite : List Stmt} {b₀ : Stmt} {np pos pos' : Pos} {tb : WX → TS} {ts : Addr → Value → Option Addr → TS} {Wout : WX} (hs : X.stack = X.env :: X.outer) (hf : X.env.frame = some X.env.locals) (hc : Names X x c) (hpa : ∀ hd : Option Value, PassesOwnAt (model X.prog X.w) (X.A.mark hd) X.A X.env X.xe) (tk : Takes X Wout)
    (hb : ∀ (W : WX) (pn : List (Addr × Obj)) (xe : Value → Shared → Prop), L2N.Takes (X.tr pn xe) W → PassesOwn (model X.prog X.w) X.A X.env xe → PSs (X.tr pn xe) body (tb W))
    (hsu : ∀ (a : Addr) (oe : Obj) (cls : Value) (d : Option Addr) (pn : List (Addr × Obj)), L2N.Zn cls d oe → (∃ vs, oe.data = .fields vs) → Takes (L2H.suiteX X a ((a, oe) :: pn)) Wout → L2H.HotC (L2H.suiteX X a ((a, oe) :: pn)) → PSs (L2H.suiteX X a ((a, oe) :: pn)) (b₀ :: suite) (ts a cls d)) (hK : X.K = K := by rfl) :
    PS X (.Try body [.ExceptHandler (some (.Name x np)) none (b₀ :: suite) pos'] [] [] pos) (tTry K c tb ts Wout) := by
  subst hK
  exact L2H.ps_try_onlyX hs hf hc hpa tk (fun W pn xe t1 _ po => hb W pn xe t1 po) hsu
end
end Pu
set_option maxRecDepth 100000
set_option maxHeartbeats 1000000
namespace Pu
open PySem PySem.Spec PyProof.Rows L2
/-! ### a custom with other claims -/
mutual
def Cu.withC : Cu → List Int → Cu
  | .boat _, es => .boat (es.headD 0)
  | .knot y ws ks, es => .knot y ws (Cu.withL ks es)
def Cu.withL : List Cu → List Int → List Cu
  | [], _ => []
  | k :: r, es => k.withC es :: Cu.withL r (es.drop k.claims.length)
end
theorem withL_len : ∀ (ks : List Cu) (es : List Int), (Cu.withL ks es).length = ks.length
  | [], _ => by unfold Cu.withL; rfl
  | k :: r, es => by
    unfold Cu.withL
    rw [List.length_cons, withL_len r, List.length_cons]
def WithP (u : Cu) : Prop := ∀ es : List Int, u.claims.length ≤ es.length → (u.withC es).claims = es.take u.claims.length ∧ (u.withC es).deep = u.deep ∧ (u.ok → (∀ c ∈ es, 0 ≤ c ∧ c ≤ 1000000000) → (u.withC es).ok)
theorem withL_all : ∀ (ks : List Cu), (∀ k ∈ ks, WithP k) → ∀ es : List Int, (Cu.claimsL ks).length ≤ es.length → Cu.claimsL (Cu.withL ks es) = es.take (Cu.claimsL ks).length ∧ Cu.deepL (Cu.withL ks es) = Cu.deepL ks ∧ (Cu.okL ks → (∀ c ∈ es, 0 ≤ c ∧ c ≤ 1000000000) → Cu.okL (Cu.withL ks es))
  | [], _, es, _ => ⟨by unfold Cu.withL; show [] = es.take 0; rw [List.take_zero], by unfold Cu.withL; rfl, fun _ _ => by unfold Cu.withL; trivial⟩
  | k :: r, hk, es, hl => by
    have hl' : k.claims.length + (Cu.claimsL r).length ≤ es.length := by
      have : (k.claims ++ Cu.claimsL r).length ≤ es.length := hl
      rwa [List.length_append] at this
    obtain ⟨a1, a2, a3⟩ := hk k List.mem_cons_self es (by omega)
    obtain ⟨b1, b2, b3⟩ := withL_all r (fun x hx => hk x (List.mem_cons_of_mem _ hx)) (es.drop k.claims.length) (by rw [List.length_drop]; omega)
    unfold Cu.withL
    refine ⟨?_, ?_, fun ho hc => ?_⟩
    · show (k.withC es).claims ++ Cu.claimsL _ = es.take (k.claims ++ Cu.claimsL r).length
      rw [a1, b1, List.length_append, List.take_add]
    · show max (k.withC es).deep (Cu.deepL _) = max k.deep (Cu.deepL r)
      rw [a2, b2]
    · obtain ⟨o1, o2⟩ := ho
      exact ⟨a3 o1 hc, b3 o2 fun c h => hc c (List.mem_of_mem_drop h)⟩
theorem with_all : ∀ u : Cu, WithP u := fun u => Cu.ind (P := WithP) (fun c es hl => by
  cases es with
  | nil => exact absurd (show 1 ≤ 0 from hl) (by decide)
  | cons e r =>
    unfold Cu.withC
    exact ⟨rfl, rfl, fun _ h => h e List.mem_cons_self⟩) (fun y ws ks ih es hl => by
  obtain ⟨b1, b2, b3⟩ := withL_all ks ih es hl
  unfold Cu.withC
  refine ⟨b1, ?_, fun ho hc => ?_⟩
  · show 1 + Cu.deepL _ = 1 + Cu.deepL ks
    rw [b2]
  · obtain ⟨⟨h1, h2, h3⟩, h4⟩ := ho
    refine ⟨⟨fun z => h1 ?_, by rw [withL_len]; exact h2, by rw [withL_len]; exact h3⟩, b3 h4 hc⟩
    have := congrArg List.length z
    rw [withL_len] at this
    exact List.length_eq_zero_iff.mp this) u
theorem with_Ok {u : Cu} (h : u.Ok) {es : List Int} (hl : u.claims.length ≤ es.length) (hc : ∀ c ∈ es, 0 ≤ c ∧ c ≤ 1000000000) : (u.withC es).Ok := by
  obtain ⟨a1, a2, a3⟩ := with_all u es hl
  refine ⟨a3 h.ok hc, ?_, by rw [a2]; exact h.low⟩
  rw [a1, List.length_take]
  have := h.few
  omega
theorem with_claims_eq {u : Cu} {es : List Int} (hl : es.length = u.claims.length) : (u.withC es).claims = es := by
  rw [(with_all u es (by omega)).1, ← hl, List.take_length]
/-! ### fish: from nought to the claim, in sum the catch -/
theorem fishU_b {u : Cu} {c : Int} (h : u.Ok) (h0 : 0 ≤ c) (h1 : c ≤ u.sum) {i : Nat} {f k : Int} (hf : (fishU u c)[i]? = some f) (hk : u.claims[i]? = some k) : 0 ≤ f ∧ f ≤ k := by
  have q0 : (0 : Rat) ≤ (c : Rat) := by exact_mod_cast h0
  have q1 : (c : Rat) ≤ (u.sum : Rat) := by exact_mod_cast h1
  have dl := deal_dl h.ok q0 q1
  have hi : i < (u.deal (c : Rat)).length := by
    have := getElem?_lt hf
    unfold fishU at this
    rwa [fishOf_len] at this
  obtain ⟨g, hg⟩ : ∃ g, (u.deal (c : Rat))[i]? = some g := ⟨_, List.getElem?_eq_getElem hi⟩
  have hq : (qlist u.claims)[i]? = some (k : Rat) := by unfold qlist; rw [List.getElem?_map, hk]; rfl
  have hb := dl.get hg hq
  have e := gAt_of hg
  have hn := fish_near (k := k) dl.sum hi (by rw [e]; exact hb.1) (by rw [e]; exact hb.2)
  have hf' := fish_at (c := c) hi
  unfold fishU at hf
  rw [hf] at hf'
  obtain rfl := Option.some.inj hf'
  exact ⟨hn.1, hn.2.1⟩
/-! ### ledgers -/
structure Lg where
  u : Cu
  ns : List Str
  got : List Int
  rest : Int
  tape : List D
structure Lg.Ok (L : Lg) : Prop where
  u : L.u.Ok
  ns : lookN L.u L.ns = 2
  got : L.got.length = L.ns.length
theorem Lg.Ok.len {L : Lg} (h : L.Ok) : L.ns.length = L.u.claims.length := (lookN_2 h.ns).1
theorem Lg.Ok.few {L : Lg} (h : L.Ok) : L.ns.length ≤ 12 := by have := h.len; have := h.u.few; omega
/-- claims put anew -/
def Lg.put (L : Lg) (es : List Int) : Lg := { L with u := L.u.withC es }
theorem lookN_with {u v : Cu} {ns : List Str} (h : v.claims.length = u.claims.length) (h2 : lookN u ns = 2) : lookN v ns = 2 := by
  unfold lookN at h2 ⊢
  rw [h]
  exact h2
theorem Lg.Ok.put {L : Lg} (h : L.Ok) {es : List Int} (hl : es.length = L.u.claims.length) (hc : ∀ c ∈ es, 0 ≤ c ∧ c ≤ 1000000000) : (L.put es).Ok :=
  ⟨with_Ok h.u (by omega) hc, lookN_with (by show (L.u.withC es).claims.length = _; rw [with_claims_eq hl, hl]) h.ns, h.got⟩
/-! facts -/
def askF (z : Str) (c : Int) : D := .tuple [.str "ask", .str z, .int c]
def landF (c : Int) : D := .tuple [.str "land", .int c]
def getsF (z : Str) (c : Int) : D := .tuple [.str "gets", .str z, .int c]
def keptF (c : Int) : D := .tuple [.str "kept", .int c]
/-- who got any -/
def getsL : List Str → List Int → List D
  | z :: zs, f :: fs => (if 0 < f then [getsF z f] else []) ++ getsL zs fs
  | _, _ => []
def addL (a b : List Int) : List Int := List.zipWith (· + ·) a b
def subL (a b : List Int) : List Int := List.zipWith (· - ·) a b
/-- a catch of many fish, of which the custom deals some -/
def Lg.many (L : Lg) (c : Int) : Int := min c L.u.sum
def Lg.parts (L : Lg) (c : Int) : List Int := fishU L.u (L.many c)
def Lg.facts (L : Lg) (c : Int) : List D := landF c :: getsL L.ns (L.parts c) ++ (if L.many c < c then [keptF (c - L.many c)] else [])
def Lg.ask (L : Lg) (i : Nat) (z : Str) (c : Int) : Lg := { L.put (L.u.claims.set i c) with tape := L.tape ++ [askF z c] }
def Lg.land (L : Lg) (c : Int) : Lg := { L.put (subL L.u.claims (L.parts c)) with got := addL L.got (L.parts c), rest := L.rest + (c - L.many c), tape := L.tape ++ L.facts c }
def Lg.at_ (L : Lg) (z : Str) : Nat := L.ns.idxOf z
/-- what asking comes to: 0 no boat, 1 a bad claim, 2 done -/
def askC (L : Lg) (z : Str) (c : Int) : Nat := if L.ns.contains z then (if 0 ≤ c ∧ c ≤ 1000000000 then 2 else 1) else 0
def landC (c : Int) : Nat := if 0 ≤ c ∧ c ≤ 1000000000000 then 2 else 0
/-! what a ledger tells -/
theorem addL_len (a b : List Int) (h : a.length = b.length) : (addL a b).length = a.length := by unfold addL; rw [List.length_zipWith, h, Nat.min_self]
theorem subL_len (a b : List Int) (h : a.length = b.length) : (subL a b).length = a.length := by unfold subL; rw [List.length_zipWith, h, Nat.min_self]
theorem subL_get {a b : List Int} {i : Nat} {x y : Int} (h1 : a[i]? = some x) (h2 : b[i]? = some y) : (subL a b)[i]? = some (x - y) := by unfold subL; rw [List.getElem?_zipWith, h1, h2]
theorem Lg.many_b {L : Lg} (h : L.u.Ok) {c : Int} (hc : 0 ≤ c) : 0 ≤ L.many c ∧ L.many c ≤ L.u.sum ∧ L.many c ≤ c := by
  have h0 : 0 ≤ L.u.sum := by
    have := qsum_nonneg (nn_q fun c hc => (Cu.claims_b h.ok c hc).1)
    rw [qlist_sum] at this
    exact_mod_cast this
  unfold Lg.many
  omega
theorem Lg.parts_len {L : Lg} (h : L.u.Ok) {c : Int} (hc : 0 ≤ c) : (L.parts c).length = L.u.claims.length := fishU_len h (L.many_b h hc).1 (L.many_b h hc).2.1
theorem Lg.sub_b {L : Lg} (h : L.u.Ok) {c : Int} (hc : 0 ≤ c) : ∀ e ∈ subL L.u.claims (L.parts c), 0 ≤ e ∧ e ≤ 1000000000 := fun e he => by
  obtain ⟨i, hi⟩ := List.mem_iff_getElem?.mp he
  have hl := L.parts_len h hc
  have hil : i < L.u.claims.length := by
    have := getElem?_lt hi
    rwa [subL_len _ _ hl.symm] at this
  obtain ⟨k, hk⟩ : ∃ k, L.u.claims[i]? = some k := ⟨_, List.getElem?_eq_getElem hil⟩
  obtain ⟨f, hf⟩ : ∃ f, (L.parts c)[i]? = some f := ⟨_, List.getElem?_eq_getElem (by omega)⟩
  have := subL_get hk hf
  rw [hi] at this
  obtain rfl := Option.some.inj this
  have hb := fishU_b h (L.many_b h hc).1 (L.many_b h hc).2.1 hf hk
  have := Cu.claims_b h.ok k (List.mem_of_getElem? hk)
  omega
theorem Lg.Ok.land {L : Lg} (h : L.Ok) {c : Int} (hc : 0 ≤ c) : (L.land c).Ok := by
  have hl := L.parts_len h.u hc
  have := h.put (subL_len _ _ hl.symm) (L.sub_b h.u hc)
  refine ⟨this.u, this.ns, ?_⟩
  show (addL L.got (L.parts c)).length = L.ns.length
  have hg := h.got
  have hn := h.len
  rw [addL_len _ _ (by omega), hg]
theorem Lg.Ok.ask {L : Lg} (h : L.Ok) {z : Str} {c : Int} {i : Nat} (hc : 0 ≤ c ∧ c ≤ 1000000000) : (L.ask i z c).Ok := by
  have := h.put (es := L.u.claims.set i c) (List.length_set ..) fun e he => by
    rcases List.mem_or_eq_of_mem_set he with he | rfl
    · exact Cu.claims_b h.u.ok e he
    · exact hc
  exact ⟨this.u, this.ns, this.got⟩
end Pu
set_option maxRecDepth 100000
set_option maxHeartbeats 1000000
namespace Pu
open PySem PySem.Spec PyProof.Rows L2
/-! ### deeds -/
inductive Deed where
  | ask (z : Str) (c : Int)
  | land (c : Int)
def Deed.d : Deed → D
  | .ask z c => askF z c
  | .land c => landF c
def Lg.can (L : Lg) : Deed → Bool
  | .ask z c => decide (askC L z c = 2)
  | .land c => decide (landC c = 2)
def Lg.next (L : Lg) : Deed → Lg
  | .ask z c => L.ask (L.at_ z) z c
  | .land c => L.land c
def Lg.told (L : Lg) : Deed → List D
  | .ask z c => [askF z c]
  | .land c => L.facts c
theorem askC_2 {L : Lg} {z : Str} {c : Int} (h : askC L z c = 2) : L.ns.contains z = true ∧ 0 ≤ c ∧ c ≤ 1000000000 := by
  unfold askC at h
  split at h
  · split at h
    · exact ⟨by assumption, by assumption⟩
    · cases h
  · cases h
theorem landC_2 {c : Int} (h : landC c = 2) : 0 ≤ c ∧ c ≤ 1000000000000 := by
  unfold landC at h
  split at h
  · assumption
  · cases h
theorem Lg.Ok.next {L : Lg} (h : L.Ok) {e : Deed} (hc : L.can e = true) : (L.next e).Ok := by
  cases e with
  | ask z c => exact h.ask (askC_2 (of_decide_eq_true hc)).2
  | land c => exact h.land (landC_2 (of_decide_eq_true hc)).1
/-! facts may be compared -/
/-! contracts of the laws of ledgers -/
/-! ### five things told at once, three of them new lists -/
end Pu
set_option maxRecDepth 100000
set_option maxHeartbeats 1000000
namespace Pu
open PySem PySem.Spec PyProof.Rows L2
/-! ### for one in [told[1], told[2], told[4]]: one.append(1); one.reverse() -/
end Pu
set_option maxRecDepth 100000
set_option maxHeartbeats 1000000
namespace Pu
open PySem PySem.Spec PyProof.Rows L2
/-! ### len(set(texts)) -/
/-- how many different ones -/
def cnt : List Str → Nat
  | [] => 0
  | z :: r => if z ∈ r then cnt r else cnt r + 1
/-- the same, told from the other end -/
def cntR (zs : List Str) : Nat := cnt zs.reverse
theorem cntR_snoc (zs : List Str) (z : Str) : cntR (zs ++ [z]) = if z ∈ zs then cntR zs else cntR zs + 1 := by
  unfold cntR
  rw [List.reverse_append]
  show (if z ∈ zs.reverse then _ else _) = _
  by_cases h : z ∈ zs
  · rw [if_pos h, if_pos (List.mem_reverse.mpr h)]
    rfl
  · rw [if_neg h, if_neg (fun y => h (List.mem_reverse.mp y))]
    rfl
theorem cnt_le : ∀ zs : List Str, cnt zs ≤ zs.length
  | [] => Nat.le_refl _
  | z :: r => by
    have := cnt_le r
    unfold cnt
    rw [List.length_cons]
    split <;> omega
theorem cnt_eq : ∀ {zs : List Str}, cnt zs = zs.length ↔ zs.Nodup
  | [] => ⟨fun _ => List.nodup_nil, fun _ => rfl⟩
  | z :: r => by
    have h1 := cnt_le r
    have h2 := cnt_eq (zs := r)
    unfold cnt
    rw [List.length_cons, List.nodup_cons]
    split
    · rename_i h
      exact ⟨fun e => by omega, fun e => absurd h e.1⟩
    · rename_i h
      exact ⟨fun e => ⟨h, h2.mp (by omega)⟩, fun e => by rw [h2.mpr e.2]⟩
theorem cntR_le (zs : List Str) : cntR zs ≤ zs.length := by
  have := cnt_le zs.reverse
  rwa [List.length_reverse] at this
theorem cntR_eq {zs : List Str} : cntR zs = zs.length ↔ zs.Nodup := by
  have := cnt_eq (zs := zs.reverse)
  rw [List.length_reverse, (List.reverse_perm zs).nodup_iff] at this
  exact this
section
variable {P : Program} {w : World} {A : Around}
theorem setOf_move {h h' : Heap} {a : Addr} {S : Str → Bool} {n : Nat} (hs : Heap.SetOf (strKind P w) h a S n) (hk : ∀ o, h.get? a = some o → h'.get? a = some o) : Heap.SetOf (strKind P w) h' a S n := by
  obtain ⟨o, es, ep, t, h1, h2⟩ := hs
  exact ⟨o, es, ep, t, hk o h1, h2⟩
theorem set_update_strs {I : Addr} {fp wr : List Addr} {G : Array GenState → Array GenState → Prop} {n : Nat} {Pv : Nat → Value → Prop} {St : Nat → Shared → Prop} {R : Result → Shared → Prop}
    (W : WalksS P w A.in1 I fp wr G n Pv St) (S : Addr) (hS : S ∉ fp) (zs : List Str) (hn : n = zs.length) (hb : zs.length + 1 < scanBound) (hP : ∀ i v, Pv i v → ∃ z t, zs[i]? = some z ∧ v = Value.str z t) :
    ∀ (k i : Nat) (s : Shared), n - i = k → i ≤ n → St i s → Heap.SetOf (strKind P w) s.heap S (fun z => decide (z ∈ zs.take i)) (cntR (zs.take i)) →
      (∀ s', Moved (S :: wr) G s s' → Heap.SetOf (strKind P w) s'.heap S (fun z => decide (z ∈ zs)) (cntR zs) → R (.ok (.ret .none)) s') →
      codeAny (model P w) A (Code.builtin "set.update.loop" { pos := [.ref S, .ref I] }) R s := fun k => by
  induction k with
  | zero =>
    intro i s hk hi st hs hR
    obtain rfl : i = n := by omega
    refine codeAny_builtin PyProof.Rows.F.entry_set_update_loop ?_
    refine wpAny_bind ?_
    refine W.done s _ _ st fun s' mv => ?_
    refine wpAny_pure ?_
    have hSw : S ∉ wr := fun z => hS (W.sub S z)
    rw [hn, List.take_length] at hs
    exact hR s' ⟨fun b o nb q => mv.heap b o (fun z => nb (List.mem_cons_of_mem _ z)) q, mv.gens, mv.drawn, mv.os, mv.toks⟩ (setOf_move hs fun o q => mv.heap S o hSw q)
  | succ k ih =>
    intro i s hk hi st hs hR
    refine codeAny_builtin PyProof.Rows.F.entry_set_update_loop ?_
    refine wpAny_bind ?_
    refine W.item i s _ _ (by omega) st fun v s' hv st' mv => ?_
    obtain ⟨z, t, hz, rfl⟩ := hP i v hv
    have hSw : S ∉ wr := fun z => hS (W.sub S z)
    have hs' := setOf_move hs (h' := s'.heap) fun o q => mv.heap S o hSw q
    have hc := cntR_le (zs.take i)
    rw [List.length_take] at hc
    refine wpAny_bind ?_
    refine wpAny_holding ?_
    refine wpAny_holding ?_
    refine wpAny_bind ?_
    have his : (strKind P w).is z (Value.str z t) = true := by
      show Value.isStrOf z (Value.str z t) = true
      simp [Value.isStrOf]
    refine (strKind P w).pyHash his ?_
    refine wpAny_setAddHashed_of (knd := strKind P w) (S := fun y => decide (y ∈ zs.take i)) (n := cntR (zs.take i)) his rfl hs' (by omega) fun h' sb hs2 => ?_
    refine wpAny_pure ⟨plainId_quiet PyProof.Rows.F.plain_set_update_loop _, ?_⟩
    have htk : zs.take (i + 1) = zs.take i ++ [z] := by rw [List.take_add_one, hz]; rfl
    refine ih (i + 1) _ (by omega) (by omega) (W.frame (i + 1) s' h' _ st' (Nat.le_succ _) fun b hb o q => by rw [sb.2 b (fun y => hS (y ▸ hb))]; exact q) ?_ fun s3 mv3 hs3 => hR s3 ⟨fun b o nb q => mv3.heap b o nb (by
      show h'.get? b = some o
      rw [sb.2 b (fun y => nb (by rw [y]; exact List.mem_cons_self))]
      exact mv.heap b o (fun y => nb (List.mem_cons_of_mem _ y)) q), W.gtrans _ _ _ mv.gens mv3.gens, mv3.drawn.trans mv.drawn, mv3.os.trans mv.os, Nat.le_trans mv.toks (Nat.le_trans (Nat.le_succ _) mv3.toks)⟩ hs3
    rw [htk, cntR_snoc]
    have e1 : (fun y => decide (y ∈ zs.take i ++ [z])) = fun y => decide (y ∈ zs.take i) || decide (y = z) := by
      funext y
      rw [← Bool.decide_or]
      exact decide_eq_decide.mpr (by rw [List.mem_append, List.mem_singleton])
    have e2 : (if z ∈ zs.take i then cntR (zs.take i) else cntR (zs.take i) + 1) = if decide (z ∈ zs.take i) = true then cntR (zs.take i) else cntR (zs.take i) + 1 := by
      by_cases y : z ∈ zs.take i
      · rw [if_pos y, if_pos (decide_eq_true y)]
      · rw [if_neg y, if_neg (by rw [decide_eq_false y]; decide)]
    rw [e1, e2]
    exact hs2
/-- a builtin type called: what making and what starting say -/
theorem call_typeW {T newId initId : String} {args : List Value} {E : Value → Shared → Prop} {s : Shared} {Q Q₁ : Value → Shared → Prop} (tc : TypeCalled T newId initId) (hct : checkTypeCall T { pos := args } = pure ())
    (hnew : ∀ A' : Around, A'.handled = A.handled → wpAny (model P w) A' (call (.builtin newId) (.type T :: args)) Q₁ E s)
    (hinit : ∀ (A' : Around) (obj : Value) (s₁ : Shared), A'.handled = A.handled → Q₁ obj s₁ → s₁.TypeIs obj T ∧ wpAny (model P w) A' (call (.builtin initId) (obj :: args)) (fun r s₂ => r = Value.none ∧ Q obj s₂) E s₁) :
    wpAny (model P w) A (call (.type T) args) Q E s := by
  refine wpAny_call ?_
  refine codeAny_of_tree ?_
  show wpAny _ _ (pure (Fin.again (Code.builtin "type.__call__" { pos := .type T :: args }))) _ _ _
  refine wpAny_pure ⟨Code.quiet_builtin _ (by simp), ?_⟩
  refine codeAny_builtin entry_typeCall ?_
  obtain ⟨c, tl, hm⟩ := tc.mro
  unfold Builtin.«type.__call__»
  simp only [tc.notType, tc.canCreate, hct, hm, tc.made, Bool.false_eq_true, if_false, pure_bind, List.isEmpty_cons]
  refine wpAny_bind ?_
  refine wpAny_holding ?_
  refine wpAny_mono (hnew _ rfl) (fun obj s₁ h => ?_) (fun e s' h => h)
  obtain ⟨ht, hi⟩ := hinit (A.under (Code.builtin "type.__call__" { pos := .type T :: args })) obj s₁ rfl h
  refine wpAny_bind ?_
  refine wpAny_isInstance ht tc.sub ?_
  simp only [Bool.not_true, Bool.false_eq_true, if_false]
  refine wpAny_bind ?_
  refine wpAny_holding ?_
  refine wpAny_callSpecial?_slot ht tc.init ?_
  refine wpAny_mono hi (fun r s₂ q => ?_) (fun e s' h => h)
  obtain ⟨rfl, q⟩ := q
  exact wpAny_pure q
/-- set(..) of a list of texts -/
theorem call_set_strs {E : Value → Shared → Prop} {s : Shared} {l : Addr} {items : Array Value} {zs : List Str} {Q : Value → Shared → Prop} (hA : A.handled = none) (hl : s.heap.IsList l items) (hi : StrsAre items.toList zs) (hb : zs.length + 1 < scanBound)
    (hQ : ∀ (h' : Heap) (tk : Nat), Heap.SetOf (strKind P w) h' s.heap.objs.size (fun z => decide (z ∈ zs)) (cntR zs) → (∀ (b : Addr) (o : Obj), s.heap.get? b = some o → h'.get? b = some o) → s.toks ≤ tk → Q (.ref s.heap.objs.size) { heap := h', gens := s.gens, drawn := s.drawn, toks := tk, os := s.os }) :
    wpAny (model P w) A (call (.type "set") [.ref l]) Q E s := by
  refine call_typeW (Q₁ := fun obj s₁ => ∃ led : Bool, obj = .ref s.heap.objs.size ∧ s₁ = { heap := s.heap.push { cls := Value.type "set", data := Data.set #[] 0 (SetTable.fresh 0 0 led) }, gens := s.gens, drawn := s.drawn, toks := s.toks, os := s.os } ∧ Heap.SetOf (strKind P w) s₁.heap s.heap.objs.size (fun _ => false) 0) F.called_set (F.typeCall_set_1 _) (fun A' _ => ?_) ?_
  · refine wpAny_call ?_
    refine codeAny_call_builtin F.plain_set_new F.entry_set_new ?_
    rw [F.newCall_set_1]
    refine wpAny_pure ?_
    show wpAny _ _ (Builtin.Frozenset.newClass "set" { pos := [.type "set", .ref l] } >>= fun x => newSet x.1 >>= fun y => ret y) _ _ _
    refine wpAny_bind ?_
    have hnc : Builtin.Frozenset.newClass "set" { pos := [.type "set", .ref l] } = pure (.type "set", [.ref l]) := by
      show (isType (.type "set") >>= _) = _
      show (pure true >>= _) = _
      show (isSubtype (.type "set") (.type "set") >>= _) = _
      rw [F.sub_set_set]
      rfl
    rw [hnc]
    refine wpAny_pure ?_
    refine wpAny_bind ?_
    refine wpAny_newSet_of (knd := strKind P w) fun led hs => ?_
    refine wpAny_pure ?_
    exact ⟨led, rfl, rfl, hs⟩
  rintro A' obj s₁ hA' ⟨led, rfl, rfl, hs⟩
  have hA' : A'.handled = none := hA'.trans hA
  generalize hh : s.heap.push { cls := Value.type "set", data := Data.set #[] 0 (SetTable.fresh 0 0 led) } = h1 at hs ⊢
  have hget : h1.get? s.heap.objs.size = some { cls := Value.type "set", data := Data.set #[] 0 (SetTable.fresh 0 0 led) } := by rw [← hh]; exact Heap.get?_push_size _ rfl
  have hold : ∀ (b : Addr) (o : Obj), s.heap.get? b = some o → h1.get? b = some o := fun b o q => by rw [← hh]; exact Heap.get?_push_of_some _ q
  have hty : Shared.TypeIs { heap := h1, gens := s.gens, drawn := s.drawn, toks := s.toks, os := s.os } (.ref s.heap.objs.size) "set" := hs.typeIs
  have hl2 : h1.IsList l items := by
    obtain ⟨o, q1, q2⟩ := hl
    exact ⟨o, hold l o q1, q2⟩
  have htl : Shared.TypeIs { heap := h1, gens := s.gens, drawn := s.drawn, toks := s.toks, os := s.os } (.ref l) "list" := hl2.typeIs
  have hne : l ≠ s.heap.objs.size := fun z => by
    obtain ⟨o, q1, _⟩ := hl
    have h3 := Heap.lt_size q1
    rw [z] at h3
    exact Nat.lt_irrefl _ h3
  refine ⟨hty, ?_⟩
  refine wpAny_call ?_
  refine codeAny_call_builtin (by exact F.called_set.init.plain) F.entry_set_init ?_
  refine check_set_init_1 hty ?_
  unfold Builtin.«set.__init__»
  refine wpAny_bind ?_
  show wpAny _ _ (noKeywords "set" { pos := [.ref s.heap.objs.size, .ref l] }) _ _ _
  have hnk : noKeywords "set" { pos := [.ref s.heap.objs.size, .ref l] } = pure () := rfl
  rw [hnk]
  refine wpAny_pure ?_
  refine wpAny_bind ?_
  show wpAny _ _ (shownTypeOf (.ref s.heap.objs.size) >>= fun x => typeNameCut 200 x) _ _ _
  refine wpAny_bind ?_
  refine wpAny_bind ?_
  refine wpAny_typeOf hty ?_
  refine wpAny_pure ?_
  refine wpAny_pure ?_
  refine wpAny_bind ?_
  refine wpAny_pure ?_
  refine wpAny_bind ?_
  refine wpAny_pure ?_
  refine wpAny_bind ?_
  refine wpAny_bind ?_
  refine wpAny_bind ?_
  refine wpAny_load hget ?_
  refine wpAny_pure ?_
  refine wpAny_pure ?_
  show wpAny _ _ (Builtin.Frozenset.updateFrom "set.__init__" s.heap.objs.size (.ref l) >>= fun _ => ret Value.none) _ _ _
  refine wpAny_bind ?_
  unfold Builtin.Frozenset.updateFrom
  refine wpAny_bind ?_
  have any_ : ∀ Q' : Bool → Shared → Prop, Q' false { heap := h1, gens := s.gens, drawn := s.drawn, toks := s.toks, os := s.os } → ∀ E', wpAny (model P w) A'.in1 (Builtin.Frozenset.isAnySet (.ref l)) Q' E' { heap := h1, gens := s.gens, drawn := s.drawn, toks := s.toks, os := s.os } := fun Q' h E' => by
    unfold Builtin.Frozenset.isAnySet orM
    refine wpAny_bind ?_
    refine wpAny_isInstance htl F.sub_list_set ?_
    exact wpAny_isInstance htl F.sub_list_frozenset h
  refine any_ _ ?_ _
  simp only [Bool.false_eq_true, if_false]
  refine wpAny_bind ?_
  refine wpAny_typeOf htl ?_
  have hne2 : (Value.type "list" == Value.type "dict") = false := by decide
  simp only [hne2, Bool.false_eq_true, if_false]
  refine wpAny_bind ?_
  refine wpAny_pyIter_list hl2 ?_
  refine wpAny_bind ?_
  refine wpAny_runValue ?_
  have hitem : ∀ (i : Nat) (v : Value), items[i]? = some v → ∃ z t, zs[i]? = some z ∧ v = Value.str z t := by
    have key : ∀ (vs : List Value) (ys : List Str), StrsAre vs ys → ∀ (i : Nat) (v : Value), vs[i]? = some v → ∃ z t, ys[i]? = some z ∧ v = Value.str z t := fun vs ys h => by
      induction h with
      | nil => intro i v e; simp at e
      | cons y t _ ih =>
        intro i v e
        cases i with
        | zero => exact ⟨y, t, rfl, (Option.some.inj e).symm⟩
        | succ i => exact ih i v (by simpa using e)
    intro i v e
    exact key _ _ hi i v (by rw [← Array.getElem?_toList] at e; exact e)
  have hsz : items.size = zs.length := by
    have key : ∀ (vs : List Value) (ys : List Str), StrsAre vs ys → vs.length = ys.length := fun vs ys h => by
      induction h with
      | nil => rfl
      | cons _ _ _ ih => exact congrArg (· + 1) ih
    rw [← key _ _ hi, Array.length_toList]
  have hS0 : s.heap.objs.size < h1.objs.size := Heap.lt_size hget
  have hSne : s.heap.objs.size ∉ [h1.objs.size, l] := fun z => by
    simp only [List.mem_cons, List.not_mem_nil, or_false] at z
    rcases z with z | z
    · rw [z] at hS0; exact Nat.lt_irrefl _ hS0
    · exact hne z.symm
  have hIl : l ≠ h1.objs.size := fun z => by
    obtain ⟨o, q1, _⟩ := hl2
    have h3 := Heap.lt_size q1
    rw [z] at h3
    exact Nat.lt_irrefl _ h3
  refine set_update_strs (A := A'.in1) (Walks.toS (Walks.list (A := A'.in1.in1) hA' h1.objs.size l hIl items)) s.heap.objs.size hSne zs hsz hb hitem items.size 0 _ (Nat.sub_zero _) (Nat.zero_le _) ⟨⟨_, Heap.get?_push_size _ rfl, rfl, rfl⟩, ?_⟩ ?_ fun s' mv hs' => ?_
  · obtain ⟨o, q1, q2⟩ := hl2
    exact ⟨o, Heap.get?_push_of_some _ q1, q2⟩
  · exact setOf_move hs fun o q => Heap.get?_push_of_some _ q
  · refine wpAny_pure (wpAny_pure ⟨rfl, ?_⟩)
    obtain ⟨hp, gn, dr, tk, os⟩ := s'
    have e1 := mv.gens
    have e2 := mv.drawn
    have e3 := mv.os
    have e4 := mv.toks
    simp only at e1 e2 e3 e4
    subst e1 e2 e3
    refine hQ hp tk hs' (fun b o q => ?_) e4
    have hb1 := Heap.lt_size q
    refine mv.heap b o (fun z => ?_) (Heap.get?_push_of_some _ (hold b o q))
    simp only [List.mem_cons, List.not_mem_nil, or_false] at z
    rcases z with z | z
    · rw [z] at hb1; exact Nat.lt_irrefl _ hb1
    · rw [z] at hb1; exact Nat.lt_irrefl _ (Nat.lt_trans hb1 hS0)
end
/-! ### the same as rules -/
def SetS (P : Program) (w : World) (a : Addr) (zs : List Str) : HO := .ext fun h => Heap.SetOf (strKind P w) h a (fun z => decide (z ∈ zs)) (cntR zs)
def rSetS (K : Frag) (P : Program) (w : World) : List V → Hp → VK → Prop := fun xs H Q => ∃ (l : Addr) (zs : List Str), xs = [.ref l] ∧ SqL K H l (zs.map V.str) ∧ zs.length ≤ 1000 ∧ ∀ p, H p = none → Q (.ref p) (upd H p (SetS P w p zs))
def rLenS (P : Program) (w : World) : List V → Hp → VK → Prop := fun xs H Q => ∃ (a : Addr) (zs : List Str), xs = [.ref a] ∧ zs.length ≤ 1000 ∧ H a = some (SetS P w a zs) ∧ Q (.int (cntR zs : Nat)) H
theorem setS_ok {P : Program} {w : World} {H : Hp} {h : Heap} {a : Addr} {zs : List Str} (hs : Heap.SetOf (strKind P w) h a (fun z => decide (z ∈ zs)) (cntR zs)) : ObjOk P w H h a (SetS P w a zs) := by
  unfold SetS ObjOk
  refine ⟨hs, ?_, fun h1 h2 f k => setOf_move f k⟩
  obtain ⟨o, es, ep, t, h1, h2⟩ := hs
  exact ⟨o, h1⟩
theorem c_setS {X : Cx} {K : Frag} {P : Program} {w : World} (hc : X.calm = true) (hK : X.K = K := by rfl) (hP : X.prog = P := by rfl) (hw : X.w = w := by rfl) : CallR X (.type "set") (rSetS K P w) := fun pins s σ H xs us Q I r h => by
  subst hK hP hw
  obtain ⟨l, zs, rfl, hq, hz, q⟩ := h
  cases r with
  | cons r1 r2 =>
    cases r2
    cases r1
    obtain ⟨its, rv, pl, _⟩ := I.list hq
    refine call_set_strs (I.ok.hd hc) pl.isList (by exact strs_are rv) (by show zs.length + 1 < 4096; omega) fun h' tk hs ho _ => ?_
    exact ⟨.ref s.heap.objs.size, _, I.laid (a := s.heap.objs.size) (o := SetS X.prog X.w s.heap.objs.size zs) ho (Nat.le_refl _) (setS_ok hs), rfl, q _ (I.hok.fresh (Nat.le_refl _))⟩
theorem c_lenS {X : Cx} {P : Program} {w : World} (hP : X.prog = P := by rfl) (hw : X.w = w := by rfl) : CallR X (.builtin "len") (rLenS P w) := fun pins s σ H xs us Q I r h => by
  subst hP hw
  obtain ⟨a, zs, rfl, hz, hH, q⟩ := h
  cases r with
  | cons r1 r2 =>
    cases r2
    cases r1
    have hs := I.hok a _ hH
    unfold SetS ObjOk at hs
    obtain ⟨⟨o, es, ep, t, h1, h2, h3, h4, h5, h6, h7, h8⟩, _⟩ := hs
    have hc := cntR_le zs
    refine call_len_set h1 h2 h3 h7 (by rw [h8]; omega) ?_
    exact ⟨.int (cntR zs : Nat), H, I.tok _, ⟨_, by rw [h8]⟩, q⟩
section
variable {K : Frag} {ρ : En} {ta : TE} {P : Program} {w : World}
theorem v_lenSet {zs : List Str} (ha : EvL K ta ρ (zs.map PyData.str)) (hz : zs.length ≤ 1000) : Ev K (tCB (rLenS P w) (tCons (tCB (rSetS K P w) (tCons ta tNil)) tNil)) ρ (.int (cntR zs : Nat)) := fun R0 H0 R σ H a Q q => ha R0 H0 R σ H a _ fun p vs R1 H1 g1 sq dv => by
  obtain rfl := dpa_strs dv
  exact ⟨p, zs, rfl, sq, hz, fun b hb => ⟨b, zs, rfl, hz, upd_same, q _ R1 _ (g1.trans (Grow.hide g1.sub hb)) (.int _)⟩⟩
end
/-- names, none twice, are just what is asked of names -/
theorem okNs_nodup {zs : List Str} (h : ∀ z ∈ zs, isNm z = true) : okNs zs = true ↔ zs.Nodup := by
  rw [okNs_iff]
  constructor
  · intro q
    refine List.pairwise_iff_getElem.mpr fun i j hi hj hij e => ?_
    have hw := List.getElem?_eq_getElem hj
    have e : zs[i]? = zs[j]? := by rw [List.getElem?_eq_getElem hi, hw, e]
    have := q j hj
    rw [okN_at hw, Bool.and_eq_true, Bool.not_eq_true'] at this
    have h2 : zs[j] ∈ zs.take j := by
      refine List.mem_of_getElem? (i := i) ?_
      rw [List.getElem?_take, if_pos hij, e, hw]
    rw [Bool.eq_false_iff] at this
    exact this.2 (List.contains_iff_mem.mpr h2)
  · intro q i hi
    have hw := List.getElem?_eq_getElem hi
    rw [okN_at hw, h _ (List.getElem_mem hi), Bool.true_and, Bool.not_eq_true', Bool.eq_false_iff]
    intro c
    obtain ⟨j, hj⟩ := List.mem_iff_getElem?.mp (List.contains_iff_mem.mp c)
    have hjl := getElem?_lt hj
    rw [List.length_take] at hjl
    rw [List.getElem?_take, if_pos (by omega)] at hj
    have := List.pairwise_iff_getElem.mp q j i (by omega) hi (by omega)
    rw [List.getElem?_eq_getElem (by omega)] at hj
    exact this (Option.some.inj hj)
end Pu
set_option maxRecDepth 100000
set_option maxHeartbeats 1000000
namespace Pu
open PySem PySem.Spec PyProof.Rows L2
/-! ### an object made of a list of one's own, which it does not keep -/
end Pu
set_option maxRecDepth 100000
set_option maxHeartbeats 1000000
namespace Pu
open PySem PySem.Spec PyProof.Rows L2
/-! ### a test whose first half changes the thing lent -/
/-! ### sums -/
end Pu
set_option maxRecDepth 100000
set_option maxHeartbeats 1000000
namespace Pu
open PySem PySem.Spec PyProof.Rows L2
/-! ### a value in a tuple of values -/
/-! ### a ledger made, or the text: what came -/
end Pu
set_option maxRecDepth 100000
set_option maxHeartbeats 1000000
namespace Pu
open PySem PySem.Spec PyProof.Rows L2
/-! ### texts cut at a sign, capitals, str of a text -/
/-! ### an expression behind which a token is out -/
/-! ### an own list extended by what a call tells that changes a thing -/
end Pu
set_option maxRecDepth 100000
set_option maxHeartbeats 1000000
namespace Pu
open PySem PySem.Spec PyProof.Rows L2
/-! ### plain signs: no line's end among them -/
def pl (z : Str) : Prop := ∀ c ∈ z.cps.toList, 32 ≤ c ∧ c < 128
/-! ### cut at one sign -/
/-! ### lengths of what is joined -/
/-! ### capitals, blanks doubled -/
theorem replS_mem (y z : List Nat) : ∀ (l : List Nat) (k : Nat), ∀ x ∈ StrLaws.replS y z k l, x ∈ l ∨ x ∈ z
  | [], k, x, hx => by cases k <;> (unfold StrLaws.replS at hx; cases hx)
  | c :: r, 0, x, hx => by
    unfold StrLaws.replS at hx
    split at hx
    · rcases List.mem_append.mp hx with hx | hx
      · exact .inr hx
      · rcases replS_mem y z r _ x hx with q | q
        · exact .inl (List.mem_cons_of_mem _ q)
        · exact .inr q
    · rcases List.mem_cons.mp hx with rfl | hx
      · exact .inl List.mem_cons_self
      · rcases replS_mem y z r _ x hx with q | q
        · exact .inl (List.mem_cons_of_mem _ q)
        · exact .inr q
  | c :: r, k + 1, x, hx => by
    unfold StrLaws.replS at hx
    rcases replS_mem y z r _ x hx with q | q
    · exact .inl (List.mem_cons_of_mem _ q)
    · exact .inr q
theorem repl_list {x y z : Str} (hy : 1 ≤ y.length) : (Txt.replace x y z).cps.toList = StrLaws.replL y.cps.toList z.cps.toList x.cps.toList := StrLaws.replace_list hy
theorem repl_mem {x y z : Str} (hy : 1 ≤ y.length) {c : Nat} (hc : c ∈ (Txt.replace x y z).cps.toList) : c ∈ x.cps.toList ∨ c ∈ z.cps.toList := by
  rw [repl_list hy] at hc
  exact replS_mem _ _ _ _ c hc
end Pu
set_option maxRecDepth 100000
set_option maxHeartbeats 1000000
namespace Pu
open PySem PySem.Spec PyProof.Rows L2
/-! ### a new list told -/
/-! ### facts as rows -/
def strT : D → Str
  | .str z => z
  | .int i => itS i
  | _ => Str.empty
def rowT : D → Str
  | .tuple es => Str.join " " (es.map strT)
  | _ => Str.empty
def wordLow (e : D) : Prop := (∃ i : Int, e = .int i ∧ -1 ≤ i ∧ i < 10000000000000) ∨ ∃ z : Str, e = .str z ∧ z.cps.toList.all lowB = true ∧ 1 ≤ z.length ∧ z.length ≤ 20
def factLow (d : D) : Prop := ∃ es : List D, d = .tuple es ∧ es.length ≤ 3 ∧ ∀ e ∈ es, wordLow e
/-! ### a row's deed -/
def rowDeed (row : Str) : Option Deed := match Txt.split row " " with
  | [a, n, w] => if a = "ask" ∧ okNum w = true then some (.ask n (numOf w)) else none
  | [a, w] => if a = "land" ∧ okNum w = true then some (.land (numOf w)) else none
  | _ => none
def Lg.rowNext (L : Lg) (row : Str) : Lg := match rowDeed row with | some e => if L.can e then L.next e else L | none => L
def Lg.rowTold (L : Lg) (row : Str) : List Str := match rowDeed row with | some e => if L.can e then (L.told e).map rowT else ["refused"] | none => ["refused"]
section
variable {L : Lg} {row : Str} {e : Deed}
theorem wl_int {i : Int} (h : -1 ≤ i ∧ i < 10000000000000) : wordLow (.int i) := .inl ⟨i, rfl, h⟩
theorem wl_str {z : Str} (h : z.cps.toList.all lowB = true) (h1 : 1 ≤ z.length) (h2 : z.length ≤ 20) : wordLow (.str z) := .inr ⟨z, rfl, h, h1, h2⟩
theorem wl_nm {z : Str} (h : isNm z = true) : wordLow (.str z) := by
  obtain ⟨h1, h2, h3⟩ := isNm_low h
  exact wl_str h3 h1 (by omega)
/-- a fact of a ledger's: what its words are -/
inductive Fk (ns : List Str) : D → Prop
  | ask {z : Str} {c : Int} (h : z ∈ ns) (h1 : 0 ≤ c ∧ c ≤ 1000000000000) : Fk ns (askF z c)
  | land {c : Int} (h1 : 0 ≤ c ∧ c ≤ 1000000000000) : Fk ns (landF c)
  | gets {z : Str} {c : Int} (h : z ∈ ns) (h1 : 0 ≤ c ∧ c ≤ 1000000000000) : Fk ns (getsF z c)
  | kept {c : Int} (h1 : 0 ≤ c ∧ c ≤ 1000000000000) : Fk ns (keptF c)
theorem Fk.low {ns : List Str} {d : D} (h : Fk ns d) (hn : ∀ z ∈ ns, isNm z = true) : factLow d ∧ ∃ w r, d = .tuple (.str w :: r) := by
  cases h with
  | ask h h1 => exact ⟨⟨_, rfl, by show 3 ≤ 3; decide, fun e he => by
      simp only [List.mem_cons, List.not_mem_nil, or_false] at he
      rcases he with rfl | rfl | rfl
      · exact wl_str (by decide +kernel) (by decide +kernel) (by decide +kernel)
      · exact wl_nm (hn _ h)
      · exact wl_int (by omega)⟩, _, _, rfl⟩
  | land h1 => exact ⟨⟨_, rfl, by show 2 ≤ 3; decide, fun e he => by
      simp only [List.mem_cons, List.not_mem_nil, or_false] at he
      rcases he with rfl | rfl
      · exact wl_str (by decide +kernel) (by decide +kernel) (by decide +kernel)
      · exact wl_int (by omega)⟩, _, _, rfl⟩
  | gets h h1 => exact ⟨⟨_, rfl, by show 3 ≤ 3; decide, fun e he => by
      simp only [List.mem_cons, List.not_mem_nil, or_false] at he
      rcases he with rfl | rfl | rfl
      · exact wl_str (by decide +kernel) (by decide +kernel) (by decide +kernel)
      · exact wl_nm (hn _ h)
      · exact wl_int (by omega)⟩, _, _, rfl⟩
  | kept h1 => exact ⟨⟨_, rfl, by show 2 ≤ 3; decide, fun e he => by
      simp only [List.mem_cons, List.not_mem_nil, or_false] at he
      rcases he with rfl | rfl
      · exact wl_str (by decide +kernel) (by decide +kernel) (by decide +kernel)
      · exact wl_int (by omega)⟩, _, _, rfl⟩
end
/-! ### what the desk answers -/
theorem readR_ok {t : Str} {u : Cu} {ns : List Str} (h : readR t = some (u, ns)) : u.Ok ∧ lookN u ns = 2 := by
  unfold readR at h
  cases e : parse t 7 0 [] with
  | none => rw [e] at h; cases h
  | some q =>
    obtain ⟨v, m, ys⟩ := q
    rw [e] at h
    have h : (if m = t.length ∧ lookN v ys = 2 then some (v, ys) else none) = some (u, ns) := h
    obtain ⟨b1, b2, b3, b4⟩ := parse_ok t 7 0 [] v m ys (Nat.zero_le _) e
    split at h
    · cases h
      exact ⟨b4, by rename_i q; exact q.2⟩
    · cases h
/-! contracts of the laws of the desk -/
end Pu
set_option maxRecDepth 100000
set_option maxHeartbeats 1000000
namespace Pu
open PySem PySem.Spec PyProof.Rows L2
/-! ### a comprehension in a comprehension -/
/-! ### arguments that raise -/
/-! ### texts cut -/
theorem cutS_to (z : Str) (k : Nat) : (cutS z none (some (k : Int))).cps.toList = z.cps.toList.take k := by
  show (z.cps.toList.drop (HT.sIx z.length 0 none)).take (HT.sIx z.length z.length (some (k : Int)) - HT.sIx z.length 0 none) = _
  rw [HT.sIx_none, HT.sIx_nat, List.drop_zero, Nat.sub_zero]
  have := tl_len z
  by_cases h : k ≤ z.length
  · rw [Nat.min_eq_left h]
  · rw [Nat.min_eq_right (by omega), List.take_of_length_le (by omega), List.take_of_length_le (by omega)]
theorem cutS_from (z : Str) (k : Nat) : (cutS z (some (k : Int)) none).cps.toList = z.cps.toList.drop k := by
  show (z.cps.toList.drop (HT.sIx z.length 0 (some (k : Int)))).take (HT.sIx z.length z.length none - HT.sIx z.length 0 (some (k : Int))) = _
  rw [HT.sIx_none, HT.sIx_nat]
  have := tl_len z
  by_cases h : k ≤ z.length
  · rw [Nat.min_eq_left h, List.take_of_length_le (by rw [List.length_drop]; omega)]
  · rw [Nat.min_eq_right (by omega), Nat.sub_self, List.take_zero, List.drop_of_length_le (by omega)]
theorem cutS_le (z : Str) (lo hi : Option Int) : (cutS z lo hi).length ≤ z.length := L2.cutS_length z lo hi
/-! ### numbers drawn from a list -/
theorem strs_some (zs : List Str) (P : Str → Prop) (h : ∀ z ∈ zs, P z) {k : Int} (h0 : 0 ≤ k) (h1 : k < (zs.length : Int)) : ∃ z, atI (zs.map PyData.str) k = some (.str z) ∧ P z := by
  obtain ⟨m, rfl⟩ : ∃ m : Nat, k = (m : Int) := ⟨k.toNat, by omega⟩
  have hm : m < zs.length := by omega
  exact ⟨zs[m], atI_nat (by rw [List.getElem?_map, List.getElem?_eq_getElem hm]; rfl), h _ (List.getElem_mem hm)⟩
end Pu
set_option maxRecDepth 100000
set_option maxHeartbeats 1000000
namespace Pu
open PySem PySem.Spec PyProof.Rows L2
/-! ### heads that are read, heads that are refused -/
theorem nms {u : Cu} {ns : List Str} (h2 : lookN u ns = 2) : ∀ z ∈ ns, isNm z = true := fun z hz => by
  obtain ⟨i, hi⟩ := List.mem_iff_getElem?.mp hz
  have := okNs_iff.mp (lookN_2 h2).2 i (getElem?_lt hi)
  rw [okN_at hi, Bool.and_eq_true] at this
  exact this.1
/-! without a colon nothing is read -/
def PdC (t : Str) (Pd : Nat → List Str → PRes) : Prop := ∀ n zs u m ys, Pd n zs = some (u, m, ys) → 58 ∈ t.cps.toList
theorem meets_in {t s : Str} {n : Nat} (h : meetsB t s n = true) : ∀ c ∈ s.cps.toList, c ∈ t.cps.toList := fun c hc => by
  have e := of_decide_eq_true h
  rw [← e] at hc
  have hc : c ∈ (t.cps.toList.drop n).take (n + s.length - n) := hc
  exact List.mem_of_mem_drop (List.mem_of_mem_take hc)
theorem parseK_colon {t w : Str} {Pd : Nat → List Str → PRes} (hP : PdC t Pd) : ∀ (f n : Nat) (zs : List Str) (ws : List Int) (ks : List Cu) (u : Cu) (m : Nat) (ys : List Str), parseK Pd t w f n zs ws ks = some (u, m, ys) → 58 ∈ t.cps.toList
  | 0, _, _, _, _, _, _, _, h => by cases h
  | f + 1, n, zs, ws, ks, u, m, ys, h => by
    unfold parseK at h
    cases e1 : (if WEIGHEDL.contains w then wgtAt t n else some (0, n)) with
    | none => rw [e1] at h; cases h
    | some q =>
      obtain ⟨v, m1⟩ := q
      rw [e1] at h
      cases e2 : Pd m1 zs with
      | none => simp only [e2] at h; cases h
      | some q =>
        obtain ⟨k, m2, zs2⟩ := q
        exact hP m1 zs k m2 zs2 e2
theorem parse_colon (t : Str) : ∀ d : Nat, PdC t (parse t d) := fun d => by
  induction d with
  | zero =>
    intro n zs u m ys h
    unfold parse at h
    split at h
    · rename_i hm
      exact meets_in hm 58 (by rw [colon_list]; exact List.mem_cons_self)
    · split at h <;> cases h
  | succ d ih =>
    intro n zs u m ys h
    unfold parse at h
    split at h
    · rename_i hm
      exact meets_in hm 58 (by rw [colon_list]; exact List.mem_cons_self)
    · split at h
      · exact parseK_colon ih _ _ _ _ _ _ _ _ h
      · cases h
/-! ### answers to rows joined -/
end Pu
set_option maxRecDepth 100000
set_option maxHeartbeats 1000000
namespace Pu
open PySem PySem.Spec PyProof.Rows L2
/-! ### rows told, gone through -/
inductive Tr where
  | nil
  | no
  | ask (z : Str) (c : Int)
  | land (c : Int)
  | gets (z : Str) (c : Int)
  | kept (c : Int)
def Tr.t : Tr → Str
  | .nil => Str.empty
  | .no => "refused"
  | .ask z c => rowT (askF z c)
  | .land c => rowT (landF c)
  | .gets z c => rowT (getsF z c)
  | .kept c => rowT (keptF c)
def Tr.ok (ns : List Str) : Tr → Prop
  | .nil => True
  | .no => True
  | .ask z c => z ∈ ns ∧ 0 ≤ c ∧ c ≤ 1000000000000
  | .land c => 0 ≤ c ∧ c ≤ 1000000000000
  | .gets z c => z ∈ ns ∧ 0 ≤ c ∧ c ≤ 1000000000000
  | .kept c => 0 ≤ c ∧ c ≤ 1000000000000
structure Gn where
  claims : List Int
  got : List Int
  kept : Int
def Gn.d (g : Gn) : D := .tuple [.list (g.claims.map PyData.int), .list (g.got.map PyData.int), .int g.kept]
/-! what a ledger tells, as rows -/
def getsTr : List Str → List Int → List Tr
  | z :: zs, f :: fs => (if 0 < f then [.gets z f] else []) ++ getsTr zs fs
  | _, _ => []
def Lg.tr (L : Lg) : Deed → List Tr
  | .ask z c => [.ask z c]
  | .land c => .land c :: getsTr L.ns (L.parts c) ++ (if L.many c < c then [.kept (c - L.many c)] else [])
/-! what they come to -/
end Pu
set_option maxRecDepth 100000
set_option maxHeartbeats 1000000
namespace Pu
open PySem PySem.Spec PyProof.Rows L2
/-! ### other claims twice, the same claims -/
/-! ### a day behind a day -/
theorem addL_assoc : ∀ a b c : List Int, addL (addL a b) c = addL a (addL b c)
  | [], _, _ => by unfold addL; rfl
  | _ :: _, [], _ => by unfold addL; rfl
  | _ :: _, _ :: _, [] => by unfold addL; rfl
  | x :: a, y :: b, z :: c => by
    show (x + y + z) :: addL (addL a b) c = (x + (y + z)) :: addL a (addL b c)
    rw [addL_assoc a b c, Int.add_assoc]
/-- L is as M, with G and R ahead -/
structure Sim (G : List Int) (R : Int) (L M : Lg) : Prop where
  u : L.u = M.u
  ns : L.ns = M.ns
  got : L.got = addL G M.got
  rest : L.rest = R + M.rest
section
variable {G : List Int} {R : Int} {L M : Lg}
theorem Sim.can (h : Sim G R L M) (e : Deed) : L.can e = M.can e := by
  cases e with
  | ask z c => show decide (askC L z c = 2) = decide (askC M z c = 2); unfold askC; rw [h.ns]
  | land c => rfl
theorem Sim.parts (h : Sim G R L M) (c : Int) : L.parts c = M.parts c ∧ L.many c = M.many c := by
  unfold Lg.parts Lg.many
  rw [h.u]
  exact ⟨rfl, rfl⟩
theorem Sim.told (h : Sim G R L M) (e : Deed) : L.told e = M.told e := by
  cases e with
  | ask z c => rfl
  | land c =>
    show L.facts c = M.facts c
    unfold Lg.facts
    rw [(h.parts c).1, (h.parts c).2, h.ns]
theorem Sim.next (h : Sim G R L M) (e : Deed) : Sim G R (L.next e) (M.next e) := by
  cases e with
  | ask z c =>
    refine ⟨?_, h.ns, h.got, h.rest⟩
    show L.u.withC (L.u.claims.set (L.ns.idxOf z) c) = M.u.withC (M.u.claims.set (M.ns.idxOf z) c)
    rw [h.u, h.ns]
  | land c =>
    obtain ⟨h1, h2⟩ := h.parts c
    refine ⟨?_, h.ns, ?_, ?_⟩
    · show L.u.withC (subL L.u.claims (L.parts c)) = M.u.withC (subL M.u.claims (M.parts c))
      rw [h.u, h1]
    · show addL L.got (L.parts c) = addL G (addL M.got (M.parts c))
      rw [h.got, h1, addL_assoc]
    · show L.rest + (c - L.many c) = R + (M.rest + (c - M.many c))
      rw [h.rest, h2, Int.add_assoc]
theorem Sim.row (h : Sim G R L M) (row : Str) : Sim G R (L.rowNext row) (M.rowNext row) ∧ L.rowTold row = M.rowTold row := by
  unfold Lg.rowNext Lg.rowTold
  cases rowDeed row with
  | none => exact ⟨h, rfl⟩
  | some e =>
    show Sim G R (if L.can e then L.next e else L) (if M.can e then M.next e else M) ∧ (if L.can e then (L.told e).map rowT else [("refused" : Str)]) = if M.can e then (M.told e).map rowT else [("refused" : Str)]
    rw [h.can e, h.told e]
    split
    · exact ⟨h.next e, rfl⟩
    · exact ⟨h, rfl⟩
end
/-! ### joined texts joined -/
/-! ### what was gone through may be compared -/
end Pu
set_option maxRecDepth 100000
set_option maxHeartbeats 1000000
namespace Pu
open PySem PySem.Spec PyProof.Rows L2
/-! ### two own lists lent at once -/
end Pu
set_option maxRecDepth 100000
set_option maxHeartbeats 1000000
namespace Pu
open PySem PySem.Spec PyProof.Rows L2
/-! ### a row cut and joined; a number read and written -/
/-! ### where a catch's rows end -/
def Tr.stop : Tr → Prop
  | .gets _ _ => False
  | .kept _ => False
  | _ => True
/-! ### a catch gone through, boat by boat -/
/-- what follows a landing -/
def kp (s c : Int) : List Tr := if s < c then [Tr.kept (c - s)] else []
end Pu
set_option maxRecDepth 100000
set_option maxHeartbeats 1000000
namespace Pu
open PySem PySem.Spec PyProof.Rows L2
end Pu
set_option maxRecDepth 100000
set_option maxHeartbeats 2000000
namespace Pu
open PySem PySem.Spec PyProof.Rows L2
/-! ### the end of a list's iterator while an exception is handled -/
/-! ### a list gone through while an exception is handled -/
end Pu
set_option maxRecDepth 100000
set_option maxHeartbeats 2000000
namespace Pu
open PySem PySem.Spec PyProof.Rows L2
end Pu
set_option maxRecDepth 100000
set_option maxHeartbeats 2000000
namespace Pu
open PySem PySem.Spec PyProof.Rows L2
/-! ### sum of a list while an exception is handled -/
end Pu
set_option maxRecDepth 100000
set_option maxHeartbeats 1000000
namespace Pu
open PySem PySem.Spec PyProof.Rows L2
/-! ### a reader of one's own (k59): what it tells, by what the program's reads -/
/-- the names ahead -/
def ahead (zs : List Str) (r : PRes) : PRes := match r with | none => none | some (u, m, ys) => some (u, m, zs ++ ys)
def PdA (Pd : Nat → List Str → PRes) : Prop := ∀ n zs ys, Pd n (zs ++ ys) = ahead zs (Pd n ys)
theorem knotR_app (w : Str) (ws : List Int) (ks : List Cu) (n : Nat) (zs ys : List Str) : knotR w ws ks n (zs ++ ys) = ahead zs (knotR w ws ks n ys) := by
  unfold knotR
  by_cases h : knotC w ws ks = 4
  · rw [if_pos h, if_pos h]; rfl
  · rw [if_neg h, if_neg h]; rfl
theorem parseK_app {t w : Str} {Pd : Nat → List Str → PRes} (hP : PdA Pd) : ∀ (f n : Nat) (zs ys : List Str) (ws : List Int) (ks : List Cu), parseK Pd t w f n (zs ++ ys) ws ks = ahead zs (parseK Pd t w f n ys ws ks)
  | 0, _, _, _, _, _ => rfl
  | f + 1, n, zs, ys, ws, ks => by
    unfold parseK
    cases e1 : (if WEIGHEDL.contains w then wgtAt t n else some (0, n)) with
    | none => rfl
    | some q =>
      obtain ⟨v, m⟩ := q
      simp only [hP m zs ys]
      cases e2 : Pd m ys with
      | none => rfl
      | some q =>
        obtain ⟨k, m2, zs2⟩ := q
        by_cases c1 : meetsB t ", " m2 = true
        · simp only [ahead, if_pos c1]
          exact parseK_app hP f (m2 + 2) zs zs2 _ (ks ++ [k])
        · by_cases c2 : meetsB t ")" m2 = true
          · simp only [ahead, if_neg c1, if_pos c2]
            exact knotR_app _ _ _ _ _ _
          · simp only [ahead, if_neg c1, if_neg c2]
theorem parse_app (t : Str) : ∀ d : Nat, PdA (parse t d) := fun d => by
  have boat : ∀ (n : Nat) (zs ys : List Str) (o : Option (Int × Nat)), (match o with | none => none | some (v, m) => if v ≤ 1000000000 then some (Cu.boat v, m, (zs ++ ys) ++ [subS t n (runEnd t LET n)]) else none : PRes) = ahead zs (match o with | none => none | some (v, m) => if v ≤ 1000000000 then some (Cu.boat v, m, ys ++ [subS t n (runEnd t LET n)]) else none) := fun n zs ys o => by
    cases o with
    | none => rfl
    | some q =>
      obtain ⟨v, m⟩ := q
      show (if v ≤ 1000000000 then _ else none) = ahead zs (if v ≤ 1000000000 then _ else none)
      by_cases h : v ≤ 1000000000
      · rw [if_pos h, if_pos h, List.append_assoc]; rfl
      · rw [if_neg h, if_neg h]; rfl
  induction d with
  | zero =>
    intro n zs ys
    unfold parse
    by_cases h : meetsB t ":" (runEnd t LET n) = true
    · rw [if_pos h, if_pos h]
      exact boat n zs ys _
    · rw [if_neg h, if_neg h]
      by_cases h2 : meetsB t "(" (runEnd t LET n) = true
      · simp only [if_pos h2]; rfl
      · simp only [if_neg h2]; rfl
  | succ d ih =>
    intro n zs ys
    unfold parse
    by_cases h : meetsB t ":" (runEnd t LET n) = true
    · rw [if_pos h, if_pos h]
      exact boat n zs ys _
    · rw [if_neg h, if_neg h]
      by_cases h2 : meetsB t "(" (runEnd t LET n) = true
      · simp only [if_pos h2]
        exact parseK_app ih _ _ _ _ _ _
      · simp only [if_neg h2]; rfl
/-- what is told: nothing, if a name is none -/
def flt (r : PRes) : PRes := match r with | none => none | some (u, m, ys) => if ys.all isNm then some (u, m, ys) else none
theorem flt_bad {r : PRes} {zs : List Str} (h : ∀ u m ys, r = some (u, m, ys) → ∃ xs, ys = zs ++ xs) (hb : zs.all isNm = false) : flt r = none := by
  cases r with
  | none => rfl
  | some q =>
    obtain ⟨u, m, ys⟩ := q
    obtain ⟨xs, rfl⟩ := h u m ys rfl
    refine if_neg ?_
    rw [List.all_append, hb]
    simp
/-- a weight beyond the bounds, a way that is none: nothing is read -/
theorem parseK_way {t w : Str} {Pd : Nat → List Str → PRes} (hw : WAYSL.contains w = false) : ∀ (f n : Nat) (zs : List Str) (ws : List Int) (ks : List Cu), parseK Pd t w f n zs ws ks = none
  | 0, _, _, _, _ => rfl
  | f + 1, n, zs, ws, ks => by
    unfold parseK
    cases e1 : (if WEIGHEDL.contains w then wgtAt t n else some (0, n)) with
    | none => rfl
    | some q =>
      obtain ⟨v, m⟩ := q
      show (match Pd m zs with | none => none | some (k, m2, zs2) => _) = _
      cases e2 : Pd m zs with
      | none => rfl
      | some q =>
        obtain ⟨k, m2, zs2⟩ := q
        show (if meetsB t ", " m2 then parseK Pd t w f (m2 + 2) zs2 _ (ks ++ [k]) else if meetsB t ")" m2 then knotR w _ (ks ++ [k]) (m2 + 1) zs2 else none) = none
        by_cases c1 : meetsB t ", " m2 = true
        · rw [if_pos c1]
          exact parseK_way hw f _ _ _ _
        · rw [if_neg c1]
          by_cases c2 : meetsB t ")" m2 = true
          · rw [if_pos c2]
            unfold knotR knotC
            rw [hw]
            rfl
          · rw [if_neg c2]
theorem parseK_wgt {t w : Str} {Pd : Nat → List Str → PRes} : ∀ (f n : Nat) (zs : List Str) (ws : List Int) (ks : List Cu), (∃ x ∈ ws, ¬ (1 ≤ x ∧ x ≤ 1000000)) → parseK Pd t w f n zs ws ks = none
  | 0, _, _, _, _, _ => rfl
  | f + 1, n, zs, ws, ks, hb => by
    obtain ⟨x, hx, hxb⟩ := hb
    unfold parseK
    cases e1 : (if WEIGHEDL.contains w then wgtAt t n else some (0, n)) with
    | none => rfl
    | some q =>
      obtain ⟨v, m⟩ := q
      show (match Pd m zs with | none => none | some (k, m2, zs2) => _) = _
      cases e2 : Pd m zs with
      | none => rfl
      | some q =>
        obtain ⟨k, m2, zs2⟩ := q
        show (if meetsB t ", " m2 then parseK Pd t w f (m2 + 2) zs2 (if WEIGHEDL.contains w then ws ++ [v] else ws) (ks ++ [k]) else if meetsB t ")" m2 then knotR w (if WEIGHEDL.contains w then ws ++ [v] else ws) (ks ++ [k]) (m2 + 1) zs2 else none) = none
        have hx2 : x ∈ (if WEIGHEDL.contains w then ws ++ [v] else ws) := by
          split
          · exact List.mem_append_left _ hx
          · exact hx
        generalize (if WEIGHEDL.contains w then ws ++ [v] else ws) = ws2 at hx2
        by_cases c1 : meetsB t ", " m2 = true
        · rw [if_pos c1]
          exact parseK_wgt f _ _ _ _ ⟨x, hx2, hxb⟩
        · rw [if_neg c1]
          by_cases c2 : meetsB t ")" m2 = true
          · rw [if_pos c2]
            unfold knotR
            refine if_neg fun h4 => hxb ?_
            unfold knotC at h4
            split at h4
            · rename_i hway
              obtain ⟨y, rfl⟩ := way_cases hway
              split at h4
              · rename_i hf
                have := wfit_iff.mp hf
                split at this
                · exact this.2 x hx2
                · rw [this] at hx2
                  cases hx2
              · cases h4
            · cases h4
          · rw [if_neg c2]
/-- what is read is no deeper than it may be -/
def PdD (d : Nat) (Pd : Nat → List Str → PRes) : Prop := ∀ n zs u m ys, Pd n zs = some (u, m, ys) → u.deep ≤ d
end Pu
set_option maxRecDepth 100000
set_option maxHeartbeats 1000000
namespace Pu
open PySem PySem.Spec PyProof.Rows L2
/-! ### no deeper than it may be -/
theorem deepL_app : ∀ (ks : List Cu) (k : Cu), Cu.deepL (ks ++ [k]) = max (Cu.deepL ks) k.deep
  | [], k => by show max k.deep 0 = max 0 k.deep; omega
  | a :: r, k => by
    show max a.deep (Cu.deepL (r ++ [k])) = max (max a.deep (Cu.deepL r)) k.deep
    rw [deepL_app r k]
    omega
theorem parseK_deep {t w : Str} {d : Nat} {Pd : Nat → List Str → PRes} (hP : PdD d Pd) : ∀ (f n : Nat) (zs : List Str) (ws : List Int) (ks : List Cu) (u : Cu) (m : Nat) (ys : List Str), Cu.deepL ks ≤ d → parseK Pd t w f n zs ws ks = some (u, m, ys) → u.deep ≤ d + 1
  | 0, _, _, _, _, _, _, _, _, h => by cases h
  | f + 1, n, zs, ws, ks, u, m, ys, hk, h => by
    unfold parseK at h
    cases e1 : (if WEIGHEDL.contains w then wgtAt t n else some (0, n)) with
    | none => rw [e1] at h; cases h
    | some q =>
      obtain ⟨v, m1⟩ := q
      rw [e1] at h
      cases e2 : Pd m1 zs with
      | none => simp only [e2] at h; cases h
      | some q =>
        obtain ⟨k, m2, zs2⟩ := q
        simp only [e2] at h
        have hk2 : Cu.deepL (ks ++ [k]) ≤ d := by
          have := hP m1 zs k m2 zs2 e2
          rw [deepL_app]
          omega
        by_cases c1 : meetsB t ", " m2 = true
        · rw [if_pos c1] at h
          exact parseK_deep hP f (m2 + 2) zs2 _ (ks ++ [k]) u m ys hk2 h
        · rw [if_neg c1] at h
          by_cases c2 : meetsB t ")" m2 = true
          · rw [if_pos c2] at h
            generalize (if WEIGHEDL.contains w then ws ++ [v] else ws) = ws2 at h
            unfold knotR at h
            split at h
            · cases h
              show 1 + Cu.deepL (ks ++ [k]) ≤ d + 1
              omega
            · cases h
          · rw [if_neg c2] at h
            cases h
theorem boat_deep {t : Str} {n : Nat} {zs : List Str} {u : Cu} {m : Nat} {ys : List Str} (h : (match numAt t (runEnd t LET n + 1) with
    | none => none
    | some (v, m) => if v ≤ 1000000000 then some (Cu.boat v, m, zs ++ [subS t n (runEnd t LET n)]) else none) = some (u, m, ys)) : u.deep = 1 := by
  cases e : numAt t (runEnd t LET n + 1) with
  | none => simp only [e] at h; cases h
  | some q =>
    obtain ⟨v, m1⟩ := q
    simp only [e] at h
    split at h
    · cases h; rfl
    · cases h
theorem parse_deep (t : Str) : ∀ d : Nat, PdD (d + 1) (parse t d) := fun d => by
  induction d with
  | zero =>
    intro n zs u m ys h
    unfold parse at h
    split at h
    · exact Nat.le_of_eq (boat_deep h)
    · split at h <;> cases h
  | succ d ih =>
    intro n zs u m ys h
    unfold parse at h
    split at h
    · have := boat_deep h
      omega
    · split at h
      · exact parseK_deep ih _ _ _ _ _ _ _ _ (Nat.zero_le _) h
      · cases h
/-! ### how many colons and commas a text has -/
def cntS (c : Nat) (z : Str) : Nat := z.cps.toList.count c
theorem cnt_cat (c : Nat) (a b : Str) : cntS c (a ++ b) = cntS c a + cntS c b := by
  unfold cntS
  rw [cat_list, List.count_append]
theorem cnt_none {c : Nat} {z : Str} (h : c ∉ z.cps.toList) : cntS c z = 0 := List.count_eq_zero.mpr h
theorem cnt_join (c : Nat) (s : Str) : ∀ xs : List Str, cntS c (Str.join s xs) + cntS c s ≤ (xs.map (cntS c)).sum + xs.length * cntS c s + (if xs = [] then cntS c s else 0)
  | [] => by show 0 + _ ≤ 0 + 0 * _ + _; rw [if_pos rfl]; omega
  | [x] => by
    rw [if_neg (List.cons_ne_nil _ _)]
    show cntS c x + cntS c s ≤ (cntS c x + 0) + 1 * cntS c s + 0
    omega
  | x :: y :: r => by
    have ih := cnt_join c s (y :: r)
    rw [if_neg (List.cons_ne_nil _ _)] at ih ⊢
    rw [join_cons2, cnt_cat, cnt_cat, List.map_cons, List.sum_cons, List.length_cons, Nat.succ_mul]
    omega
theorem low_free {z : Str} (h : z.cps.toList.all lowB = true) {c : Nat} (hc : lowB c = false) : c ∉ z.cps.toList := fun m => by
  have := List.all_eq_true.mp h c m
  rw [hc] at this
  cases this
theorem itS_free {i : Int} (h : 0 ≤ i) {c : Nat} (hc : c < 48 ∨ 57 < c) : c ∉ (itS i).cps.toList := fun m => by
  obtain ⟨n, rfl⟩ := nat_int h
  rw [itS_list] at m
  exact TL.numL_free hc m
/-- colons: one a boat; commas: fewer than boats -/
def Cnts (u : Cu) : Prop := ∀ ns : List Str, u.ok → u.claims.length ≤ ns.length → (∀ z ∈ ns, isNm z = true) → cntS 58 (u.text ns) ≤ u.claims.length ∧ cntS 44 (u.text ns) + 1 ≤ u.claims.length
theorem texts_cnt (b : Bool) : ∀ (ks : List Cu) (ws : List Int) (ns : List Str), (∀ k ∈ ks, Cnts k ∧ k.ok) → (∀ w ∈ ws, 0 ≤ w) → (Cu.claimsL ks).length ≤ ns.length → (∀ z ∈ ns, isNm z = true) → ((Cu.texts b ks ws ns).map (cntS 58)).sum ≤ (Cu.claimsL ks).length ∧ ((Cu.texts b ks ws ns).map (cntS 44)).sum + ks.length ≤ (Cu.claimsL ks).length
  | [], ws, ns, _, _, _, _ => by unfold Cu.texts; exact ⟨Nat.zero_le _, Nat.zero_le _⟩
  | k :: r, ws, ns, hk, hw, hl, hn => by
    have e : Cu.texts b (k :: r) ws ns = wk b (ws.headD 0) (k.text ns) :: Cu.texts b r ws.tail (ns.drop k.claims.length) := by
      conv => lhs; unfold Cu.texts
    have hcl : (Cu.claimsL (k :: r)).length = k.claims.length + (Cu.claimsL r).length := by
      show (k.claims ++ Cu.claimsL r).length = _
      rw [List.length_append]
    obtain ⟨h1, h2⟩ := hk k List.mem_cons_self
    obtain ⟨a1, a2⟩ := h1 ns h2 (by omega) hn
    obtain ⟨b1, b2⟩ := texts_cnt b r ws.tail (ns.drop k.claims.length) (fun x hx => hk x (List.mem_cons_of_mem _ hx)) (fun w h => hw w (List.mem_of_mem_tail h)) (by rw [List.length_drop]; omega) (fun z hz => hn z (List.mem_of_mem_drop hz))
    have hw0 : 0 ≤ ws.headD 0 := by
      cases ws with
      | nil => exact Int.le_refl _
      | cons w q => exact hw w List.mem_cons_self
    have wk0 : ∀ c : Nat, (c < 48 ∨ 57 < c) → c ≠ 32 → cntS c (wk b (ws.headD 0) (k.text ns)) = cntS c (k.text ns) := fun c hc hc2 => by
      unfold wk
      split
      · rw [cnt_cat, cnt_cat, cnt_none (itS_free hw0 hc), cnt_none (z := " ") (by rw [blank_list]; intro m; exact hc2 (List.mem_singleton.mp m))]
        omega
      · rfl
    rw [e, List.map_cons, List.map_cons, List.sum_cons, List.sum_cons, hcl, wk0 58 (.inr (by decide)) (by decide), wk0 44 (.inl (by decide)) (by decide), List.length_cons]
    exact ⟨by omega, by omega⟩
theorem text_cnt : ∀ u : Cu, Cnts u := fun u => Cu.ind (P := Cnts) (fun c ns hok hl hn => by
  cases ns with
  | nil => exact absurd (show 1 ≤ 0 from hl) (by decide)
  | cons z ns =>
    have et : Cu.text (.boat c) (z :: ns) = z ++ (":" : Str) ++ itS c := by unfold Cu.text; rfl
    have h3 := (isNm_low (hn z List.mem_cons_self)).2.2
    have hc : 0 ≤ c := hok.1
    have e58 : cntS 58 (":" : Str) = 1 := by decide +kernel
    have e44 : cntS 44 (":" : Str) = 0 := by decide +kernel
    rw [et, cnt_cat, cnt_cat, cnt_cat, cnt_cat, cnt_none (low_free h3 (c := 58) (by decide)), cnt_none (low_free h3 (c := 44) (by decide)), cnt_none (itS_free hc (c := 58) (.inr (by decide))), cnt_none (itS_free hc (c := 44) (.inl (by decide))), e58, e44]
    exact ⟨Nat.le_refl 1, Nat.le_refl 1⟩) (fun y ws ks ih ns hok hl hn => by
  have et : Cu.text (.knot y ws ks) ns = y.s ++ ("(" : Str) ++ Str.join (", " : Str) (Cu.texts y.wd ks ws ns) ++ (")" : Str) := by unfold Cu.text; rfl
  obtain ⟨⟨hne, hk12, hwf⟩, hoks⟩ := hok
  have hw : ∀ w ∈ ws, 0 ≤ w := fun w hw => by
    have h3 := wfit_iff.mp hwf
    split at h3
    · have := h3.2 w hw
      omega
    · rw [h3] at hw
      cases hw
  obtain ⟨a1, a2⟩ := texts_cnt y.wd ks ws ns (fun k hk => ⟨ih k hk, Cu.okL_all.mp hoks k hk⟩) hw hl hn
  have j58 := cnt_join 58 (", " : Str) (Cu.texts y.wd ks ws ns)
  have j44 := cnt_join 44 (", " : Str) (Cu.texts y.wd ks ws ns)
  have tl := texts_len y.wd ks ws ns
  have hkp := List.length_pos_iff.mpr hne
  have hnn : Cu.texts y.wd ks ws ns ≠ [] := fun e => by rw [e] at tl; have : 0 = ks.length := tl; omega
  have s58 : cntS 58 (", " : Str) = 0 := by decide +kernel
  have s44 : cntS 44 (", " : Str) = 1 := by decide +kernel
  rw [if_neg hnn, tl, s58] at j58
  rw [if_neg hnn, tl, s44] at j44
  have o58 : cntS 58 ("(" : Str) = 0 := by decide +kernel
  have o44 : cntS 44 ("(" : Str) = 0 := by decide +kernel
  have c58 : cntS 58 (")" : Str) = 0 := by decide +kernel
  have c44 : cntS 44 (")" : Str) = 0 := by decide +kernel
  rw [et, cnt_cat, cnt_cat, cnt_cat, cnt_cat, cnt_cat, cnt_cat, cnt_none (low_free (ys_low y) (c := 58) (by decide)), cnt_none (low_free (ys_low y) (c := 44) (by decide)), o58, o44, c58, c44]
  have hc : (Cu.knot y ws ks).claims.length = (Cu.claimsL ks).length := rfl
  rw [hc]
  exact ⟨by omega, by omega⟩) u
end Pu
set_option maxRecDepth 100000
set_option maxHeartbeats 2000000
namespace Pu
open PySem PySem.Spec PyProof.Rows L2
/-! ### a text replaced by one drawn from five written ones -/
def tReplD (to : TE) (y : Str) (zs : List Str) (ti : TE) : TE := fun σ H Q => to σ H fun v H1 => ∃ x, v = .str x ∧ ti σ H1 fun w H2 => ∃ (i : Nat) (z : Str), w = .int (i : Int) ∧ zs[i]? = some z ∧ (y == z) = false ∧ x.length + (x.length + 1) * z.length ≤ 16777216 ∧ Q (.str (Txt.replace x y z)) H2
section
variable {X : Cx} {o ix : Expr} {to ti : TE} {y z0 z1 z2 z3 z4 : Str} {j k0 k1 k2 k3 k4 : Nat} {cy c0 c1 c2 c3 c4 apos pos lp sp : Pos}
theorem pet_replD (ho : PE X o to) (hi : PE X ix ti) (hpl : PlainIx ix)
    (hst : starEach [.Constant (.str y) j cy, .Subscript (.List [.Constant (.str z0) k0 c0, .Constant (.str z1) k1 c1, .Constant (.str z2) k2 c2, .Constant (.str z3) k3 c3, .Constant (.str z4) k4 c4] lp) ix sp] X.env = [(false, eval (.Constant (.str y) j cy) X.env), (false, eval (.Subscript (.List [.Constant (.str z0) k0 c0, .Constant (.str z1) k1 c1, .Constant (.str z2) k2 c2, .Constant (.str z3) k3 c3, .Constant (.str z4) k4 c4] lp) ix sp) X.env)] := by rfl)
    (hbase : attributeBase o "replace" X.env (eval o X.env) = eval o X.env := by rfl) (hline : (apos.endLine == pos.line) = true := by rfl) :
    L2.PET X (.Call (.Attribute o "replace" apos) [.Constant (.str y) j cy, .Subscript (.List [.Constant (.str z0) k0 c0, .Constant (.str z1) k1 c1, .Constant (.str z2) k2 c2, .Constant (.str z3) k3 c3, .Constant (.str z4) k4 c4] lp) ix sp] [] pos) (tReplD to y [z0, z1, z2, z3, z4] ti) := by
  intro pins s σ H Q h0 I h
  refine PySem.Call_method2 hbase hst hline (wpAny_mono (PySem.wpAny_toks (ho.run pins s σ H _ I h)) (fun v s1 q => ?_) fun _ _ w => w.2)
  obtain ⟨hk, v', H1, I1, r1, x, rfl, q⟩ := q
  obtain ⟨tx, rfl⟩ := r1
  refine ⟨"str", _, PySem.F.plainAttrs_str, PySem.F.slot_str_replace, PySem.F.type_str_replace, typeIs_str _ _ _, (fun _ e => nomatch e), Calls.callWith_builtin rfl (Calls.evalArgs_plain (Calls.spliced_cons (Calls.Constant_str (Calls.spliced_cons ?_))))⟩
  refine Subscript_ (wpAny_List_spliced ?_)
  show wpAny _ _ (spliced ((false, eval (.Constant (.str z0) k0 c0) X.env) :: (false, eval (.Constant (.str z1) k1 c1) X.env) :: (false, eval (.Constant (.str z2) k2 c2) X.env) :: (false, eval (.Constant (.str z3) k3 c3) X.env) :: (false, eval (.Constant (.str z4) k4 c4) X.env) :: [])) _ _ _
  refine Calls.spliced_cons (Calls.Constant_str (Calls.spliced_cons (Calls.Constant_str (Calls.spliced_cons (Calls.Constant_str (Calls.spliced_cons (Calls.Constant_str (Calls.spliced_cons (Calls.Constant_str (Calls.spliced_nil ?_))))))))))
  refine ⟨by show 5 ≤ sizeLine; decide, ?_⟩
  obtain ⟨its, hits⟩ : ∃ its : List Value, its = [.str z0 (s1.toks + 1), .str z1 (s1.toks + 1 + 1), .str z2 (s1.toks + 1 + 1 + 1), .str z3 (s1.toks + 1 + 1 + 1 + 1), .str z4 (s1.toks + 1 + 1 + 1 + 1 + 1)] := ⟨_, rfl⟩
  obtain ⟨ob, hob⟩ : ∃ ob : Obj, ob = { cls := .type "list", data := .seq its.toArray } := ⟨_, rfl⟩
  show wpAny _ _ (eval ix X.env) _ _ { s1 with heap := s1.heap.push { cls := .type "list", data := .seq [.str z0 (s1.toks + 1), .str z1 (s1.toks + 1 + 1), .str z2 (s1.toks + 1 + 1 + 1), .str z3 (s1.toks + 1 + 1 + 1 + 1), .str z4 (s1.toks + 1 + 1 + 1 + 1 + 1)].toArray }, toks := s1.toks + 6 }
  rw [← hits, ← hob]
  have gob : (s1.heap.push ob).get? s1.heap.objs.size = some ob := Heap.get?_push_size _ (by rw [hob]; rfl)
  have I2 : Inv X pins σ H1 { s1 with heap := s1.heap.push ob, toks := s1.toks + 6 } := I1.kept fun b o e => Heap.get?_push_of_some _ e
  have I3 := I2.pinned (fp := [s1.heap.objs.size]) (fun b hb => by
    rw [List.mem_singleton.mp hb]
    exact I1.fpOk (Nat.le_refl _) (I1.hok.fresh (Nat.le_refl _))) (fun b hb => by
    rw [List.mem_singleton.mp hb]
    exact ⟨ob, gob, fun v e => by rw [hob] at e; cases e⟩)
  refine thn (hi.run _ _ σ H1 _ I3 q) fun u s2 ⟨w, H2, I4, r4, i, z, ew, hz, hyz, hb, q2⟩ => ?_
  subst ew
  obtain ⟨tk, rfl⟩ := r4
  have g2 : s2.heap.get? s1.heap.objs.size = some ob := (I4.pin (s1.heap.objs.size, ob) (List.mem_append_right _ (List.mem_append_right _ (mem_pinsAt (List.mem_singleton.mpr rfl) gob)))).1
  obtain ⟨t, ht, ht1⟩ : ∃ t : Nat, its[i]? = some (.str z t) ∧ s1.toks < t := by
    rw [hits]
    match i, hz with
    | 0, hz => cases hz; exact ⟨_, rfl, by omega⟩
    | 1, hz => cases hz; exact ⟨_, rfl, by omega⟩
    | 2, hz => cases hz; exact ⟨_, rfl, by omega⟩
    | 3, hz => cases hz; exact ⟨_, rfl, by omega⟩
    | 4, hz => cases hz; exact ⟨_, rfl, by omega⟩
    | i + 5, hz => simp at hz
  have hil : i < 5 := getElem?_lt hz
  refine item_listR (items := its.toArray) ⟨ob, g2, by rw [hob], 0, by rw [hob]⟩ (by omega) (by omega) (x := .str z t) (by simpa using ht) (Calls.spliced_nil ?_) (hpl _ _)
  exact PySem.SC.replace (u := s1.toks) (v := t) (show s1.toks ≠ 0 by omega) (show t ≠ 0 by omega) (show s1.toks ≠ t by omega) hyz hb fun t' k => ⟨.str (Txt.replace x y z), H2, I4.unpinned.tok k, ⟨t', rfl⟩, q2⟩
end
section
variable {K : Frag} {ρ : En} {ta ti : TE} {a y z : Str} {zs : List Str} {i : Nat}
theorem v_replD (ha : Ev K ta ρ (.str a)) (hi : Ev K ti ρ (.int (i : Int))) (hz : zs[i]? = some z) (hyz : (y == z) = false) (hb : a.length + (a.length + 1) * z.length ≤ 16777216) : Ev K (tReplD ta y zs ti) ρ (.str (Txt.replace a y z)) := fun R0 H0 R σ H A Q q => ha R0 H0 R σ H A _ fun x R1 H1 g1 dx => by
  cases dx
  refine ⟨a, rfl, hi R0 H0 R1 σ H1 (A.grow g1) _ fun w R2 H2 g2 dw => ?_⟩
  cases dw
  exact ⟨i, z, rfl, hz, hyz, hb, q _ R2 H2 (g1.trans g2) (.str _)⟩
end
end Pu
set_option maxRecDepth 100000
set_option maxHeartbeats 1000000
namespace Pu
open PySem PySem.Spec PyProof.Rows L2
/-! ### a text's measure: each sign one, a colon ten, a comma eleven -/
def gS (c : Nat) : Nat := if c = 58 then 10 else if c = 44 then 11 else 1
def mL (l : List Nat) : Nat := (l.map gS).sum
def meas (z : Str) : Nat := mL z.cps.toList
theorem gS_pos (c : Nat) : 1 ≤ gS c ∧ gS c ≤ 11 := by
  unfold gS
  split
  · exact ⟨by decide, by decide⟩
  · split
    · exact ⟨by decide, by decide⟩
    · exact ⟨by decide, by decide⟩
theorem mL_app (a b : List Nat) : mL (a ++ b) = mL a + mL b := by unfold mL; rw [List.map_append, List.sum_append]
theorem mL_cons (c : Nat) (l : List Nat) : mL (c :: l) = gS c + mL l := by unfold mL; rw [List.map_cons, List.sum_cons]
theorem mL_len : ∀ l : List Nat, l.length ≤ mL l
  | [] => Nat.le_refl _
  | c :: r => by
    have := mL_len r
    have := (gS_pos c).1
    rw [mL_cons, List.length_cons]
    omega
theorem meas_cat (a b : Str) : meas (a ++ b) = meas a + meas b := by
  unfold meas
  rw [cat_list, mL_app]
theorem meas_len (z : Str) : z.length ≤ meas z := by
  have := mL_len z.cps.toList
  rw [tl_len] at this
  exact this
theorem mL_count : ∀ l : List Nat, mL l = l.length + 9 * l.count 58 + 10 * l.count 44
  | [] => rfl
  | c :: r => by
    rw [mL_cons, mL_count r, List.length_cons, List.count_cons, List.count_cons]
    unfold gS
    by_cases h : c = 58
    · subst h
      rw [if_pos rfl, if_pos (by decide), if_neg (by decide)]
      omega
    · by_cases h2 : c = 44
      · subst h2
        rw [if_neg (by decide), if_pos rfl, if_neg (by decide), if_pos (by decide)]
        omega
      · rw [if_neg h, if_neg h2, if_neg (by simpa using h), if_neg (by simpa using h2)]
        omega
theorem meas_count (z : Str) : meas z = z.length + 9 * cntS 58 z + 10 * cntS 44 z := by
  unfold meas cntS
  rw [mL_count, tl_len]
theorem mL_take (l : List Nat) (n : Nat) : mL (l.take n) + mL (l.drop n) = mL l := by
  rw [← mL_app, List.take_append_drop]
theorem mL_drop (l : List Nat) (n m : Nat) (h : n ≤ m) : mL (l.drop m) ≤ mL (l.drop n) := by
  have := mL_take (l.drop n) (m - n)
  rw [List.drop_drop, show n + (m - n) = m by omega] at this
  omega
theorem meas_to (z : Str) (k : Nat) : meas (cutS z none (some (k : Int))) = mL (z.cps.toList.take k) := by unfold meas; rw [cutS_to]
theorem meas_from (z : Str) (k : Nat) : meas (cutS z (some (k : Int)) none) = mL (z.cps.toList.drop k) := by unfold meas; rw [cutS_from]
theorem mL_repl {y z : List Nat} {r : Nat} (hy : y ≠ []) (hr : 1 ≤ r) (h : mL z ≤ r * mL y) : ∀ (n : Nat) (l : List Nat), l.length = n → mL (StrLaws.replL y z l) ≤ r * mL l := fun n => by
  induction n using Nat.strongRecOn with
  | ind n ih =>
    intro l hl
    cases l with
    | nil => rw [StrLaws.replL_nil]; exact Nat.zero_le _
    | cons c q =>
      by_cases hit : (c :: q).take y.length = y
      · rw [StrLaws.replL_hit hy hit, mL_app]
        have hyl := List.length_pos_iff.mpr hy
        have i1 := ih ((c :: q).drop y.length).length (by rw [List.length_drop]; simp at hl ⊢; omega) _ rfl
        have i2 := mL_take (c :: q) y.length
        rw [hit] at i2
        rw [← i2, Nat.mul_add]
        omega
      · rw [StrLaws.replL_miss hit, mL_cons, mL_cons, Nat.mul_add]
        have i1 := ih q.length (by simp at hl; omega) q rfl
        have : gS c ≤ r * gS c := Nat.le_mul_of_pos_left _ hr
        omega
theorem meas_repl {x y z : Str} {r : Nat} (hy : 1 ≤ y.length) (hr : 1 ≤ r) (h : meas z ≤ r * meas y) : meas (Txt.replace x y z) ≤ r * meas x := by
  unfold meas
  rw [repl_list hy]
  exact mL_repl (fun e => by have := tl_len y; rw [e] at this; simp at this; omega) hr h _ _ rfl
theorem repl_asc {x y z : Str} (hy : 1 ≤ y.length) (hx : asc x) (hz : asc z) : asc (Txt.replace x y z) := fun c hc => by
  rcases repl_mem hy hc with h | h
  · exact hx c h
  · exact hz c h
theorem text_meas {u : Cu} {ns : List Str} (h : u.Ok) (hl : ns.length = u.claims.length) (hn : ∀ z ∈ ns, isNm z = true) : meas (u.text ns) ≤ 5100 := by
  have h1 := text_short h (ns := ns) fun z hz => (isNm_low (hn z hz)).2.1
  obtain ⟨h2, h3⟩ := text_cnt u ns h.ok (by omega) hn
  have := h.few
  rw [meas_count]
  omega
def isSpoil (t : Str) (d : D) : Prop := ∃ z : Str, d = .str z ∧ asc z ∧ meas z ≤ 3 * meas t + 4000
def cSpoiled : Ct := fun ds k => ∃ (t : Str) (c : Int), ds = [.str t, .int c] ∧ asc t ∧ meas t ≤ 20000 ∧ ∀ d, isSpoil t d → k.rt d
end Pu
set_option maxRecDepth 100000
set_option maxHeartbeats 1000000
namespace Pu
open PySem PySem.Spec PyProof.Rows L2
/-! ### contracts of the law's own reader (k59) -/
def runD (t s : Str) (n : Nat) : D := .tuple [.str (subS t n (runEnd t s n)), .int ((runEnd t s n : Nat) : Int)]
def cLRun : Ct := fun ds k => ∃ (t s : Str) (n : Nat), ds = [.str t, .int (n : Int), .str s] ∧ n ≤ t.length ∧ t.length ≤ 90000 ∧ k.rt (runD t s n)
theorem lRun_v {t s : Str} {n : Nat} (h1 : n ≤ t.length) (h2 : t.length ≤ 90000) : cLRun [.str t, .int (n : Int), .str s] (kv (runD t s n)) := ⟨t, s, n, rfl, h1, h2, rfl⟩
/-- a number within bounds, the place behind it -/
def numL (t : Str) (n : Nat) (lo hi : Int) : Option (Int × Nat) := match numAt t n with | none => none | some (v, m) => if lo ≤ v ∧ v ≤ hi then some (v, m) else none
def numLD (r : Option (Int × Nat)) : D := match r with | none => .none | some (v, m) => .tuple [.int v, .int ((m : Nat) : Int)]
def cLNum : Ct := fun ds k => ∃ (t : Str) (n : Nat) (lo hi : Int), ds = [.str t, .int (n : Int), .int lo, .int hi] ∧ n ≤ t.length ∧ t.length ≤ 90000 ∧ asc t ∧ k.rt (numLD (numL t n lo hi))
theorem lNum_v {t : Str} {n : Nat} {lo hi : Int} (h1 : n ≤ t.length) (h2 : t.length ≤ 90000) (h3 : asc t) : cLNum [.str t, .int (n : Int), .int lo, .int hi] (kv (numLD (numL t n lo hi))) := ⟨t, n, lo, hi, rfl, h1, h2, h3, rfl⟩
/-- what is read, told -/
def readD (r : PRes) : D := match flt r with | none => .none | some (u, m, ys) => .tuple [u.d, .list (ys.map PyData.str), .int ((m : Nat) : Int)]
theorem flt_ok {u : Cu} {m : Nat} {ys : List Str} (h : ys.all isNm = true) : flt (some (u, m, ys)) = some (u, m, ys) := if_pos h
theorem flt_no {u : Cu} {m : Nat} {ys : List Str} (h : ys.all isNm = false) : flt (some (u, m, ys)) = none := if_neg (by rw [h]; decide)
theorem readD_ok {u : Cu} {m : Nat} {ys : List Str} (h : ys.all isNm = true) : readD (some (u, m, ys)) = .tuple [u.d, .list (ys.map PyData.str), .int ((m : Nat) : Int)] := by
  unfold readD
  rw [flt_ok h]
theorem readD_no {u : Cu} {m : Nat} {ys : List Str} (h : ys.all isNm = false) : readD (some (u, m, ys)) = .none := by
  unfold readD
  rw [flt_no h]
theorem readD_none {r : PRes} (h : flt r = none) : readD r = .none := by
  unfold readD
  rw [h]
/-- parse d: at deep = 8 - d -/
def cLCustom (dd : Nat) : Ct := fun ds k => ∃ (t : Str) (n d : Nat), ds = [.str t, .int (n : Int), .int ((8 - d : Nat) : Int)] ∧ d + 1 ≤ dd ∧ d ≤ 7 ∧ n ≤ t.length ∧ t.length ≤ 90000 ∧ asc t ∧ k.rt (readD (parse t d n []))
def cLKids (dd : Nat) : Ct := fun ds k => ∃ (t w : Str) (n d : Nat), ds = [.str t, .int (n : Int), .int ((7 - d : Nat) : Int), .str w] ∧ d + 1 ≤ dd ∧ d ≤ 6 ∧ WAYSL.contains w = true ∧ n ≤ t.length ∧ t.length ≤ 90000 ∧ asc t ∧ k.rt (readD (parseK (parse t d) t w (t.length + 1) n [] [] []))
def readL (t : Str) : D := match readR t with | none => .none | some (u, ns) => .tuple [u.d, .list (ns.map PyData.str)]
def cLRead : Ct := fun ds k => ∃ t : Str, ds = [.str t] ∧ t.length ≤ 90000 ∧ asc t ∧ k.rt (readL t)
def foundL (t : Str) : D := match readR t with | none => .list [.bool true, .bool true, .bool true] | some (u, ns) => .tuple [u.d, .list (ns.map PyData.str)]
def cLFound : Ct := fun ds k => ∃ t : Str, ds = [.str t] ∧ t.length ≤ 90000 ∧ asc t ∧ k.rt (foundL t)
end Pu
set_option maxRecDepth 100000
set_option maxHeartbeats 1000000
namespace Pu
open PySem PySem.Spec PyProof.Rows L2
/-! ### expressions and arguments of which only something is known -/
def EvP (K : Frag) (te : TE) (ρ : En) (P : D → Prop) : Prop := ∀ R0 H0 R σ H, At K R0 H0 R ρ σ H → ∀ Q : VK, (∀ v R' H' d, P d → Grow R H R' H' → Dp K R' v d → Q v H') → te σ H Q
def EvAP (K : Frag) (ta : TA) (ρ : En) (P : List D → Prop) : Prop := ∀ R0 H0 R σ H, At K R0 H0 R ρ σ H → ∀ Q : List V → Hp → Prop, (∀ vs R' H' ds, P ds → Grow R H R' H' → DpAll K R' vs ds → Q vs H') → ta σ H Q
section
variable {K : Frag} {ρ : En} {te : TE} {ta tr : TA} {c : Ct} {d : D} {ds : List D} {E : L2.St → XK} {W : WX} {ex : Value → En → Prop} {k : Ko} {i : Nat}
theorem ep_ev (h : Ev K te ρ d) : EvP K te ρ (fun e => e = d) := fun R0 H0 R σ H a Q q => h R0 H0 R σ H a Q fun v R' H' g dv => q v R' H' d rfl g dv
theorem ep_call (P : D → Prop) (ha : EvA K ta ρ ds) (hc : c ds ⟨P, fun _ => False, fun _ => False⟩) : EvP K (tCallS (spc K c) E ta) ρ P := fun R0 H0 R σ H a Q q => ha R0 H0 R σ H a _ fun vs R1 H1 g1 dx =>
  ⟨R1, ds, _, g1.sub, dx, hc, fun e v R' H' h g dv => q v R' H' e h (g1.trans g) dv, fun _ _ _ _ _ h => h.elim, fun _ _ _ h => h.elim⟩
theorem ep_callL (P : List D → Prop) (ha : EvA K ta ρ ds) (hc : c ds ⟨fun _ => False, P, fun _ => False⟩) : EvP K (tCallS (spc K c) E ta) ρ (fun e => ∃ es, P es ∧ e = .list es) := fun R0 H0 R σ H a Q q => ha R0 H0 R σ H a _ fun vs R1 H1 g1 dx =>
  ⟨R1, ds, _, g1.sub, dx, hc, fun _ _ _ _ h => h.elim, fun es p vs' R' H' h g hn hr hp dv => q _ _ H' _ ⟨es, h, rfl⟩ ((g1.trans g).show_ (g1.hp.free hn) hp) (.lst (SqL.of upd_same) (dpa_mono (same_upd hr) _ _ dv)), fun _ _ _ h => h.elim⟩
theorem eap_nil : EvAP K tNil ρ (fun ds => ds = []) := fun R0 H0 R σ H a Q q => q [] R H [] rfl (Grow.refl a.gr.sub) .nil
theorem eap_cons {P : D → Prop} {PA : List D → Prop} (h : EvP K te ρ P) (hr : EvAP K tr ρ PA) : EvAP K (tCons te tr) ρ (fun ds => ∃ d es, P d ∧ PA es ∧ ds = d :: es) := fun R0 H0 R σ H a Q q => h R0 H0 R σ H a _ fun x R1 H1 d hd g1 dx =>
  hr R0 H0 R1 σ H1 (a.grow g1) _ fun xs R2 H2 es hes g2 dxs => q _ R2 H2 _ ⟨d, es, hd, hes, rfl⟩ (g1.trans g2) (.cons (dp_mono g2.rd _ _ dx) dxs)
theorem sd_setPA {PA : List D → Prop} (P : D → Prop) (ha : EvAP K ta ρ PA) (hc : ∀ ds, PA ds → c ds ⟨P, fun _ => False, fun _ => False⟩) (hk : ∀ d, P d → k.nx (ρ.set i (.val d))) : Sd K W ex (tAsg (tCallS (spc K c) E ta) (gName i)) ρ k := fun R0 H0 ok R σ H a D m =>
  ha R0 H0 R σ H a _ fun vs R1 H1 ds hds g1 dx => ⟨R1, ds, _, g1.sub, dx, hc ds hds, fun d v R' H' h g dv => m.nx _ R' _ H' (hk d h) ((a.grow (g1.trans g)).set dv), fun _ _ _ _ _ h => h.elim, fun _ _ _ h => h.elim⟩
theorem w_listP {P : List D → Prop} (ha : EvAP K ta ρ P) (hl : ∀ ds, P ds → ds.length ≤ 100000) : IdP K (iSeq K (tLst ta)) ρ P := fun R0 H0 R σ H a Rr q => ha R0 H0 R σ H a _ fun vs R1 H1 ds hds g1 dx => by
  refine ⟨Nat.le_trans (by rw [dpa_len dx]; exact hl ds hds) (by decide), fun p hp => ?_⟩
  have g3 := g1.trans (Grow.alloc (o := .lst vs) g1.sub hp)
  have ha2 := dpa_mono (Grow.alloc (o := .lst vs) g1.sub hp).rd _ _ dx
  have sq : SqL K (upd R1 p (.lst vs)) p vs := SqL.of upd_same
  refine ⟨p, rfl, .inl ⟨⟨_, g3.sub.seq sq⟩, q _ _ _ ds hds g3 fun R2 H2 s2 sh => ⟨fun i d e => ?_, ⟨vs, sh.seq (s2.seq sq), Nat.le_of_eq (dpa_len ha2)⟩⟩⟩⟩
  obtain ⟨v, h1, h2⟩ := dpa_get ha2 e
  refine ⟨⟨vs, v, sh.seq (s2.seq sq), h1⟩, fun x H3 y => ?_⟩
  obtain ⟨rfl, y⟩ := y
  have z := y vs (sh.seq (s2.seq sq))
  rw [h1] at z
  cases z
  exact ⟨R2, Grow.refl sh, dp_mono s2 _ _ h2⟩
end
end Pu
local macro_rules | `(tactic| walk_at "kit") => `(tactic| first | exact Pu.kit_int_int | exact Pu.kit_int_bool | exact Pu.kit_int_tuple | exact Pu.kit_int_list | exact Pu.kit_int_str | exact Pu.kit_bool_int | exact Pu.kit_bool_bool | exact Pu.kit_bool_tuple | exact Pu.kit_bool_list | exact Pu.kit_bool_str | exact Pu.kit_tuple_int | exact Pu.kit_tuple_bool | exact Pu.kit_tuple_tuple | exact Pu.kit_tuple_list | exact Pu.kit_tuple_str | exact Pu.kit_list_int | exact Pu.kit_list_bool | exact Pu.kit_list_tuple | exact Pu.kit_list_list | exact Pu.kit_list_str | exact Pu.kit_str_int | exact Pu.kit_str_bool | exact Pu.kit_str_tuple | exact Pu.kit_str_list | exact Pu.kit_str_str | exact Pu.kit_NoneType_int | exact Pu.kit_NoneType_bool | exact Pu.kit_NoneType_tuple | exact Pu.kit_NoneType_list | exact Pu.kit_NoneType_str)
local macro_rules | `(tactic| walk_at "side") => `(tactic| first
  | assumption
  | omega
  | decide
  | rfl
  | (unfold Pu.CMulB; decide +kernel)
  | (unfold Pu.CPowW; decide +kernel))
local macro_rules | `(tactic| walk_at "wl") => `(tactic| first
  | (with_reducible apply Pu.w_list; walk_at "ev")
  | (with_reducible apply Pu.w_tup; walk_at "ev"))
local macro_rules | `(tactic| walk_at "es") => `(tactic| first
  | walk_at "ev"
  | (intro hx; walk_at "ev")
  | walk_at "side")
local macro_rules | `(tactic| walk_at "ev") => `(tactic| first
  | with_reducible exact Pu.ev_int
  | exact Pu.ev_var rfl
  | with_reducible exact Pu.ev_bl
  | with_reducible exact Pu.ev_non
  | with_reducible exact Pu.ev_str
  | exact Pu.evl_own rfl
  | with_reducible exact Pu.o_none
  | ((with_reducible apply Pu.o_some) <;> walk_at "ev")
  | ((with_reducible apply Pu.a_add) <;> walk_at "ev")
  | ((with_reducible apply Pu.v_sub) <;> walk_at "ev")
  | ((with_reducible apply Pu.v_mul) <;> walk_at "es")
  | ((with_reducible apply Pu.v_emod) <;> walk_at "es")
  | ((with_reducible apply Pu.v_div) <;> walk_at "es")
  | ((with_reducible apply Pu.v_fdiv) <;> walk_at "es")
  | ((with_reducible apply Pu.v_divA) <;> walk_at "es")
  | ((with_reducible apply Pu.v_fdivA) <;> walk_at "es")
  | ((with_reducible apply Pu.v_pow) <;> walk_at "es")
  | ((with_reducible apply Pu.v_neg) <;> walk_at "ev")
  | ((with_reducible apply Pu.v_lt) <;> walk_at "ev")
  | ((with_reducible apply Pu.v_le) <;> walk_at "ev")
  | ((with_reducible apply Pu.v_gt) <;> walk_at "ev")
  | ((with_reducible apply Pu.v_ge) <;> walk_at "ev")
  | ((with_reducible apply Pu.ev_eqD) <;> walk_at "es")
  | ((with_reducible apply Pu.ev_neD) <;> walk_at "es")
  | ((with_reducible apply Pu.v_isN) <;> walk_at "ev")
  | ((with_reducible apply Pu.v_notN) <;> walk_at "ev")
  | ((with_reducible apply Pu.ev_ixST) <;> walk_at "es")
  | ((with_reducible apply Pu.ev_ixSL) <;> walk_at "es")
  | ((with_reducible apply Pu.v_abs) <;> walk_at "ev")
  | ((with_reducible apply Pu.a_inI) <;> walk_at "ev")
  | ((with_reducible apply Pu.a_niI) <;> walk_at "ev")
  | ((with_reducible apply Pu.v_max2) <;> walk_at "ev")
  | ((with_reducible apply Pu.v_min2) <;> walk_at "ev")
  | ((with_reducible apply Pu.a_lenL) <;> walk_at "ev")
  | ((with_reducible apply Pu.a_lenT) <;> walk_at "ev")
  | ((with_reducible apply Pu.v_isi (b := true)) <;> first | walk_at "ev" | walk_at "kit")
  | ((with_reducible apply Pu.v_isi (b := false)) <;> first | walk_at "ev" | walk_at "kit")
  | with_reducible exact Pu.ev_fr0
  | with_reducible exact Pu.ev_fr1
  | ((with_reducible apply Pu.ev_tup) <;> first | walk_at "ev" | exact Nat.le_of_ble_eq_true rfl)
  | with_reducible exact Pu.ea_nil
  | ((with_reducible apply Pu.ea_cons) <;> walk_at "ev")
  | ((with_reducible apply Pu.et_test) <;> walk_at "ev")
  | ((with_reducible apply Pu.et_B) <;> walk_at "ev")
  | ((with_reducible apply Pu.et_not) <;> walk_at "ev")
  | ((with_reducible apply Pu.et_and) <;> walk_at "es")
  | ((with_reducible apply Pu.et_or) <;> walk_at "es")
  | ((with_reducible apply Pu.ev_andV) <;> walk_at "es")
  | ((with_reducible apply Pu.ev_orV) <;> walk_at "es")
  | ((with_reducible apply Pu.ev_notV) <;> walk_at "ev")
  | ((with_reducible apply Pu.ev_call) <;> first | walk_at "ev" | walk_at "cc")
  | (with_reducible apply Pu.EvF.l; walk_at "ef")
  | (with_reducible apply Pu.Ev.l; walk_at "ev")
  | ((with_reducible apply Pu.v_tupleL) <;> walk_at "ev")
  | ((with_reducible apply Pu.v_tupleT) <;> walk_at "ev")
  | ((with_reducible apply Pu.a_catT) <;> walk_at "es")
  | (with_reducible apply Pu.EvF.v; walk_at "ef"))
local macro_rules | `(tactic| walk_at "ef") => `(tactic| first
  | ((with_reducible apply Pu.evf_lst) <;> first | walk_at "ev" | exact Nat.le_of_ble_eq_true rfl)
  | ((with_reducible apply Pu.evf_call) <;> first | walk_at "ev" | walk_at "cc")
  | ((with_reducible apply Pu.a_slL) <;> walk_at "es")
  | ((with_reducible apply Pu.f_listL) <;> walk_at "ev")
  | ((with_reducible apply Pu.f_listT) <;> walk_at "ev")
  | ((with_reducible apply Pu.a_cat) <;> first | walk_at "em" | walk_at "side"))
local macro_rules | `(tactic| walk_at "em") => `(tactic| first
  | exact Pu.evm_own rfl
  | (with_reducible apply Pu.EvF.m; walk_at "ef"))
local macro_rules | `(tactic| walk_at "cc") => `(tactic| first
  | assumption
  | exact Pu.cell_v (by omega)
  | exact Pu.whole_v
  | exact Pu.gcd_v (by omega) (by omega)
  | exact Pu.plus_v (by assumption) (by assumption) (by omega)
  | exact Pu.minus_v (by assumption) (by assumption) (by omega)
  | exact Pu.times_v (by assumption) (by assumption) (by omega)
  | exact Pu.less_v (by assumption) (by assumption) (by omega)
  | exact Pu.floor_v (by assumption) (by omega)
  | exact Pu.gap_v (by assumption) (by assumption) (by omega)
  | exact Pu.slope_v (by assumption) (by assumption) (by omega)
  | exact Pu.straight_v (by assumption) (by assumption) (by assumption) (by omega)
  | exact Pu.length_v (by assumption)
  | exact Pu.height_v (by assumption)
  | exact Pu.total_v (by assumption) (by assumption) (by omega))
namespace Law
open PySem PySem.Spec PyProof.Rows L2 Pu
def topS (i : Nat) : Stmt := PySem.Challenge.pw_catchhall_k59_texts_refused.main.body.getD i (.Pass ⟨0, 0, 0, 0⟩)
abbrev s_boat : Stmt := topS 22
abbrev s__law_cell_at : Stmt := topS 41
abbrev s__law_claim : Stmt := topS 43
abbrev s_look_at_weights : Stmt := topS 24
abbrev s_is_boat : Stmt := topS 23
abbrev s_claims_of : Stmt := topS 26
abbrev s_deep_of : Stmt := topS 27
abbrev s_knot : Stmt := topS 25
abbrev s__law_knot : Stmt := topS 44
abbrev s__law_custom : Stmt := topS 45
abbrev s__law_claims : Stmt := topS 46
abbrev s__law_names : Stmt := topS 47
abbrev s__law_text : Stmt := topS 48
abbrev s__law_whole : Stmt := topS 42
abbrev s__law_alike : Stmt := topS 49
abbrev s__law_run : Stmt := topS 50
abbrev s__law_read_number : Stmt := topS 51
abbrev s__law_read_kids : Stmt := topS 52
abbrev s__law_read_custom : Stmt := topS 53
abbrev s__law_read : Stmt := topS 54
abbrev s__law_spoiled : Stmt := topS 55
abbrev s_is_name : Stmt := topS 35
abbrev s_look_at_names : Stmt := topS 36
abbrev s_Reader___init__ : Stmt := inClass (topS 38) 0
abbrev s_number_in : Stmt := topS 37
abbrev s_Reader_run_of : Stmt := inClass (topS 38) 1
abbrev s_Reader_meets : Stmt := inClass (topS 38) 2
abbrev s_Reader_must_meet : Stmt := inClass (topS 38) 3
abbrev s_Reader_custom_here : Stmt := inClass (topS 38) 4
abbrev s_read : Stmt := topS 39
abbrev s__law_found : Stmt := topS 56
abbrev s_law : Stmt := topS 57
structure Ad where
  boat : Addr
  _law_cell_at : Addr
  _law_claim : Addr
  look_at_weights : Addr
  is_boat : Addr
  claims_of : Addr
  deep_of : Addr
  knot : Addr
  _law_knot : Addr
  _law_custom : Addr
  _law_claims : Addr
  _law_names : Addr
  _law_text : Addr
  _law_whole : Addr
  _law_alike : Addr
  _law_run : Addr
  _law_read_number : Addr
  _law_read_kids : Addr
  _law_read_custom : Addr
  _law_read : Addr
  _law_spoiled : Addr
  is_name : Addr
  look_at_names : Addr
  Reader___init__ : Addr
  number_in : Addr
  Reader_run_of : Addr
  Reader_meets : Addr
  Reader_must_meet : Addr
  Reader_custom_here : Addr
  read : Addr
  _law_found : Addr
  law : Addr
  CatchError : Addr
  NoFraction : Addr
  BadLine : Addr
  Outside : Addr
  Unlike : Addr
  BadWay : Addr
  BadWeights : Addr
  BadClaim : Addr
  TooMany : Addr
  NoBoat : Addr
  BadCatch : Addr
  NoText : Addr
  Reader : Addr
  k_WAYS : Addr
  k_WEIGHED_ways : Addr
  k_WEIGHED_written : Addr
structure ClsTxt (K : Frag) (mg : Str → Option Value) (x : Str) (C : Addr) : Prop where
  g : mg x = some (.ref C)
  x : PySem.W.excIn K C [.type "ValueError", .type "Exception", .type "BaseException", .type "object"] "ValueError.__new__" = true
  k : PySem.W.keepIn K (.ref C) = true
  b : PySem.W.subIn K (.ref C) (.type "BaseException") = some true
  t : PySem.W.typeIn K (.ref C) = some (.type "type")
  e : ExcC K C
section
variable {P : Program} {w : World} {K : Frag} {mg : Str → Option Value} {base : Heap} {A : Ad}
structure Txt (K : Frag) (mg : Str → Option Value) (A : Ad) : Prop where
  f_boat : FnAt K mg "boat" s_boat ["claim"] A.boat
  f__law_cell_at : FnAt K mg "_law_cell_at" s__law_cell_at ["script", "k"] A._law_cell_at
  f__law_claim : FnAt K mg "_law_claim" s__law_claim ["cell", "kind"] A._law_claim
  f_look_at_weights : FnAt K mg "look_at_weights" s_look_at_weights ["way", "weights", "many"] A.look_at_weights
  f_is_boat : FnAt K mg "is_boat" s_is_boat ["custom"] A.is_boat
  f_claims_of : FnAt K mg "claims_of" s_claims_of ["custom"] A.claims_of
  f_deep_of : FnAt K mg "deep_of" s_deep_of ["custom"] A.deep_of
  f_knot : FnAt K mg "knot" s_knot ["way", "weights", "kids"] A.knot
  f__law_knot : FnAt K mg "_law_knot" s__law_knot ["cell", "kids"] A._law_knot
  f__law_custom : FnAt K mg "_law_custom" s__law_custom ["script"] A._law_custom
  f__law_claims : FnAt K mg "_law_claims" s__law_claims ["custom"] A._law_claims
  f__law_names : FnAt K mg "_law_names" s__law_names ["script", "many"] A._law_names
  f__law_text : FnAt K mg "_law_text" s__law_text ["custom", "names", "at"] A._law_text
  f__law_whole : FnAt K mg "_law_whole" s__law_whole ["found"] A._law_whole
  f__law_alike : FnAt K mg "_law_alike" s__law_alike ["found", "due"] A._law_alike
  f__law_run : FnAt K mg "_law_run" s__law_run ["text", "at", "signs"] A._law_run
  f__law_read_number : FnAt K mg "_law_read_number" s__law_read_number ["text", "at", "least", "most"] A._law_read_number
  f__law_read_kids : FnAt K mg "_law_read_kids" s__law_read_kids ["text", "at", "deep", "word"] A._law_read_kids
  f__law_read_custom : FnAt K mg "_law_read_custom" s__law_read_custom ["text", "at", "deep"] A._law_read_custom
  f__law_read : FnAt K mg "_law_read" s__law_read ["text"] A._law_read
  f__law_spoiled : FnAt K mg "_law_spoiled" s__law_spoiled ["text", "cell"] A._law_spoiled
  f_is_name : FnAt K mg "is_name" s_is_name ["word"] A.is_name
  f_look_at_names : FnAt K mg "look_at_names" s_look_at_names ["custom", "names"] A.look_at_names
  f_Reader___init__ : InAt K A.Reader "Reader.__init__" s_Reader___init__ ["self", "text"] A.Reader___init__
  f_number_in : FnAt K mg "number_in" s_number_in ["word"] A.number_in
  f_Reader_run_of : MtAt K A.Reader "run_of" "Reader.run_of" s_Reader_run_of ["self", "signs"] A.Reader_run_of
  f_Reader_meets : MtAt K A.Reader "meets" "Reader.meets" s_Reader_meets ["self", "signs"] A.Reader_meets
  f_Reader_must_meet : MtAt K A.Reader "must_meet" "Reader.must_meet" s_Reader_must_meet ["self", "signs"] A.Reader_must_meet
  f_Reader_custom_here : MtAt K A.Reader "custom_here" "Reader.custom_here" s_Reader_custom_here ["self", "deep"] A.Reader_custom_here
  f_read : FnAt K mg "read" s_read ["text"] A.read
  f__law_found : FnAt K mg "_law_found" s__law_found ["text"] A._law_found
  f_law : FnAt K mg "law" s_law ["script"] A.law
  cls_Reader : Cls K A.Reader
  g_Reader : mg "Reader" = some (.ref A.Reader)
  na_Reader_text : NoAttr K A.Reader "text"
  na_Reader_spot : NoAttr K A.Reader "spot"
  na_Reader_called : NoAttr K A.Reader "called"
  c_CatchError : ClsTxt K mg "CatchError" A.CatchError
  c_NoFraction : ClsTxt K mg "NoFraction" A.NoFraction
  c_BadLine : ClsTxt K mg "BadLine" A.BadLine
  c_Outside : ClsTxt K mg "Outside" A.Outside
  c_Unlike : ClsTxt K mg "Unlike" A.Unlike
  c_BadWay : ClsTxt K mg "BadWay" A.BadWay
  c_BadWeights : ClsTxt K mg "BadWeights" A.BadWeights
  c_BadClaim : ClsTxt K mg "BadClaim" A.BadClaim
  c_TooMany : ClsTxt K mg "TooMany" A.TooMany
  c_NoBoat : ClsTxt K mg "NoBoat" A.NoBoat
  c_BadCatch : ClsTxt K mg "BadCatch" A.BadCatch
  c_NoText : ClsTxt K mg "NoText" A.NoText
  h_NoText_CatchError : PySem.W.exmOne K (.ref A.NoText) (.ref A.CatchError) = some true
  h_BadClaim_CatchError : PySem.W.exmOne K (.ref A.BadClaim) (.ref A.CatchError) = some true
  h_BadWay_CatchError : PySem.W.exmOne K (.ref A.BadWay) (.ref A.CatchError) = some true
  h_BadWeights_CatchError : PySem.W.exmOne K (.ref A.BadWeights) (.ref A.CatchError) = some true
  h_TooMany_CatchError : PySem.W.exmOne K (.ref A.TooMany) (.ref A.CatchError) = some true
  y_NoText_NoText : PySem.W.kitOne K (.ref A.NoText) (.ref A.NoText) = some true
  y_NoText_ValueError : PySem.W.kitOne K (.ref A.NoText) (.type "ValueError") = some true
  n_NoText_BadCatch : PySem.W.kitOne K (.ref A.NoText) (.ref A.BadCatch) = some false
  n_NoText_BadClaim : PySem.W.kitOne K (.ref A.NoText) (.ref A.BadClaim) = some false
  n_NoText_BadLine : PySem.W.kitOne K (.ref A.NoText) (.ref A.BadLine) = some false
  n_NoText_BadWay : PySem.W.kitOne K (.ref A.NoText) (.ref A.BadWay) = some false
  n_NoText_BadWeights : PySem.W.kitOne K (.ref A.NoText) (.ref A.BadWeights) = some false
  n_NoText_NoBoat : PySem.W.kitOne K (.ref A.NoText) (.ref A.NoBoat) = some false
  n_NoText_NoFraction : PySem.W.kitOne K (.ref A.NoText) (.ref A.NoFraction) = some false
  n_NoText_Outside : PySem.W.kitOne K (.ref A.NoText) (.ref A.Outside) = some false
  n_NoText_TooMany : PySem.W.kitOne K (.ref A.NoText) (.ref A.TooMany) = some false
  n_NoText_Unlike : PySem.W.kitOne K (.ref A.NoText) (.ref A.Unlike) = some false
  m_BOAT : ∃ t, mg "BOAT" = some (.str "boat" t)
  m_FIGURES : ∃ t, mg "FIGURES" = some (.str "0123456789" t)
  m_LETTERS : ∃ t, mg "LETTERS" = some (.str "abcdefghijklmnopqrstuvwxyz" t)
  m_LONGEST_NAME : ∃ t, mg "LONGEST_NAME" = some (.int 12 t)
  m_MOST_BOATS : ∃ t, mg "MOST_BOATS" = some (.int 12 t)
  m_MOST_CLAIM : ∃ t, mg "MOST_CLAIM" = some (.int 1000000000 t)
  m_MOST_DEEP_customs : ∃ t, mg "MOST_DEEP_customs" = some (.int 8 t)
  m_MOST_DEEP_written : ∃ t, mg "MOST_DEEP_written" = some (.int 8 t)
  m_MOST_FIGURES : ∃ t, mg "MOST_FIGURES" = some (.int 13 t)
  m_MOST_KIDS : ∃ t, mg "MOST_KIDS" = some (.int 12 t)
  m_MOST_WEIGHT : ∃ t, mg "MOST_WEIGHT" = some (.int 1000000 t)
  m_WAYS : mg "WAYS" = some (.ref A.k_WAYS)
  t_WAYS : ∃ o, K.lookup A.k_WAYS = some o ∧ o.cls = .type "tuple" ∧ o.dict = none
  d_WAYS : ∀ H, Dp K H (.ref A.k_WAYS) (.tuple [.str "row", .str "back", .str "even", .str "lack", .str "part", .str "half"])
  m_WEIGHED_ways : mg "WEIGHED_ways" = some (.ref A.k_WEIGHED_ways)
  t_WEIGHED_ways : ∃ o, K.lookup A.k_WEIGHED_ways = some o ∧ o.cls = .type "tuple" ∧ o.dict = none
  d_WEIGHED_ways : ∀ H, Dp K H (.ref A.k_WEIGHED_ways) (.tuple [.str "even", .str "lack"])
  m_WEIGHED_written : mg "WEIGHED_written" = some (.ref A.k_WEIGHED_written)
  t_WEIGHED_written : ∃ o, K.lookup A.k_WEIGHED_written = some o ∧ o.cls = .type "tuple" ∧ o.dict = none
  d_WEIGHED_written : ∀ H, Dp K H (.ref A.k_WEIGHED_written) (.tuple [.str "even", .str "lack"])
  z_ValueError : mg "ValueError" = none
  z_all : mg "all" = none
  z_bool : mg "bool" = none
  z_int : mg "int" = none
  z_isinstance : mg "isinstance" = none
  z_len : mg "len" = none
  z_list : mg "list" = none
  z_max : mg "max" = none
  z_min : mg "min" = none
  z_range : mg "range" = none
  z_set : mg "set" = none
  z_str : mg "str" = none
  z_tuple : mg "tuple" = none
theorem sc_boat : FnScope ["claim"] ["claim"] (defScope s_boat) := ⟨rfl, rfl, rfl, by decide +kernel, rfl, by decide +kernel, by decide +kernel⟩
theorem ok_boat (T : Txt K mg A) (hN : base.NoSeer) (hT : P.given.tree = none)  : OkN P w K mg base 1 "boat" ["claim"] (spc K (cBoat A.BadClaim)) := by
  refine T.f_boat.okN sc_boat _ (fun ds k hc => by obtain ⟨_, rfl, _⟩ := hc; rfl) (fun cdv A' outer s H vs Q E hr h => ⟨_, (pss_cons (ps_if (PW.pt (pw_or (pt_cmpR o_lt (pv 0) pe_int (nomark _)) (pw_or1 (pt_cmpR o_gt (pv 0) (pe_gInt rfl T.m_MOST_CLAIM) (nomark _))))) (pss_one (ps_raiseCN rfl (L2N.takes_of rfl rfl rfl rfl) T.c_BadClaim.x T.c_BadClaim.g T.c_BadClaim.k T.c_BadClaim.b T.c_BadClaim.t rfl)) pss_nil)
  (pss_one (ps_ret (pe_tup (pa_cons (pe_gStr rfl T.m_BOAT) (pa_cons (pv 0) pa_nil)))))), body_of h fun ds k hc => ?_⟩)
  obtain ⟨c, rfl, h0, h1⟩ := hc
  show Sd K _ _ _ [.val (.int c)] _
  have e9 : (10 : Int) ^ (9 : Int).toNat = 1000000000 := by decide
  refine sd_seq (sd_ifS (b := decide (c < 0) || decide (1000000000 < c)) (et_or (by walk_at "ev") fun _ => by walk_at "ev") (fun z => sd_raise (h0 ?_)) (fun z => sd_next ?_))
  · rw [Bool.or_eq_true, decide_eq_true_eq, decide_eq_true_eq] at z
    exact z
  · rw [Bool.or_eq_false_iff, decide_eq_false_iff_not, decide_eq_false_iff_not] at z
    exact sd_ret (d := (Cu.boat c).d) (ev_tup (ea_cons ev_str (ea_cons (ev_var rfl) ea_nil)) (by exact Nat.le_of_ble_eq_true rfl)) (h1 (by omega))
theorem sc__law_cell_at : FnScope ["script", "k"] ["script", "k"] (defScope s__law_cell_at) := ⟨rfl, rfl, rfl, by decide +kernel, rfl, by decide +kernel, by decide +kernel⟩
theorem ok__law_cell_at (T : Txt K mg A) (hN : base.NoSeer) (hT : P.given.tree = none)  : Ok P w K mg base 1 "_law_cell_at" ["script", "k"] (spc K cCell) := by
  refine T.f__law_cell_at.ok sc__law_cell_at _ (fun ds k hc => by obtain ⟨_, _, rfl, _⟩ := hc; rfl) (fun cdv A' outer s H vs Q E hr h => ⟨_, (pss_cons (ps_if (pt_cmpR o_lt (pv 1) (pe_callB (c_lenA (K := K)) (by rfl) T.z_len (by decide +kernel) (pa_cons (pv 0) pa_nil)) (nomark _)) (pss_one (ps_ret (pe_ix (i_any (K := K)) (pv 0) (pv 1) (fun _ _ => rfl)))) pss_nil)
  (pss_one (ps_ret pe_int))), body_of h fun ds k hc => ?_⟩)
  obtain ⟨ns, i, rfl, h0, hk⟩ := hc
  show Sd K _ _ _ [.val (.list (ns.map PyData.int)), .val (.int i)] _
  refine sd_seq (sd_ifS (by walk_at "ev") (fun hb => ?_) (fun hb => ?_))
  · have hi : i < (ns.length : Int) := by
      have q := of_decide_eq_true hb
      rw [List.length_map] at q
      exact q
    have hat := atI_ints h0 hi
    exact sd_ret (by walk_at "ev") hk
  · have hi : ¬ i < (ns.length : Int) := by
      have q := of_decide_eq_false hb
      rw [List.length_map] at q
      exact q
    rw [cellAt_out hi] at hk
    exact sd_next (sd_ret (by walk_at "ev") hk)
theorem sc__law_claim : FnScope ["cell", "kind", "some"] ["cell", "kind"] (defScope s__law_claim) := ⟨rfl, rfl, rfl, by decide +kernel, rfl, by decide +kernel, by decide +kernel⟩
theorem ok__law_claim (T : Txt K mg A) (hN : base.NoSeer) (hT : P.given.tree = none)  : Ok P w K mg base 1 "_law_claim" ["cell", "kind"] (spc K cClmF) := by
  refine T.f__law_claim.ok sc__law_claim _ (fun ds k hc => by obtain ⟨_, _, rfl, _⟩ := hc; rfl) (fun cdv A' outer s H vs Q E hr h => ⟨_, (pss_cons (ps_set (i := 2) sc__law_claim.nd rfl (by first | exact Or.inl rfl | exact Or.inr rfl) (pe_lst (pa_cons (pe_op o_mod (pe_op o_fdiv (pv 0) pe_int) pe_int) (pa_cons (pe_op o_mod (pe_op o_fdiv (pv 0) pe_int) pe_int) (pa_cons (pe_op o_mod (pe_op o_fdiv (pv 0) pe_int) (pe_op (o_plus (K := K)) (pe_op o_pow pe_int pe_int) pe_int)) (pa_cons (pe_op o_mul (pe_op o_mod (pe_op o_fdiv (pv 0) pe_int) pe_int) (pe_op o_pow pe_int pe_int)) pa_nil))))))
  (pss_one (ps_ret (pe_ix (i_any (K := K)) (pv 2) (pe_op o_mod (pe_op (o_plus (K := K)) (pv 1) (pe_op o_fdiv (pe_op o_mod (pv 0) pe_int) pe_int)) pe_int) (fun _ _ => rfl))))), body_of h fun ds k hc => ?_⟩)
  obtain ⟨c, kd, rfl, hk⟩ := hc
  show Sd K _ _ _ [.val (.int c), .val (.int kd), .un] _
  have b60 : (c / 91 % 60).natAbs < 2 ^ 6 := by
    have : (2 : Nat) ^ 6 = 64 := by decide
    omega
  have b6 : ((10 : Int) ^ (6 : Int).toNat).natAbs < 2 ^ 20 := by decide
  refine sd_seq (sd_set (d := .list [.int (c / 7 % 13), .int (c / 7 % 4), .int (c / 7 % (10 ^ (9 : Int).toNat + 1)), .int (c / 91 % 60 * 10 ^ (6 : Int).toNat)]) (EvF.v (evf_lst (ea_cons (by walk_at "ev") (ea_cons (by walk_at "ev") (ea_cons (v_emod (by walk_at "ev") (a_add (by walk_at "ev") ev_int) (by decide)) (ea_cons (v_mul (by walk_at "ev") (by walk_at "ev") (cmul_of b60 b6 (by decide))) ea_nil)))) (by exact Nat.le_of_ble_eq_true rfl))) ?_)
  have e : ∀ (i a b d e : Int), (if i = 0 then PyData.int a else if i = 1 then .int b else if i = 2 then .int d else .int e) = .int (if i = 0 then a else if i = 1 then b else if i = 2 then d else e) := fun i a b d e => by
    split
    · rfl
    · split
      · rfl
      · split <;> rfl
  have a4 := at_4 (a := PyData.int (c / 7 % 13)) (b := .int (c / 7 % 4)) (c := .int (c / 7 % (10 ^ (9 : Int).toNat + 1))) (d := .int (c / 91 % 60 * 10 ^ (6 : Int).toNat)) (k := (kd + c % 7 / 5) % 4) (by omega) (by omega)
  rw [e] at a4
  exact sd_ret (ev_ixSL (ev_var rfl).l (by walk_at "ev") a4) hk
theorem sc_look_at_weights : FnScope ["way", "weights", "many", "due", "weight"] ["way", "weights", "many"] (defScope s_look_at_weights) := ⟨rfl, rfl, rfl, by decide +kernel, rfl, by decide +kernel, by decide +kernel⟩
theorem ok_look_at_weights (T : Txt K mg A) (hN : base.NoSeer) (hT : P.given.tree = none)  : OkN P w K mg base 1 "look_at_weights" ["way", "weights", "many"] (spc K (cLookW A.BadWeights)) := by
  refine T.f_look_at_weights.okN sc_look_at_weights _ (fun ds k hc => by obtain ⟨_, _, _, _, rfl, _⟩ := hc; rfl) (fun cdv A' outer s H vs Q E hr h => ⟨_, (pss_cons (ps_set (i := 3) sc_look_at_weights.nd rfl (by first | exact Or.inl rfl | exact Or.inr rfl) pe_int)
  (pss_cons (ps_if (pt_cmpR (o_in (K := K)) (pv 0) (pe_glob (v := .ref A.k_WEIGHED_ways) rfl T.m_WEIGHED_ways rfl) (by rfl)) (pss_one (ps_set (i := 3) sc_look_at_weights.nd rfl (by first | exact Or.inl rfl | exact Or.inr rfl) (pv 2))) pss_nil)
  (pss_cons (ps_if (pt_cmpR (o_ne (K := K) hr.units) (pe_callB (c_lenA (K := K)) (by rfl) T.z_len (by decide +kernel) (pa_cons (pv 1) pa_nil)) (pv 3) (nomark _)) (pss_one (ps_raiseCN rfl (L2N.takes_of rfl rfl rfl rfl) T.c_BadWeights.x T.c_BadWeights.g T.c_BadWeights.k T.c_BadWeights.b T.c_BadWeights.t rfl)) pss_nil)
  (pss_one (ps_for (passes_of rfl) rfl (w_seq (K := K) (pv 1)) (pg_name (i := 4) sc_look_at_weights.nd rfl (by first | exact Or.inl rfl | exact Or.inr rfl)) (pss_one (ps_if (PW.pt (pw_or (pt_cmpR o_lt (pv 4) pe_int (nomark _)) (pw_or1 (pt_cmpR o_gt (pv 4) (pe_gInt rfl T.m_MOST_WEIGHT) (nomark _))))) (pss_one (ps_raiseCN rfl (L2N.takes_of rfl rfl rfl rfl) T.c_BadWeights.x T.c_BadWeights.g T.c_BadWeights.k T.c_BadWeights.b T.c_BadWeights.t rfl)) pss_nil))))))), body_of h fun ds k hc => ?_⟩)
  obtain ⟨w, dw, ws, n, rfl, hd, hl, h0, h1⟩ := hc
  show Sd K _ _ _ [.val (.str w), .val dw, .val (.int (n : Int)), .un, .un] _
  unfold wfit at h0 h1
  refine sd_seq (sd_set (d := .int 0) ev_int ?_)
  obtain ⟨m, hm⟩ : ∃ m : Nat, m = if WEIGHEDL.contains w then n else 0 := ⟨_, rfl⟩
  refine sd_seq (sd_ifJ (fun ρ => ρ = [.val (.str w), .val dw, .val (.int (n : Int)), .val (.int (m : Int)), .un]) (b := WEIGHEDL.contains w) (et_test (a_inS (.inr rfl) (ev_var rfl) (ev_ref T.d_WEIGHED_ways))) (fun z => ?_) (fun z => sd_next ?_) ?_)
  · rw [hm, z, if_pos rfl]
    exact sd_set (ev_var rfl) rfl
  · rw [hm, z]
    rfl
  rintro ρ rfl
  have eL : Ev K (tCB (rLenA K) (tCons (tVar 1) tNil)) [.val (.str w), .val dw, .val (.int (n : Int)), .val (.int (m : Int)), .un] (.int (ws.length : Int)) := by
    rw [← List.length_map (f := PyData.int) (as := ws)]
    exact a_lenQ hd (ev_var rfl)
  obtain ⟨F, hF⟩ : ∃ F, F = if WEIGHEDL.contains w then (decide (ws.length = n) && ws.all fun x => decide (1 ≤ x) && decide (x ≤ 1000000)) else decide (ws.length = 0) := ⟨_, rfl⟩
  rw [← hF] at h0 h1
  have hF2 : F = (decide (ws.length = m) && ws.all fun x => decide (1 ≤ x) && decide (x ≤ 1000000)) := by
    rw [hF, hm]
    split
    · rfl
    · cases ws with
      | nil => rfl
      | cons a r => rfl
  refine sd_seq (sd_ifS (b := !decide (ws.length = m)) (EvT.is (et_test (ev_neD (d1 := .int (ws.length : Int)) (d2 := .int (m : Int)) eL (ev_var rfl) rfl rfl)) (by rw [eqv_int]; exact congrArg not (decide_eq_decide.mpr (by omega)))) (fun z => sd_raise (h0 ?_)) (fun z => sd_next ?_))
  · rw [hF2, show decide (ws.length = m) = false by simpa using z]
    rfl
  have hlm : ws.length = m := by simpa using z
  rw [decide_eq_true hlm, Bool.true_and] at hF2
  have e6 : (10 : Int) ^ (6 : Int).toNat = 1000000 := by decide
  refine sd_for (fun i ρ => ∃ z4 : Sl, ρ = [.val (.str w), .val dw, .val (.int (n : Int)), .val (.int (m : Int)), z4] ∧ ∀ (j : Nat) (x : Int), j < i → ws[j]? = some x → 1 ≤ x ∧ x ≤ 1000000) (w_seqQ hd (ev_var rfl)) ⟨_, rfl, fun j x hj => absurd hj (Nat.not_lt_zero _)⟩ ?_ ?_
  · rintro i d ρ' hdd ⟨z4, rfl, hgo⟩
    obtain ⟨x, hx, rfl⟩ : ∃ x : Int, ws[i]? = some x ∧ d = .int x := by
      rw [List.getElem?_map] at hdd
      cases e : ws[i]? with
      | none => rw [e] at hdd; cases hdd
      | some k => rw [e] at hdd; exact ⟨k, rfl, (Option.some.inj hdd).symm⟩
    refine ⟨_, gd_name, ?_⟩
    refine sd_ifS (b := decide (x < 1) || decide (1000000 < x)) (et_or (by walk_at "ev") fun _ => by walk_at "ev") (fun z => sd_raise (h0 ?_)) (fun z => sd_next ⟨_, rfl, fun j y hj hy => ?_⟩)
    · rw [hF2, List.all_eq_false]
      refine ⟨x, List.mem_of_getElem? hx, fun h => ?_⟩
      rw [Bool.and_eq_true, decide_eq_true_eq, decide_eq_true_eq] at h
      rw [Bool.or_eq_true, decide_eq_true_eq, decide_eq_true_eq] at z
      omega
    · by_cases e : j = i
      · subst e
        rw [hx] at hy
        obtain rfl := Option.some.inj hy
        rw [Bool.or_eq_false_iff, decide_eq_false_iff_not, decide_eq_false_iff_not] at z
        omega
      · exact hgo j y (by omega) hy
  · rintro ρ ⟨z4, rfl, hgo⟩
    rw [List.length_map] at hgo
    refine h1 ?_
    rw [hF2, List.all_eq_true]
    intro x hx
    obtain ⟨j, hj⟩ := List.getElem?_of_mem hx
    have := hgo j x (getElem?_lt hj) hj
    rw [decide_eq_true this.1, decide_eq_true this.2]
    rfl
theorem sc_is_boat : FnScope ["custom"] ["custom"] (defScope s_is_boat) := ⟨rfl, rfl, rfl, by decide +kernel, rfl, by decide +kernel, by decide +kernel⟩
theorem ok_is_boat (T : Txt K mg A) (hN : base.NoSeer) (hT : P.given.tree = none)  : OkN P w K mg base 1 "is_boat" ["custom"] (spc K cIsBoat) := by
  refine T.f_is_boat.okN sc_is_boat _ (fun ds k hc => by obtain ⟨_, rfl, _⟩ := hc; rfl) (fun cdv A' outer s H vs Q E hr h => ⟨_, (pss_one (ps_ret (pe_cmpR (o_eq (K := K) hr.units) (pe_ix (i_any (K := K)) (pv 0) pe_int (fun _ _ => rfl)) (pe_gStr rfl T.m_BOAT) (nomark _)))), body_of h fun ds k hc => ?_⟩)
  obtain ⟨u, rfl, hk⟩ := hc
  show Sd K _ _ _ [.val u.d] _
  cases u with
  | boat c => exact sd_ret (Ev.is (ev_eqS (a := "boat") (b := "boat") (ev_ixST (ds := [.str "boat", .int c]) (ev_var rfl) ev_int rfl) ev_str (by decide +kernel) (by decide +kernel)) rfl) hk
  | knot y ws ks => exact sd_ret (Ev.is (ev_eqS (a := y.s) (b := "boat") (ev_ixST (ds := [.str y.s, .tuple (ws.map PyData.int), .tuple (Cu.dL ks)]) (ev_var rfl) ev_int rfl) ev_str (s_shaped y) (by decide +kernel)) (by rw [y_boat]; rfl)) hk
theorem sc_claims_of : FnScope ["custom", "told", "kid"] ["custom"] (defScope s_claims_of) := ⟨rfl, rfl, rfl, by decide +kernel, rfl, by decide +kernel, by decide +kernel⟩
theorem st_claims_of (dd : Nat) (T : Txt K mg A) (hN : base.NoSeer) (hT : P.given.tree = none) (fnN_is_boat : OkN P w K mg base 1 "is_boat" ["custom"] (spc K cIsBoat)) (fnN_claims_of : OkN P w K mg base (2 + dd) "claims_of" ["custom"] (spc K (cClaimsOf dd))) : OkN P w K mg base (2 + (dd + 1)) "claims_of" ["custom"] (spc K (cClaimsOf (dd + 1))) := by
  refine T.f_claims_of.okN (k := 2 + dd) sc_claims_of _ (fun ds k hc => by obtain ⟨_, rfl, _⟩ := hc; rfl) (fun cdv A' outer s H vs Q E hr h => ⟨_, (pss_cons (ps_if (pt_val (pe_fnN fnN_is_boat (hr.mono (by omega)) (L2N.takes_of rfl rfl rfl rfl) rfl (pa_cons (pv 0) pa_nil))) (pss_one (ps_ret (pe_lst (pa_cons (pe_ix (i_any (K := K)) (pv 0) pe_int (fun _ _ => rfl)) pa_nil)))) pss_nil)
  (pss_cons (ps_set (i := 1) sc_claims_of.nd rfl (by first | exact Or.inl rfl | exact Or.inr rfl) (pe_lst pa_nil))
  (pss_cons (ps_for (passes_of rfl) rfl (w_seq (K := K) (pe_ix (i_any (K := K)) (pv 0) pe_int (fun _ _ => rfl))) (pg_name (i := 2) sc_claims_of.nd rfl (by first | exact Or.inl rfl | exact Or.inr rfl)) (pss_one (ps_expr (b_m (K := K) PySem.F.plainAttrs_list PySem.F.slot_list_extend PySem.F.type_list_extend mt_extend (pv 1) (pa_cons (pe_fnN fnN_claims_of (hr.mono (by omega)) (L2N.takes_of rfl rfl rfl rfl) rfl (pa_cons (pv 2) pa_nil)) pa_nil)))))
  (pss_one (ps_ret (pv 1)))))), body_of h fun ds k hc => ?_⟩)
  obtain ⟨u, rfl, hd, hl, hk⟩ := hc
  show Sd K _ _ _ [.val u.d, .un, .un] _
  cases u with
  | boat c =>
    refine sd_seq (sd_ifS (b := true) (et_B (ev_call (ea_cons (ev_var rfl) ea_nil) (isBoat_v (u := .boat c)))) (fun _ => ?_) (fun z => nomatch z))
    exact sd_retf (evf_lst (ea_cons (ev_ixST (ds := [.str "boat", .int c]) (ev_var rfl) ev_int rfl) ea_nil) (by exact Nat.le_of_ble_eq_true rfl)) hk
  | knot y ws ks =>
    refine sd_seq (sd_ifS (b := false) (et_B (ev_call (ea_cons (ev_var rfl) ea_nil) (isBoat_v (u := .knot y ws ks)))) (fun z => nomatch z) (fun _ => sd_next ?_))
    refine sd_seq (sd_own (ds := []) (by walk_at "ef") ?_)
    have hl : (Cu.claimsL ks).length ≤ 100000 := hl
    refine sd_seq (sd_for (ds := ks.map Cu.d) (fun i ρ => ∃ z2 : Sl, ρ = [.val (Cu.knot y ws ks).d, .own ((Cu.claimsL (ks.take i)).map PyData.int), z2]) (w_tup (ev_ixST (ds := [.str y.s, .tuple (ws.map PyData.int), .tuple (ks.map Cu.d)]) (by rw [← Cu.at_knot]; exact ev_var rfl) ev_int rfl)) ⟨_, rfl⟩ ?_ ?_)
    · rintro i d ρ' hdd ⟨z2, rfl⟩
      obtain ⟨k, hi, rfl⟩ : ∃ k, ks[i]? = some k ∧ d = k.d := by
        rw [List.getElem?_map] at hdd
        cases e : ks[i]? with
        | none => rw [e] at hdd; cases hdd
        | some k => rw [e] at hdd; exact ⟨k, rfl, (Option.some.inj hdd).symm⟩
      have hm := List.mem_of_getElem? hi
      refine ⟨_, gd_name, ?_⟩
      have h1 := Cu.deep_kid (y := y) (ws := ws) hm
      have h2 := Cu.claimsL_mem hm
      have h3 := Cu.claimsL_le ks (i + 1)
      have hs := Cu.claimsL_cut ks i k hi
      rw [hs, List.length_append] at h3
      rw [hs, List.map_append]
      exact sd_extend rfl (evf_call (ea_cons (ev_var rfl) ea_nil) (claimsOf_v (n := dd) (by omega) (by omega))) (by rw [List.length_map, List.length_map]; omega) ⟨_, rfl⟩
    · rintro ρ ⟨z2, rfl⟩
      rw [List.length_map, List.take_length]
      exact sd_reto rfl hk
theorem gr_claims_of (T : Txt K mg A) : OkN P w K mg base (2 + 0) "claims_of" ["custom"] (spc K (cClaimsOf 0)) := T.f_claims_of.okN (k := 1) sc_claims_of _ (fun ds k hc => (no_claims_of hc).elim) (fun cdv A' outer s H vs Q E hr h => (spc_no h fun ds k hc => no_claims_of hc).elim)
theorem ok_claims_of (T : Txt K mg A) (hN : base.NoSeer) (hT : P.given.tree = none) (fnN_is_boat : OkN P w K mg base 1 "is_boat" ["custom"] (spc K cIsBoat)) : OkN P w K mg base 22 "claims_of" ["custom"] (spc K (cClaimsOf 20)) := by
  have all : ∀ dd : Nat, OkN P w K mg base (2 + dd) "claims_of" ["custom"] (spc K (cClaimsOf dd)) := fun dd => by
    induction dd with
    | zero => exact gr_claims_of T
    | succ dd ih => exact st_claims_of dd T hN hT fnN_is_boat ih
  exact all 20
theorem sc_deep_of : FnScope ["custom", "kid"] ["custom"] (defScope s_deep_of) := ⟨rfl, rfl, rfl, by decide +kernel, rfl, by decide +kernel, by decide +kernel⟩
theorem deepL_max : ∀ {ks : List Cu}, ks ≠ [] → ∃ m ∈ ks.map (fun k => (k.deep : Int)), (∀ y ∈ ks.map (fun k => (k.deep : Int)), y ≤ m) ∧ m = (Cu.deepL ks : Int) := fun {ks} hne => by
  obtain ⟨m, hm, hle⟩ := int_max (ns := ks.map (fun k => (k.deep : Int))) (fun z => hne (List.map_eq_nil_iff.mp z))
  refine ⟨m, hm, hle, ?_⟩
  obtain ⟨k, hk, rfl⟩ := List.mem_map.mp hm
  have h1 := (Cu.deepL_le (ks := ks) (n := Cu.deepL ks)).mp (Nat.le_refl _) k hk
  have h2 := (Cu.deepL_le (ks := ks) (n := k.deep)).mpr fun x hx => by
    have := hle (x.deep : Int) (List.mem_map.mpr ⟨x, hx, rfl⟩)
    omega
  omega
theorem st_deep_of (dd : Nat) (T : Txt K mg A) (hN : base.NoSeer) (hT : P.given.tree = none) (fnN_is_boat : OkN P w K mg base 1 "is_boat" ["custom"] (spc K cIsBoat)) (fnN_deep_of : OkN P w K mg base (2 + dd) "deep_of" ["custom"] (spc K (cDeepOf dd))) : OkN P w K mg base (2 + (dd + 1)) "deep_of" ["custom"] (spc K (cDeepOf (dd + 1))) := by
  refine T.f_deep_of.okN (k := 2 + dd) sc_deep_of _ (fun ds k hc => by obtain ⟨_, rfl, _⟩ := hc; rfl) (fun cdv A' outer s H vs Q E hr h => ⟨_, (pss_cons (ps_if (pt_val (pe_fnN fnN_is_boat (hr.mono (by omega)) (L2N.takes_of rfl rfl rfl rfl) rfl (pa_cons (pv 0) pa_nil))) (pss_one (ps_ret pe_int)) pss_nil)
  (pss_one (ps_ret (pe_op (o_plus (K := K)) pe_int (pe_callB (c_maxL (K := K) rfl) (by rfl) T.z_max (by decide +kernel) (pa_cons (pe_lc (own := [("kid", 1)]) rfl sc_deep_of.nd (w_seq (K := K) (pe_ix (i_any (K := K)) (pv 0) pe_int (fun _ _ => rfl))) (blkOk_by (N := ["custom", "kid"]) (sc := defScope s_deep_of) (by decide +kernel)) (fun _ _ _ _ _ => (pg_name (i := 1) sc_deep_of.nd rfl (by first | exact Or.inl rfl | exact Or.inr rfl))) (fun _ _ _ _ _ => pts_nil) (fun _ _ _ _ _ => (pe_fnN fnN_deep_of (hr.mono (by omega)) takes0N rfl (pa_cons (pv 1) pa_nil)))) pa_nil)))))), body_of h fun ds k hc => ?_⟩)
  obtain ⟨u, rfl, hok, hd, hk⟩ := hc
  show Sd K _ _ _ [.val u.d, .un] _
  cases u with
  | boat c =>
    refine sd_seq (sd_ifS (b := true) (et_B (ev_call (ea_cons (ev_var rfl) ea_nil) (isBoat_v (u := .boat c)))) (fun _ => ?_) (fun z => nomatch z))
    exact sd_ret ev_int hk
  | knot y ws ks =>
    refine sd_seq (sd_ifS (b := false) (et_B (ev_call (ea_cons (ev_var rfl) ea_nil) (isBoat_v (u := .knot y ws ks)))) (fun z => nomatch z) (fun _ => sd_next ?_))
    have hne := hok.1.1
    have hl := hok.1.2.1
    obtain ⟨m, hm, hle, em⟩ := deepL_max hne
    have hk : k.rt (.int (1 + m)) := by
      have e : (((Cu.knot y ws ks).deep : Nat) : Int) = 1 + m := by
        rw [em]
        show ((1 + Cu.deepL ks : Nat) : Int) = _
        omega
      rw [← e]
      exact hk
    refine sd_ret (a_add ev_int (v_maxQ (ns := ks.map fun k => (k.deep : Int)) (.inl rfl) (EvF.v ?_) hm hle)) hk
    rw [List.map_map]
    refine f_mapA (enc := Cu.d) _ (w_tup (ev_ixST (ds := [.str y.s, .tuple (ws.map PyData.int), .tuple (ks.map Cu.d)]) (by rw [← Cu.at_knot]; exact ev_var rfl) ev_int rfl)) (gw_name (by decide)) (fun i k hi => ⟨_, gd_name, ?_⟩) (by omega)
    have hm := List.mem_of_getElem? hi
    have h1 := Cu.deep_kid (y := y) (ws := ws) hm
    exact ev_call (ea_cons (ev_var rfl) ea_nil) (deepOf_v (n := dd) (Cu.ok_kid hok hm) (by omega))
theorem gr_deep_of (T : Txt K mg A) : OkN P w K mg base (2 + 0) "deep_of" ["custom"] (spc K (cDeepOf 0)) := T.f_deep_of.okN (k := 1) sc_deep_of _ (fun ds k hc => (no_deep_of hc).elim) (fun cdv A' outer s H vs Q E hr h => (spc_no h fun ds k hc => no_deep_of hc).elim)
theorem ok_deep_of (T : Txt K mg A) (hN : base.NoSeer) (hT : P.given.tree = none) (fnN_is_boat : OkN P w K mg base 1 "is_boat" ["custom"] (spc K cIsBoat)) : OkN P w K mg base 22 "deep_of" ["custom"] (spc K (cDeepOf 20)) := by
  have all : ∀ dd : Nat, OkN P w K mg base (2 + dd) "deep_of" ["custom"] (spc K (cDeepOf dd)) := fun dd => by
    induction dd with
    | zero => exact gr_deep_of T
    | succ dd ih => exact st_deep_of dd T hN hT fnN_is_boat ih
  exact all 20
theorem sc_knot : FnScope ["way", "weights", "kids", "told"] ["way", "weights", "kids"] (defScope s_knot) := ⟨rfl, rfl, rfl, by decide +kernel, rfl, by decide +kernel, by decide +kernel⟩
theorem ok_knot (T : Txt K mg A) (hN : base.NoSeer) (hT : P.given.tree = none) (fnN_look_at_weights : OkN P w K mg base 1 "look_at_weights" ["way", "weights", "many"] (spc K (cLookW A.BadWeights))) (fnN_claims_of : OkN P w K mg base 22 "claims_of" ["custom"] (spc K (cClaimsOf 20))) (fnN_deep_of : OkN P w K mg base 22 "deep_of" ["custom"] (spc K (cDeepOf 20))) : OkN P w K mg base 23 "knot" ["way", "weights", "kids"] (spc K (cKnot A.BadWay A.BadWeights A.TooMany)) := by
  refine T.f_knot.okN sc_knot _ (fun ds k hc => by obtain ⟨_, _, _, _, _, rfl, _⟩ := hc; rfl) (fun cdv A' outer s H vs Q E hr h => ⟨_, (pss_cons (ps_if (pt_cmpR (o_notIn (K := K)) (pv 0) (pe_glob (v := .ref A.k_WAYS) rfl T.m_WAYS rfl) (by rfl)) (pss_one (ps_raiseCN rfl (L2N.takes_of rfl rfl rfl rfl) T.c_BadWay.x T.c_BadWay.g T.c_BadWay.k T.c_BadWay.b T.c_BadWay.t rfl)) pss_nil)
  (pss_cons (ps_expr (pe_fnN fnN_look_at_weights (hr.mono (by decide)) (L2N.takes_of rfl rfl rfl rfl) rfl (pa_cons (pv 0) (pa_cons (pv 1) (pa_cons (pe_callB (c_lenA (K := K)) (by rfl) T.z_len (by decide +kernel) (pa_cons (pv 2) pa_nil)) pa_nil)))))
  (pss_cons (ps_if (PW.pt (pw_or (pt_cmpR (o_eq (K := K) hr.units) (pe_callB (c_lenA (K := K)) (by rfl) T.z_len (by decide +kernel) (pa_cons (pv 2) pa_nil)) pe_int (nomark _)) (pw_or1 (pt_cmpR o_gt (pe_callB (c_lenA (K := K)) (by rfl) T.z_len (by decide +kernel) (pa_cons (pv 2) pa_nil)) (pe_gInt rfl T.m_MOST_KIDS) (nomark _))))) (pss_one (ps_raiseCN rfl (L2N.takes_of rfl rfl rfl rfl) T.c_TooMany.x T.c_TooMany.g T.c_TooMany.k T.c_TooMany.b T.c_TooMany.t rfl)) pss_nil)
  (pss_cons (ps_set (i := 3) sc_knot.nd rfl (by first | exact Or.inl rfl | exact Or.inr rfl) (pe_tup (pa_cons (pv 0) (pa_cons (pe_callTy (c_tupleA (K := K)) (by rfl) T.z_tuple (by decide +kernel) (pa_cons (pv 1) pa_nil)) (pa_cons (pe_callTy (c_tupleA (K := K)) (by rfl) T.z_tuple (by decide +kernel) (pa_cons (pv 2) pa_nil)) pa_nil)))))
  (pss_cons (ps_if (PW.pt (pw_or (pt_cmpR o_gt (pe_callB (c_lenA (K := K)) (by rfl) T.z_len (by decide +kernel) (pa_cons (pe_fnN fnN_claims_of (hr.mono (by decide)) (L2N.takes_of rfl rfl rfl rfl) rfl (pa_cons (pv 3) pa_nil)) pa_nil)) (pe_gInt rfl T.m_MOST_BOATS) (nomark _)) (pw_or1 (pt_cmpR o_gt (pe_fnN fnN_deep_of (hr.mono (by decide)) (L2N.takes_of rfl rfl rfl rfl) rfl (pa_cons (pv 3) pa_nil)) (pe_gInt rfl T.m_MOST_DEEP_customs) (nomark _))))) (pss_one (ps_raiseCN rfl (L2N.takes_of rfl rfl rfl rfl) T.c_TooMany.x T.c_TooMany.g T.c_TooMany.k T.c_TooMany.b T.c_TooMany.t rfl)) pss_nil)
  (pss_one (ps_ret (pv 3)))))))), body_of h fun ds k hc => ?_⟩)
  obtain ⟨w, dw, dk, ws, ks, rfl, hdw, hdk, hwl, hks, h0, h1, h2, h4⟩ := hc
  show Sd K _ _ _ [.val (.str w), .val dw, .val dk, .un] _
  have eL : ∀ z : Sl, Ev K (tCB (rLenA K) (tCons (tVar 2) tNil)) [.val (.str w), .val dw, .val dk, z] (.int (ks.length : Int)) := fun z => by
    rw [← List.length_map (f := Cu.d) (as := ks)]
    exact a_lenQ hdk (ev_var rfl)
  unfold knotC at h0 h1 h2 h4
  refine sd_seq (sd_ifS (b := !WAYSL.contains w) (et_test (a_niS (.inr rfl) (ev_var rfl) (ev_ref T.d_WAYS))) (fun z => sd_raise (h0 ?_)) (fun z => sd_next ?_))
  · rw [if_neg (by simpa using z)]
  have z' : WAYSL.contains w = true := by simpa using z
  rw [if_pos z'] at h0 h1 h2 h4
  obtain ⟨y, rfl⟩ := way_cases z'
  cases hf : wfit y.s ws ks.length with
  | false =>
    rw [hf] at h1
    exact sd_seq (sd_dropx (evx_call (ea_cons (ev_var rfl) (ea_cons (ev_var rfl) (ea_cons (eL _) ea_nil))) (lookW_x hdw (by omega) hf)) (h1 rfl))
  | true =>
  rw [hf, if_pos rfl] at h2 h4
  refine sd_seq (sd_drop (ev_call (ea_cons (ev_var rfl) (ea_cons (ev_var rfl) (ea_cons (eL _) ea_nil))) (lookW_v hdw (by omega) hf)) ?_)
  refine sd_seq (sd_ifS (b := decide (ks.length = 0) || decide (12 < ks.length)) (EvT.is (et_or (x := decide (ks.length = 0)) (y := decide ((12 : Int) < (ks.length : Int))) (EvT.is (et_test (ev_eqD (d1 := .int (ks.length : Int)) (d2 := .int 0) (eL _) ev_int rfl rfl)) (by rw [eqv_int]; exact decide_eq_decide.mpr (by omega))) fun _ => et_test (v_gt (eL _) ev_int)) (congrArg (decide (ks.length = 0) || ·) (decide_eq_decide.mpr (by omega)))) (fun z => sd_raise (h2 ?_)) (fun z => sd_next ?_))
  · rw [Bool.or_eq_true, decide_eq_true_eq, decide_eq_true_eq] at z
    rw [if_pos (by omega)]
  rw [Bool.or_eq_false_iff, decide_eq_false_iff_not, decide_eq_false_iff_not] at z
  have hkd : ∀ z : Sl, Ev K (tCB (rTpl K) (tCons (tVar 2) tNil)) [.val (.str y.s), .val dw, .val dk, z] (.tuple (ks.map Cu.d)) := fun z => by
    rcases hdk with rfl | rfl
    · exact v_tupleL (ev_var rfl).l
    · exact v_tupleT (ev_var rfl)
  have hwd : ∀ z : Sl, Ev K (tCB (rTpl K) (tCons (tVar 1) tNil)) [.val (.str y.s), .val dw, .val dk, z] (.tuple (ws.map PyData.int)) := fun z => by
    rcases hdw with rfl | rfl
    · exact v_tupleL (ev_var rfl).l
    · exact v_tupleT (ev_var rfl)
  refine sd_seq (sd_set (d := (Cu.knot y ws ks).d) (by
    rw [Cu.at_knot]
    exact ev_tup (ea_cons (ev_var rfl) (ea_cons (hwd _) (ea_cons (hkd _) ea_nil))) (by exact Nat.le_of_ble_eq_true rfl)) ?_)
  have hok : (Cu.knot y ws ks).ok := ⟨⟨fun z1 => z.1 (by rw [z1]; rfl), by omega, hf⟩, Cu.okL_all.mpr fun u hu => (hks u hu).ok⟩
  have hde : (Cu.knot y ws ks).deep ≤ 20 := by
    have : Cu.deepL ks ≤ 8 := Cu.deepL_le.mpr fun u hu => (hks u hu).low
    show 1 + Cu.deepL ks ≤ 20
    omega
  have hcl : (Cu.claimsL ks).length ≤ 12 * ks.length := by
    have : ∀ l : List Cu, (∀ u ∈ l, u.Ok) → (Cu.claimsL l).length ≤ 12 * l.length := fun l => by
      induction l with
      | nil => intro _; exact Nat.zero_le _
      | cons a r ih =>
        intro h
        have h1 := (h a List.mem_cons_self).few
        have h2 := ih fun u hu => h u (List.mem_cons_of_mem _ hu)
        show (a.claims ++ Cu.claimsL r).length ≤ 12 * (r.length + 1)
        rw [List.length_append]
        omega
    exact this ks hks
  have hcl2 : (Cu.knot y ws ks).claims.length ≤ 100000 := by
    show (Cu.claimsL ks).length ≤ 100000
    omega
  have eC : ∀ E : L2.St → XK, Ev K (tCB (rLenA K) (tCons (tCallS (spc K (cClaimsOf 20)) E (tCons (tVar 3) tNil)) tNil)) [.val (.str y.s), .val dw, .val dk, .val (Cu.knot y ws ks).d] (.int ((Cu.claimsL ks).length : Int)) := fun E => by
    have : ((Cu.claimsL ks).map PyData.int).length = (Cu.claimsL ks).length := List.length_map _
    rw [← this]
    exact a_lenL (EvF.l (evf_call (ea_cons (ev_var rfl) ea_nil) (claimsOf_v hde hcl2)))
  refine sd_seq (sd_ifS (b := decide (12 < (Cu.claimsL ks).length) || decide (8 < 1 + Cu.deepL ks)) (EvT.is (et_or (x := decide ((12 : Int) < ((Cu.claimsL ks).length : Int))) (y := decide ((8 : Int) < ((Cu.knot y ws ks).deep : Int))) (et_test (v_gt (eC _) ev_int)) fun _ => et_test (v_gt (ev_call (ea_cons (ev_var rfl) ea_nil) (deepOf_v hok hde)) ev_int)) ?_) (fun z2 => sd_raise (h2 ?_)) (fun z2 => sd_next ?_))
  · congr 1
    · exact decide_eq_decide.mpr (by omega)
    · refine decide_eq_decide.mpr ?_
      show (8 : Int) < ((1 + Cu.deepL ks : Nat) : Int) ↔ _
      omega
  · rw [Bool.or_eq_true, decide_eq_true_eq, decide_eq_true_eq] at z2
    rw [if_pos (by omega)]
  · rw [Bool.or_eq_false_iff, decide_eq_false_iff_not, decide_eq_false_iff_not] at z2
    rw [if_neg (by omega), wyOf_s] at h4
    exact sd_ret (ev_var rfl) (h4 rfl)
theorem sc__law_knot : FnScope ["cell", "kids", "way", "weights", "most", "rest", "kid"] ["cell", "kids"] (defScope s__law_knot) := ⟨rfl, rfl, rfl, by decide +kernel, rfl, by decide +kernel, by decide +kernel⟩
theorem ok__law_knot (T : Txt K mg A) (hN : base.NoSeer) (hT : P.given.tree = none) (fn_knot : Ok P w K mg base 23 "knot" ["way", "weights", "kids"] (spc K (cKnot A.BadWay A.BadWeights A.TooMany))) : Ok P w K mg base 24 "_law_knot" ["cell", "kids"] (spc K cKnF) := by
  refine T.f__law_knot.ok sc__law_knot _ (fun ds k hc => by obtain ⟨_, _, rfl, _⟩ := hc; rfl) (fun cdv A' outer s H vs Q E hr h => ⟨_, (pss_cons (ps_set (i := 2) sc__law_knot.nd rfl (by first | exact Or.inl rfl | exact Or.inr rfl) (pe_ix (i_any (K := K)) (pe_lst (pa_cons pe_str (pa_cons pe_str (pa_cons pe_str (pa_cons pe_str (pa_cons pe_str (pa_cons pe_str pa_nil))))))) (pe_op o_mod (pv 0) pe_int) (fun _ _ => rfl)))
  (pss_cons (ps_set (i := 3) sc__law_knot.nd rfl (by first | exact Or.inl rfl | exact Or.inr rfl) (pe_lst pa_nil))
  (pss_cons (ps_if (pt_cmpR (o_in (K := K)) (pv 2) (pe_tup (pa_cons pe_str (pa_cons pe_str pa_nil))) (by rfl)) (pss_cons (ps_set (i := 4) sc__law_knot.nd rfl (by first | exact Or.inl rfl | exact Or.inr rfl) (pe_ix (i_any (K := K)) (pe_lst (pa_cons pe_int (pa_cons pe_int (pa_cons pe_int (pa_cons (pe_op o_pow pe_int pe_int) pa_nil))))) (pe_op o_mod (pe_op o_fdiv (pv 0) pe_int) pe_int) (fun _ _ => rfl)))
  (pss_cons (ps_set (i := 5) sc__law_knot.nd rfl (by first | exact Or.inl rfl | exact Or.inr rfl) (pe_op o_fdiv (pv 0) pe_int))
  (pss_one (ps_for (passes_of rfl) rfl (w_seq (K := K) (pv 1)) (pg_name (i := 6) sc__law_knot.nd rfl (by first | exact Or.inl rfl | exact Or.inr rfl)) (pss_cons (ps_expr (b_m (K := K) PySem.F.plainAttrs_list PySem.F.slot_list_append PySem.F.type_list_append mt_append (pv 3) (pa_cons (pe_op (o_plus (K := K)) pe_int (pe_op o_mod (pv 5) (pv 4))) pa_nil)))
  (pss_one (ps_set (i := 5) sc__law_knot.nd rfl (by first | exact Or.inl rfl | exact Or.inr rfl) (pe_op o_fdiv (pv 5) pe_int)))))))) pss_nil)
  (pss_one (ps_ret (pe_fn fn_knot (hr.mono (by decide)) (takes_of rfl rfl rfl rfl) rfl (pa_cons (pv 2) (pa_cons (pv 3) (pa_cons (pv 1) pa_nil))))))))), body_of h fun ds k hc => ?_⟩)
  obtain ⟨c, ks, rfl, hl, hok, hk⟩ := hc
  show Sd K _ _ _ [.val (.int c), .val (.list (ks.map Cu.d)), .un, .un, .un, .un, .un] _
  refine sd_seq (sd_set (d := .str (wayF (c % 6)).s) (ev_ixSL (EvF.l (evf_lst (ea_cons ev_str (ea_cons ev_str (ea_cons ev_str (ea_cons ev_str (ea_cons ev_str (ea_cons ev_str ea_nil)))))) (by exact Nat.le_of_ble_eq_true rfl))) (by walk_at "ev") (wayF_at (by omega) (by omega))) ?_)
  unfold knF at hok hk
  generalize wayF (c % 6) = y at hok hk
  refine sd_seq (sd_own (ds := []) (by walk_at "ef") ?_)
  refine sd_seq (sd_ifJ (fun ρ => ∃ z4 z5 z6 : Sl, ρ = [.val (.int c), .val (.list (ks.map Cu.d)), .val (.str y.s), .own ((wList y.wd (wtsF c) ks.length).map PyData.int), z4, z5, z6]) (b := y.wd) (EvT.is (et_test (a_inS (zs := ["even", "lack"]) (.inr rfl) (ev_var rfl) (ev_tup (ds := [.str "even", .str "lack"]) (ea_cons ev_str (ea_cons ev_str ea_nil)) (by exact Nat.le_of_ble_eq_true rfl)))) (s_weighed y)) (fun z => ?_) (fun z => ?_) ?_)
  · have e6 : (10 : Int) ^ (6 : Int).toNat = 1000000 := by decide
    have a4 := at_4 (a := PyData.int 3) (b := .int 3) (c := .int 3) (d := .int (10 ^ (6 : Int).toNat)) (k := c / 6 % 4) (by omega) (by omega)
    have e : (if c / 6 % 4 = 0 then PyData.int 3 else if c / 6 % 4 = 1 then .int 3 else if c / 6 % 4 = 2 then .int 3 else .int (10 ^ (6 : Int).toNat)) = .int (mostF c) := by
      unfold mostF
      by_cases h : c / 6 % 4 = 3
      · rw [if_neg (by omega), if_neg (by omega), if_neg (by omega), if_pos h]
      · rw [if_neg h]
        split
        · rfl
        · split
          · rfl
          · split
            · rfl
            · omega
    rw [e] at a4
    have hm : 0 < mostF c := by
      unfold mostF
      rw [e6]
      split <;> omega
    refine sd_seq (sd_set (d := .int (mostF c)) (ev_ixSL (EvF.l (evf_lst (ea_cons ev_int (ea_cons ev_int (ea_cons ev_int (ea_cons (by walk_at "ev") ea_nil)))) (by exact Nat.le_of_ble_eq_true rfl))) (by walk_at "ev") a4) ?_)
    refine sd_seq (sd_set (d := .int (restF (c / 24) 0)) (Ev.is (d := .int (c / 24)) (by walk_at "ev") rfl) ?_)
    refine sd_for (ds := ks.map Cu.d) (fun i ρ => ∃ z6 : Sl, ρ = [.val (.int c), .val (.list (ks.map Cu.d)), .val (.str y.s), .own (((List.range i).map (wtsF c)).map PyData.int), .val (.int (mostF c)), .val (.int (restF (c / 24) i)), z6]) (w_list (ev_var rfl)) ⟨_, rfl⟩ ?_ ?_
    · rintro i d ρ' hd ⟨z6, rfl⟩
      have hi := getElem?_lt hd
      rw [List.length_map] at hi
      refine ⟨_, gd_name, ?_⟩
      refine sd_seq (sd_append (d := .int (wtsF c i)) rfl (a_add ev_int (v_emod (ev_var rfl) (ev_var rfl) hm)) (by rw [List.length_map, List.length_map, List.length_range]; omega) ?_)
      refine sd_set (d := .int (restF (c / 24) (i + 1))) (Ev.is (v_div (ev_var rfl) ev_int (by decide) (by decide)) rfl) ⟨.val d, ?_⟩
      rw [List.range_succ, List.map_append, List.map_append]
      rfl
    · rintro ρ ⟨z6, rfl⟩
      refine ⟨.val (.int (mostF c)), .val (.int (restF (c / 24) ks.length)), z6, ?_⟩
      unfold wList
      rw [z, if_pos rfl, List.length_map]
  · refine sd_next ⟨.un, .un, .un, ?_⟩
    unfold wList
    rw [z]
    rfl
  · rintro ρ ⟨z4, z5, z6, rfl⟩
    refine sd_freeze 3 rfl ?_
    exact sd_ret (ev_call (ea_cons (ev_var rfl) (ea_cons (ev_var rfl) (ea_cons (ev_var rfl) ea_nil))) (knot_v (.inl rfl) (.inl rfl) hok)) hk
theorem sc__law_custom : FnScope ["script", "head", "pile", "knots", "boats", "k", "cell", "turn", "many"] ["script"] (defScope s__law_custom) := ⟨rfl, rfl, rfl, by decide +kernel, rfl, by decide +kernel, by decide +kernel⟩
theorem ok__law_custom (T : Txt K mg A) (hN : base.NoSeer) (hT : P.given.tree = none) (fn__law_cell_at : Ok P w K mg base 1 "_law_cell_at" ["script", "k"] (spc K cCell)) (fn_boat : Ok P w K mg base 1 "boat" ["claim"] (spc K (cBoat A.BadClaim))) (fn__law_claim : Ok P w K mg base 1 "_law_claim" ["cell", "kind"] (spc K cClmF)) (fn__law_knot : Ok P w K mg base 24 "_law_knot" ["cell", "kids"] (spc K cKnF)) : Ok P w K mg base 25 "_law_custom" ["script"] (spc K cCusF) := by
  refine T.f__law_custom.ok sc__law_custom _ (fun ds k hc => by obtain ⟨_, rfl, _⟩ := hc; rfl) (fun cdv A' outer s H vs Q E hr h => ⟨_, (pss_cons (ps_set (i := 1) sc__law_custom.nd rfl (by first | exact Or.inl rfl | exact Or.inr rfl) (pe_op o_mod (pe_fn fn__law_cell_at (hr.mono (by decide)) (takes_of rfl rfl rfl rfl) rfl (pa_cons (pv 0) (pa_cons pe_int pa_nil))) (pe_op o_pow pe_int pe_int)))
  (pss_cons (ps_set (i := 2) sc__law_custom.nd rfl (by first | exact Or.inl rfl | exact Or.inr rfl) (pe_lst pa_nil))
  (pss_cons (ps_set (i := 3) sc__law_custom.nd rfl (by first | exact Or.inl rfl | exact Or.inr rfl) pe_int)
  (pss_cons (ps_set (i := 4) sc__law_custom.nd rfl (by first | exact Or.inl rfl | exact Or.inr rfl) (pe_op (o_plus (K := K)) pe_int (pe_op o_mod (pv 1) pe_int)))
  (pss_cons (ps_if (pt_cmpR (o_eq (K := K) hr.units) (pe_op o_mod (pe_op o_fdiv (pv 1) pe_int) pe_int) pe_int (nomark _)) (pss_one (ps_set (i := 4) sc__law_custom.nd rfl (by first | exact Or.inl rfl | exact Or.inr rfl) (pe_op (o_plus (K := K)) (pv 4) pe_int))) pss_nil)
  (pss_cons (ps_for (passes_of rfl) rfl (pi_range1 rfl T.z_range (pa_cons (pv 4) pa_nil)) (pg_name (i := 5) sc__law_custom.nd rfl (by first | exact Or.inl rfl | exact Or.inr rfl)) (pss_cons (ps_set (i := 6) sc__law_custom.nd rfl (by first | exact Or.inl rfl | exact Or.inr rfl) (pe_op o_mod (pe_fn fn__law_cell_at (hr.mono (by decide)) (takes_of rfl rfl rfl rfl) rfl (pa_cons (pv 0) (pa_cons (pe_op (o_plus (K := K)) pe_int (pv 5)) pa_nil))) (pe_op o_pow pe_int pe_int)))
  (pss_cons (ps_expr (b_m (K := K) PySem.F.plainAttrs_list PySem.F.slot_list_append PySem.F.type_list_append mt_append (pv 2) (pa_cons (pe_fn fn_boat (hr.mono (by decide)) (takes_of rfl rfl rfl rfl) rfl (pa_cons (pe_fn fn__law_claim (hr.mono (by decide)) (takes_of rfl rfl rfl rfl) rfl (pa_cons (pv 6) (pa_cons (pe_op o_mod (pe_op o_fdiv (pv 1) pe_int) pe_int) pa_nil))) pa_nil)) pa_nil)))
  (pss_cons (ps_set (i := 7) sc__law_custom.nd rfl (by first | exact Or.inl rfl | exact Or.inr rfl) (pe_op o_mod (pe_fn fn__law_cell_at (hr.mono (by decide)) (takes_of rfl rfl rfl rfl) rfl (pa_cons (pv 0) (pa_cons (pe_op (o_plus (K := K)) pe_int (pv 5)) pa_nil))) (pe_op o_pow pe_int pe_int)))
  (pss_one (ps_if (PW.pt (pw_and (pt_cmpR (o_eq (K := K) hr.units) (pe_op o_mod (pv 7) pe_int) pe_int (nomark _)) (pw_and1 (pt_cmpR o_lt (pv 3) pe_int (nomark _))))) (pss_cons (ps_set (i := 3) sc__law_custom.nd rfl (by first | exact Or.inl rfl | exact Or.inr rfl) (pe_op (o_plus (K := K)) (pv 3) pe_int))
  (pss_cons (ps_set (i := 8) sc__law_custom.nd rfl (by first | exact Or.inl rfl | exact Or.inr rfl) (pe_op (o_plus (K := K)) pe_int (pe_op o_mod (pe_op o_fdiv (pv 7) pe_int) (pe_callB (c_min2 rfl) (by rfl) T.z_min (by decide +kernel) (pa_cons pe_int (pa_cons (pe_callB (c_lenA (K := K)) (by rfl) T.z_len (by decide +kernel) (pa_cons (pv 2) pa_nil)) pa_nil))))))
  (pss_one (ps_set (i := 2) sc__law_custom.nd rfl (by first | exact Or.inl rfl | exact Or.inr rfl) (pe_op (o_plus (K := K)) (pe_slice (s_any (K := K)) (pv 2) po_none (po_some (pe_un o_neg (pv 8)))) (pe_lst (pa_cons (pe_fn fn__law_knot (hr.mono (by decide)) (takes_of rfl rfl rfl rfl) rfl (pa_cons (pe_op o_fdiv (pv 7) pe_int) (pa_cons (pe_slice (s_any (K := K)) (pv 2) (po_some (pe_un o_neg (pv 8))) po_none) pa_nil))) pa_nil))))))) pss_nil))))))
  (pss_cons (ps_if (PW.pt (pw_or (pt_cmpR o_gt (pe_callB (c_lenA (K := K)) (by rfl) T.z_len (by decide +kernel) (pa_cons (pv 2) pa_nil)) pe_int (nomark _)) (pw_or1 (pt_cmpR o_gt (pe_op o_mod (pe_op o_fdiv (pv 1) pe_int) pe_int) pe_int (nomark _))))) (pss_one (ps_ret (pe_fn fn__law_knot (hr.mono (by decide)) (takes_of rfl rfl rfl rfl) rfl (pa_cons (pe_op o_fdiv (pv 1) pe_int) (pa_cons (pv 2) pa_nil))))) pss_nil)
  (pss_one (ps_ret (pe_ix (i_any (K := K)) (pv 2) pe_int (fun _ _ => rfl))))))))))), body_of h fun ds k hc => ?_⟩)
  obtain ⟨ns, rfl, hnl, hk⟩ := hc
  show Sd K _ _ _ [.val (.list (ns.map PyData.int)), .un, .un, .un, .un, .un, .un, .un, .un] _
  obtain ⟨p, hp⟩ : ∃ p, p = cellAt ns 0 % 10 ^ (30 : Int).toNat := ⟨_, rfl⟩
  have e30 : (0 : Int) < 10 ^ (30 : Int).toNat := by decide
  refine sd_seq (sd_set (d := .int p) (by rw [hp]; exact v_emod (ev_call (ea_cons (ev_var rfl) (ea_cons ev_int ea_nil)) (cell_v (by decide))) (by walk_at "ev") e30) ?_)
  clear hp
  refine sd_seq (sd_own (ds := []) (by walk_at "ef") ?_)
  refine sd_seq (sd_set (d := .int ((0 : Nat) : Int)) ev_int ?_)
  refine sd_seq (sd_set (d := .int (1 + p % 6)) (by walk_at "ev") ?_)
  refine sd_seq (sd_ifJ (fun ρ => ∃ m : Nat, 1 ≤ m ∧ m ≤ 12 ∧ ρ = [.val (.list (ns.map PyData.int)), .val (.int p), .own [], .val (.int ((0 : Nat) : Int)), .val (.int (m : Int)), .un, .un, .un, .un]) (et_test (by walk_at "es")) (fun _ => sd_set (d := .int (1 + p % 6 + 6)) (by walk_at "ev") ⟨(1 + p % 6 + 6).toNat, by omega, by omega, ?_⟩) (fun _ => sd_next ⟨(1 + p % 6).toNat, by omega, by omega, ?_⟩) ?_)
  · rw [Int.toNat_of_nonneg (by omega)]
    rfl
  · rw [Int.toNat_of_nonneg (by omega)]
    rfl
  rintro ρ ⟨m, m1, m12, rfl⟩
  refine sd_seq (sd_for (ds := rangeD 0 m) (fun i ρ => ∃ (q : List Cu) (b : Nat) (z5 z6 z7 z8 : Sl), ρ = [.val (.list (ns.map PyData.int)), .val (.int p), .own (q.map Cu.d), .val (.int (b : Int)), .val (.int (m : Int)), z5, z6, z7, z8] ∧ (∀ u ∈ q, u.Ok ∧ u.deep ≤ 1 + b) ∧ (Cu.claimsL q).length = i ∧ b ≤ 5 ∧ (1 ≤ i → q ≠ [])) (by
    have := id_rng1 (K := K) (j := (m : Int)) (ρ := [.val (.list (ns.map PyData.int)), .val (.int p), .own [], .val (.int ((0 : Nat) : Int)), .val (.int (m : Int)), .un, .un, .un, .un]) (ea_cons (ev_var (i := 4) rfl) ea_nil) (by omega) (by omega)
    rw [Int.toNat_natCast] at this
    exact this) ⟨[], 0, _, _, _, _, rfl, fun u hu => (by cases hu), rfl, Nat.zero_le _, fun z => absurd z (by decide)⟩ ?_ ?_)
  · rintro i d ρ' hd ⟨q, b, z5, z6, z7, z8, rfl, hq, hb, hbm, _⟩
    obtain ⟨hi, rfl⟩ := rangeD_get hd
    refine ⟨_, gd_name, ?_⟩
    obtain ⟨c, hc⟩ : ∃ c, c = cellAt ns (1 + (0 + (i : Int))) % 10 ^ (30 : Int).toNat := ⟨_, rfl⟩
    refine sd_seq (sd_set (d := .int c) (by rw [hc]; exact v_emod (ev_call (ea_cons (ev_var rfl) (ea_cons (a_add ev_int (ev_var rfl)) ea_nil)) (cell_v (by omega))) (by walk_at "ev") e30) ?_)
    clear hc
    have hql : q.length ≤ 12 := by
      have := Cu.claimsL_ge (ks := q) fun u hu => (hq u hu).1.ok
      omega
    obtain ⟨c0, c1⟩ := clF_b c (p / 6 % 3)
    have hbo : (Cu.boat (clF c (p / 6 % 3))).Ok := ⟨⟨c0, c1⟩, by show 1 ≤ 12; decide, by show 1 ≤ 8; decide⟩
    refine sd_seq (sd_append (d := (Cu.boat (clF c (p / 6 % 3))).d) rfl (ev_call (ea_cons (ev_call (ea_cons (ev_var rfl) (ea_cons (by walk_at "ev") ea_nil)) clmF_v) ea_nil) (boat_v c0 c1)) (by rw [List.length_map]; omega) ?_)
    generalize clF c (p / 6 % 3) = v at hbo
    obtain ⟨x, hx⟩ : ∃ x, x = cellAt ns (7 + (0 + (i : Int))) % 10 ^ (30 : Int).toNat := ⟨_, rfl⟩
    refine sd_seq (sd_set (d := .int x) (by rw [hx]; exact v_emod (ev_call (ea_cons (ev_var rfl) (ea_cons (a_add ev_int (ev_var rfl)) ea_nil)) (cell_v (by omega))) (by walk_at "ev") e30) ?_)
    clear hx
    obtain ⟨q', hq'⟩ : ∃ q', q' = q ++ [Cu.boat v] := ⟨_, rfl⟩
    have eq' : q.map Cu.d ++ [(Cu.boat v).d] = q'.map Cu.d := by rw [hq', List.map_append]; rfl
    have h1 : ∀ u ∈ q', u.Ok ∧ u.deep ≤ 1 + b := fun u hu => by
      rw [hq'] at hu
      rcases List.mem_append.mp hu with hu | hu
      · exact hq u hu
      · obtain rfl := List.mem_singleton.mp hu
        exact ⟨hbo, by show 1 ≤ 1 + b; omega⟩
    have h2 : (Cu.claimsL q').length = i + 1 := by
      rw [hq', Cu.claimsL_append, List.length_append, hb]
      rfl
    have h3 : q' ≠ [] := by rw [hq']; exact fun z => by simp at z
    rw [eq']
    clear hq' eq' hb hq hql
    have hql : q'.length ≤ 12 := by
      have := Cu.claimsL_ge (ks := q') fun u hu => (h1 u hu).1.ok
      omega
    have hq1 := List.length_pos_iff.mpr h3
    refine sd_ifS (b := decide (x % 3 = 1) && decide ((b : Int) < 5)) (EvT.is (et_and (et_test (by walk_at "ev")) fun _ => et_test (v_lt (ev_var rfl) ev_int)) (by rw [eqv_int])) (fun z => ?_) (fun _ => sd_next ⟨q', b, _, _, _, _, rfl, h1, h2, hbm, fun _ => h3⟩)
    rw [Bool.and_eq_true, decide_eq_true_eq, decide_eq_true_eq] at z
    refine sd_seq (sd_set (d := .int ((b + 1 : Nat) : Int)) (Ev.is (a_add (ev_var rfl) ev_int) (congrArg PyData.int (by omega))) ?_)
    have hmin : 1 ≤ min 4 (q'.length : Int) ∧ min 4 (q'.length : Int) ≤ 4 ∧ min 4 (q'.length : Int) ≤ (q'.length : Int) := by omega
    obtain ⟨f, hf⟩ : ∃ f : Nat, 1 + x / 3 % min 4 (q'.length : Int) = (f : Int) := ⟨(1 + x / 3 % min 4 (q'.length : Int)).toNat, by
      have := Int.emod_nonneg (x / 3) (b := min 4 (q'.length : Int)) (by omega)
      omega⟩
    have hf1 : 1 ≤ f ∧ f ≤ q'.length := by
      have a1 := Int.emod_nonneg (x / 3) (b := min 4 (q'.length : Int)) (by omega)
      have a2 := Int.emod_lt_of_pos (x / 3) (b := min 4 (q'.length : Int)) (by omega)
      omega
    refine sd_seq (sd_set (d := .int (f : Int)) (by
      rw [← hf]
      exact a_add ev_int (v_emod (by walk_at "ev") (v_min2 ev_int (by rw [← List.length_map (f := Cu.d) (as := q')]; exact a_lenL (evl_own rfl))) (by omega))) ?_)
    obtain ⟨t, ht⟩ : ∃ t, t = q'.drop (q'.length - f) := ⟨_, rfl⟩
    obtain ⟨s, hs⟩ : ∃ s, s = q'.take (q'.length - f) := ⟨_, rfl⟩
    have hst : s ++ t = q' := by rw [hs, ht, List.take_append_drop]
    have htl : 1 ≤ t.length ∧ t.length ≤ 12 := by rw [ht, List.length_drop]; omega
    have hto : ∀ u ∈ t, u.Ok ∧ u.deep ≤ 7 := fun u hu => by
      obtain ⟨a, e⟩ := h1 u (by rw [← hst]; exact List.mem_append_right _ hu)
      exact ⟨a, by omega⟩
    have htb : ∀ u ∈ t, u.deep ≤ 1 + b := fun u hu => (h1 u (by rw [← hst]; exact List.mem_append_right _ hu)).2
    have htne : t ≠ [] := fun z => by rw [z] at htl; exact absurd htl.1 (by decide)
    have c1 : cutD (q'.map Cu.d) (some (-(f : Int))) none = t.map Cu.d := by rw [cut_last' hf1.1, List.length_map, ht, List.map_drop]
    have c2 : cutD (q'.map Cu.d) none (some (-(f : Int))) = s.map Cu.d := by rw [cut_init' hf1.1, List.length_map, hs, List.map_take]
    have eT : ∀ ρ : En, ρ[2]? = some (.own (q'.map Cu.d)) → ρ[8]? = some (.val (.int (f : Int))) → EvF K (tSl (Pu.rSlA K) (tVar 2) (tPart (tUn rNeg (tVar 8))) tNoPart) ρ (t.map Cu.d) := fun ρ h3 h7 => by
      rw [← c1]
      exact a_slL (evl_own h3) (o_some (v_neg (ev_var h7))) o_none
    have hcs2 : Cu.claimsL s ++ Cu.claimsL t = Cu.claimsL q' := by rw [← Cu.claimsL_append, hst]
    have hcl := congrArg List.length hcs2
    rw [List.length_append] at hcl
    have hko : (knF (x / 12) t).Ok := knF_ok htne (by omega) hto (by omega)
    have hkd : (knF (x / 12) t).deep ≤ 1 + (b + 1) := by
      show 1 + Cu.deepL t ≤ 1 + (b + 1)
      have := Cu.deepL_le.mpr htb
      omega
    refine sd_own (ds := (s ++ [knF (x / 12) t]).map Cu.d) (by
      rw [List.map_append, ← c2]
      refine a_cat (EvF.m (a_slL (evl_own rfl) o_none (o_some (v_neg (ev_var rfl))))) (EvF.m (evf_lst (ea_cons (ev_call (ea_cons (by walk_at "ev") (ea_cons (EvF.v (eT _ rfl rfl)) ea_nil)) (knF_v (by omega) hko)) ea_nil) (by exact Nat.le_of_ble_eq_true rfl))) ?_
      rw [c2, List.length_map, hs, List.length_take]
      show min _ _ + 1 ≤ 100000
      omega) ⟨s ++ [knF (x / 12) t], b + 1, _, _, _, _, rfl, fun u hu => ?_, ?_, by omega, fun _ => (by simp)⟩
    · rcases List.mem_append.mp hu with hu | hu
      · obtain ⟨a, e⟩ := h1 u (by rw [← hst]; exact List.mem_append_left _ hu)
        exact ⟨a, by omega⟩
      · obtain rfl := List.mem_singleton.mp hu
        exact ⟨hko, hkd⟩
    · rw [Cu.claimsL_append, List.length_append]
      have : (Cu.claimsL [knF (x / 12) t]).length = (Cu.claimsL t).length := by
        show (Cu.claimsL t ++ []).length = _
        rw [List.append_nil]
      omega
  · rintro ρ ⟨q, b, z5, z6, z7, z8, rfl, hq, hb, hbm, hne⟩
    rw [rangeD_len] at hb hne
    have hne := hne m1
    have hq1 := List.length_pos_iff.mpr hne
    have hql : q.length ≤ 12 := by
      have := Cu.claimsL_ge (ks := q) fun u hu => (hq u hu).1.ok
      omega
    have eL : ∀ ρ : En, ρ[2]? = some (.own (q.map Cu.d)) → Ev K (tCB (rLenA K) (tCons (tVar 2) tNil)) ρ (.int (q.length : Int)) := fun ρ h => by
      rw [← List.length_map (f := Cu.d) (as := q)]
      exact a_lenL (evl_own h)
    refine sd_seq (sd_ifS (et_or (et_test (v_gt (eL _ rfl) ev_int)) fun _ => et_test (by walk_at "ev")) (fun z => ?_) (fun z => sd_next ?_))
    · have hko : (knF (p / 72) q).Ok := knF_ok hne hql (fun u hu => ⟨(hq u hu).1, by have := (hq u hu).2; omega⟩) (by omega)
      refine sd_freeze 2 rfl ?_
      exact sd_ret (ev_call (ea_cons (by walk_at "ev") (ea_cons (ev_var rfl) ea_nil)) (knF_v hql hko)) (hk _ hko)
    · obtain ⟨u, r, rfl⟩ : ∃ u r, q = u :: r := by
        cases q with
        | nil => exact absurd rfl hne
        | cons u r => exact ⟨u, r, rfl⟩
      exact sd_ret (ev_ixSL (d := u.d) (evl_own rfl) ev_int (atI_nat (j := 0) rfl)) (hk u (hq u List.mem_cons_self).1)
theorem sc__law_claims : FnScope ["custom", "claims", "kid"] ["custom"] (defScope s__law_claims) := ⟨rfl, rfl, rfl, by decide +kernel, rfl, by decide +kernel, by decide +kernel⟩
theorem no__law_claims {ds : List D} {k : Kc} (h : cClaimsOf 0 ds k) : False := no_claims_of h
theorem st__law_claims (dd : Nat) (T : Txt K mg A) (hN : base.NoSeer) (hT : P.given.tree = none)  (fn__law_claims : Ok P w K mg base (1 + dd) "_law_claims" ["custom"] (spc K (cClaimsOf dd))) : Ok P w K mg base (1 + (dd + 1)) "_law_claims" ["custom"] (spc K (cClaimsOf (dd + 1))) := by
  refine T.f__law_claims.ok (k := 1 + dd) sc__law_claims _ (fun ds k hc => by obtain ⟨_, rfl, _⟩ := hc; rfl) (fun cdv A' outer s H vs Q E hr h => ⟨_, (pss_cons (ps_if (pt_cmpR (o_eq (K := K) hr.units) (pe_ix (i_any (K := K)) (pv 0) pe_int (fun _ _ => rfl)) pe_str (nomark _)) (pss_one (ps_ret (pe_lst (pa_cons (pe_ix (i_any (K := K)) (pv 0) pe_int (fun _ _ => rfl)) pa_nil)))) pss_nil)
  (pss_cons (ps_set (i := 1) sc__law_claims.nd rfl (by first | exact Or.inl rfl | exact Or.inr rfl) (pe_lst pa_nil))
  (pss_cons (ps_for (passes_of rfl) rfl (w_seq (K := K) (pe_ix (i_any (K := K)) (pv 0) pe_int (fun _ _ => rfl))) (pg_name (i := 2) sc__law_claims.nd rfl (by first | exact Or.inl rfl | exact Or.inr rfl)) (pss_one (ps_set (i := 1) sc__law_claims.nd rfl (by first | exact Or.inl rfl | exact Or.inr rfl) (pe_op (o_plus (K := K)) (pv 1) (pe_fn fn__law_claims (hr.mono (by omega)) (takes_of rfl rfl rfl rfl) rfl (pa_cons (pv 2) pa_nil))))))
  (pss_one (ps_ret (pv 1)))))), body_of h fun ds k hc => ?_⟩)
  obtain ⟨u, rfl, hd, hl, hk⟩ := hc
  show Sd K _ _ _ [.val u.d, .un, .un] _
  cases u with
  | boat c =>
    refine sd_seq (sd_ifS (b := true) (EvT.is (et_test (ev_eqS (a := "boat") (b := "boat") (ev_ixST (ds := [.str "boat", .int c]) (ev_var rfl) ev_int rfl) ev_str (by decide +kernel) (by decide +kernel))) rfl) (fun _ => ?_) (fun z => nomatch z))
    exact sd_retf (evf_lst (ea_cons (ev_ixST (ds := [.str "boat", .int c]) (ev_var rfl) ev_int rfl) ea_nil) (by exact Nat.le_of_ble_eq_true rfl)) hk
  | knot y ws ks =>
    have ix : ∀ (ρ : En), ρ[0]? = some (.val (Cu.knot y ws ks).d) → ρ[0]? = some (.val (.tuple [.str y.s, .tuple (ws.map PyData.int), .tuple (ks.map Cu.d)])) := fun ρ h => by rw [← Cu.at_knot]; exact h
    refine sd_seq (sd_ifS (b := false) (EvT.is (et_test (ev_eqS (a := y.s) (b := "boat") (ev_ixST (ev_var (ix _ rfl)) ev_int rfl) ev_str (s_shaped y) (by decide +kernel))) (y_boat y)) (fun z => nomatch z) (fun _ => sd_next ?_))
    refine sd_seq (sd_own (ds := []) (by walk_at "ef") ?_)
    have hl : (Cu.claimsL ks).length ≤ 100000 := hl
    refine sd_seq (sd_for (ds := ks.map Cu.d) (fun i ρ => ∃ z2 : Sl, ρ = [.val (Cu.knot y ws ks).d, .own ((Cu.claimsL (ks.take i)).map PyData.int), z2]) (w_tup (ev_ixST (ev_var (ix _ rfl)) ev_int rfl)) ⟨_, rfl⟩ ?_ ?_)
    · rintro i d ρ' hdd ⟨z2, rfl⟩
      obtain ⟨k, hi, rfl⟩ := cu_map_at hdd
      have hm := List.mem_of_getElem? hi
      refine ⟨_, gd_name, ?_⟩
      have h1 := Cu.deep_kid (y := y) (ws := ws) hm
      have h2 := Cu.claimsL_mem hm
      have h3 := Cu.claimsL_le ks (i + 1)
      have hs := Cu.claimsL_cut ks i k hi
      rw [hs, List.length_append] at h3
      rw [hs, List.map_append]
      exact sd_own (a_cat (evm_own rfl) (EvF.m (evf_call (ea_cons (ev_var rfl) ea_nil) (claimsOf_v (n := dd) (by omega) (by omega)))) (by rw [List.length_map, List.length_map]; omega)) ⟨_, rfl⟩
    · rintro ρ ⟨z2, rfl⟩
      rw [List.length_map, List.take_length]
      exact sd_reto rfl hk
theorem gr__law_claims (T : Txt K mg A) : Ok P w K mg base (1 + 0) "_law_claims" ["custom"] (spc K (cClaimsOf 0)) := T.f__law_claims.ok (k := 0) sc__law_claims _ (fun ds k hc => (no__law_claims hc).elim) (fun cdv A' outer s H vs Q E hr h => (spc_no h fun ds k hc => no__law_claims hc).elim)
theorem ok__law_claims (T : Txt K mg A) (hN : base.NoSeer) (hT : P.given.tree = none)  : Ok P w K mg base 21 "_law_claims" ["custom"] (spc K (cClaimsOf 20)) := by
  have all : ∀ dd : Nat, Ok P w K mg base (1 + dd) "_law_claims" ["custom"] (spc K (cClaimsOf dd)) := fun dd => by
    induction dd with
    | zero => exact gr__law_claims T
    | succ dd ih => exact st__law_claims dd T hN hT  ih
  exact all 20
theorem sc__law_names : FnScope ["script", "many", "letters", "cell", "names", "k", "rest", "name", "spot", "some"] ["script", "many"] (defScope s__law_names) := ⟨rfl, rfl, rfl, by decide +kernel, rfl, by decide +kernel, by decide +kernel⟩
theorem ok__law_names (T : Txt K mg A) (hN : base.NoSeer) (hT : P.given.tree = none) (fn__law_cell_at : Ok P w K mg base 1 "_law_cell_at" ["script", "k"] (spc K cCell)) : Ok P w K mg base 2 "_law_names" ["script", "many"] (spc K cNames) := by
  refine T.f__law_names.ok sc__law_names _ (fun ds k hc => by obtain ⟨_, _, rfl, _⟩ := hc; rfl) (fun cdv A' outer s H vs Q E hr h => ⟨_, (pss_cons (ps_set (i := 2) sc__law_names.nd rfl (by first | exact Or.inl rfl | exact Or.inr rfl) pe_str)
  (pss_cons (ps_set (i := 3) sc__law_names.nd rfl (by first | exact Or.inl rfl | exact Or.inr rfl) (pe_op o_mod (pe_fn fn__law_cell_at (hr.mono (by decide)) (takes_of rfl rfl rfl rfl) rfl (pa_cons (pv 0) (pa_cons pe_int pa_nil))) (pe_op o_pow pe_int pe_int)))
  (pss_cons (ps_set (i := 4) sc__law_names.nd rfl (by first | exact Or.inl rfl | exact Or.inr rfl) (pe_lst pa_nil))
  (pss_cons (ps_for (passes_of rfl) rfl (pi_range1 rfl T.z_range (pa_cons (pv 1) pa_nil)) (pg_name (i := 5) sc__law_names.nd rfl (by first | exact Or.inl rfl | exact Or.inr rfl)) (pss_cons (ps_set (i := 6) sc__law_names.nd rfl (by first | exact Or.inl rfl | exact Or.inr rfl) (pe_op o_fdiv (pv 3) (pe_op (o_plus (K := K)) (pv 5) pe_int)))
  (pss_cons (ps_set (i := 7) sc__law_names.nd rfl (by first | exact Or.inl rfl | exact Or.inr rfl) (pe_ix (i_any (K := K)) (pv 2) (pe_op o_mod (pe_op (o_plus (K := K)) (pv 3) (pv 5)) pe_int) (fun _ _ => rfl)))
  (pss_cons (ps_for (passes_of rfl) rfl (pi_range1 rfl T.z_range (pa_cons (pe_op o_mod (pe_op o_fdiv (pv 3) pe_int) pe_int) pa_nil)) (pg_name (i := 8) sc__law_names.nd rfl (by first | exact Or.inl rfl | exact Or.inr rfl)) (pss_cons (ps_set (i := 7) sc__law_names.nd rfl (by first | exact Or.inl rfl | exact Or.inr rfl) (pe_op (o_plus (K := K)) (pv 7) (pe_ix (i_any (K := K)) (pv 2) (pe_op o_mod (pv 6) pe_int) (fun _ _ => rfl))))
  (pss_one (ps_set (i := 6) sc__law_names.nd rfl (by first | exact Or.inl rfl | exact Or.inr rfl) (pe_op o_fdiv (pv 6) pe_int)))))
  (pss_cons (ps_if (pt_cmpR (o_eq (K := K) hr.units) (pe_op o_mod (pe_op o_fdiv (pv 3) pe_int) pe_int) (pv 5) (nomark _)) (pss_cons (ps_set (i := 9) sc__law_names.nd rfl (by first | exact Or.inl rfl | exact Or.inr rfl) (pe_lst (pa_cons pe_str (pa_cons pe_str (pa_cons pe_str (pa_cons pe_str (pa_cons pe_str (pa_cons pe_str (pa_cons pe_str (pa_cons pe_str (pa_cons pe_str (pa_cons pe_str (pa_cons pe_str (pa_cons pe_str pa_nil))))))))))))))
  (pss_one (ps_set (i := 7) sc__law_names.nd rfl (by first | exact Or.inl rfl | exact Or.inr rfl) (pe_ix (i_any (K := K)) (pv 9) (pe_op o_mod (pe_op o_fdiv (pv 3) pe_int) pe_int) (fun _ _ => rfl))))) pss_nil)
  (pss_one (ps_expr (b_m (K := K) PySem.F.plainAttrs_list PySem.F.slot_list_append PySem.F.type_list_append mt_append (pv 4) (pa_cons (pv 7) pa_nil)))))))))
  (pss_one (ps_ret (pv 4))))))), body_of h fun ds k hc => ?_⟩)
  obtain ⟨ns, m, rfl, hm, hk⟩ := hc
  show Sd K _ _ _ [.val (.list (ns.map PyData.int)), .val (.int (m : Int)), .un, .un, .un, .un, .un, .un, .un, .un] _
  refine sd_seq (sd_set ev_str ?_)
  obtain ⟨c, hc⟩ : ∃ c, c = cellAt ns 13 % 10 ^ (30 : Int).toNat := ⟨_, rfl⟩
  have c0 : 0 ≤ c := by rw [hc]; exact Int.emod_nonneg _ (by decide)
  refine sd_seq (sd_set (d := .int c) (by rw [hc]; exact v_emod (ev_call (ea_cons (ev_var rfl) (ea_cons ev_int ea_nil)) (cell_v (by decide))) (by walk_at "ev") (by decide)) ?_)
  clear hc
  refine sd_seq (sd_own (ds := []) (evf_lst ea_nil (by exact Nat.le_of_ble_eq_true rfl)) ?_)
  have l1 : ("abcdefghijklmnopqrstuvwxyz" : Str).length = 26 := by decide +kernel
  refine sd_seq (sd_for (fun i ρ => ∃ (z5 z6 z7 z8 z9 : Sl) (zs : List Str), ρ = [.val (.list (ns.map PyData.int)), .val (.int (m : Int)), .val (.str "abcdefghijklmnopqrstuvwxyz"), .val (.int c), .own (zs.map PyData.str), z5, z6, z7, z8, z9] ∧ zs.length = i ∧ ∀ z ∈ zs, isNm z = true) (id_rngN (n := m) (ea_cons (ev_var rfl) ea_nil) (by omega)) ⟨_, _, _, _, _, [], rfl, rfl, fun z hz => nomatch hz⟩ ?_ ?_)
  · rintro i d ρ' hd ⟨z5, z6, z7, z8, z9, zs, rfl, hzl, hzs⟩
    obtain ⟨hi, rfl⟩ := rangeD_get hd
    rw [Int.zero_add]
    refine ⟨_, gd_name, ?_⟩
    refine sd_seq (sd_set (d := .int (c / ((i : Int) + 1))) (v_div (ev_var rfl) (a_add (ev_var rfl) ev_int) (by omega) (Nat.lt_of_le_of_lt (Nat.log2_le_self _) (by omega))) ?_)
    have r0 : 0 ≤ c / ((i : Int) + 1) := Int.ediv_nonneg c0 (by omega)
    generalize c / ((i : Int) + 1) = r at r0
    obtain ⟨x, hx, hxl⟩ := low_pick (k := (c + (i : Int)) % 26) (by omega) (by omega)
    refine sd_seq (sd_set (d := .str ⟨#[x]⟩) (ev_ixS (ev_var rfl) (by walk_at "ev") (by rw [l1]; decide) hx) ?_)
    have hone : (⟨#[x]⟩ : Str).cps.toList.all lowB = true := by
      show (lowB x && true) = true
      rw [hxl]
      rfl
    refine sd_seq (sd_for (fun j ρ => ∃ (r : Int) (w : Str) (z8 : Sl), ρ = [.val (.list (ns.map PyData.int)), .val (.int (m : Int)), .val (.str "abcdefghijklmnopqrstuvwxyz"), .val (.int c), .own (zs.map PyData.str), .val (.int (i : Int)), .val (.int r), .val (.str w), z8, z9] ∧ 0 ≤ r ∧ w.length = 1 + j ∧ w.cps.toList.all lowB = true) (id_rng1 (j := c / 26 % 12) (ea_cons (by walk_at "ev") ea_nil) (by omega) (by omega)) ⟨_, _, _, rfl, r0, rfl, hone⟩ ?_ ?_)
    · rintro j d ρ' hd' ⟨r, w, z8, rfl, r0, hwl, hwb⟩
      obtain ⟨hj, rfl⟩ := rangeD_get hd'
      refine ⟨_, gd_name, ?_⟩
      obtain ⟨y, hy, hyl⟩ := low_pick (k := r % 26) (by omega) (by omega)
      have e1 : (⟨#[y]⟩ : Str).length = 1 := rfl
      refine sd_seq (sd_set (d := .str (w ++ (⟨#[y]⟩ : Str))) (a_catS (ev_var rfl) (ev_ixS (ev_var rfl) (by walk_at "ev") (by rw [l1]; decide) hy) (by rw [e1]; omega)) ?_)
      exact sd_set (d := .int (r / 26)) (by walk_at "ev") ⟨r / 26, _, _, rfl, by omega, by rw [cat_len, e1]; omega, low_snoc hwb hyl⟩
    rintro ρ ⟨r, w, z8, rfl, r0', hwl, hwb⟩
    rw [rangeD_len] at hwl
    have hnm : isNm w = true := isNm_of (by omega) (by omega) hwb
    clear hwl hwb
    refine sd_seq (sd_ifJ (fun ρ => ∃ (w : Str) (z9 : Sl), ρ = [.val (.list (ns.map PyData.int)), .val (.int (m : Int)), .val (.str "abcdefghijklmnopqrstuvwxyz"), .val (.int c), .own (zs.map PyData.str), .val (.int (i : Int)), .val (.int r), .val (.str w), z8, z9] ∧ isNm w = true) (b := decide (c / 286 % 5 = (i : Int))) (EvT.is (et_test (ev_eqD (d1 := .int (c / 286 % 5)) (d2 := .int (i : Int)) (by walk_at "ev") (ev_var rfl) rfl rfl)) eqv_int) (fun _ => ?_) (fun _ => sd_next ⟨_, _, rfl, hnm⟩) ?_)
    · obtain ⟨y, hy, hyn⟩ := strs_pickB isNm ["even", "ask", "row", "gets", "lack", "kept", "half", "land", "part", "custom", "basket", "refused"] (by decide +kernel) (k := c / 1430 % 12) (by omega) (by show c / 1430 % 12 < 12; omega)
      refine sd_seq (sd_set (d := .list ((["even", "ask", "row", "gets", "lack", "kept", "half", "land", "part", "custom", "basket", "refused"] : List Str).map PyData.str)) (EvF.v (evf_lst (ea_cons ev_str (ea_cons ev_str (ea_cons ev_str (ea_cons ev_str (ea_cons ev_str (ea_cons ev_str (ea_cons ev_str (ea_cons ev_str (ea_cons ev_str (ea_cons ev_str (ea_cons ev_str (ea_cons ev_str ea_nil)))))))))))) (by exact Nat.le_of_ble_eq_true rfl))) ?_)
      exact sd_set (d := .str y) (ev_ixSL (ev_var rfl).l (by walk_at "ev") hy) ⟨_, _, rfl, hyn⟩
    clear hnm
    rintro ρ ⟨w, z9, rfl, hnm⟩
    refine sd_append (d := .str w) rfl (ev_var rfl) (by rw [List.length_map]; omega) ⟨.val (.int (i : Int)), .val (.int r), .val (.str w), z8, z9, zs ++ [w], ?_, by rw [List.length_append, hzl]; rfl, fun z hz => ?_⟩
    · rw [List.map_append]
      rfl
    · rcases List.mem_append.mp hz with hz | hz
      · exact hzs z hz
      · obtain rfl := List.mem_singleton.mp hz
        exact hnm
  · rintro ρ ⟨z5, z6, z7, z8, z9, zs, rfl, hzl, hzs⟩
    rw [rangeD_len] at hzl
    exact sd_reto rfl (hk _ ⟨zs, rfl, hzl, hzs⟩)
theorem sc__law_text : FnScope ["custom", "names", "at", "text", "k"] ["custom", "names", "at"] (defScope s__law_text) := ⟨rfl, rfl, rfl, by decide +kernel, rfl, by decide +kernel, by decide +kernel⟩
theorem no__law_text {ds : List D} {k : Kc} (h : cLText 0 ds k) : False := by
  obtain ⟨u, _, _, _, _, h, _⟩ := h
  have := u.deep_pos
  omega
theorem st__law_text (dd : Nat) (T : Txt K mg A) (hN : base.NoSeer) (hT : P.given.tree = none) (fn__law_claims : Ok P w K mg base 21 "_law_claims" ["custom"] (spc K (cClaimsOf 20))) (fn__law_text : Ok P w K mg base (22 + dd) "_law_text" ["custom", "names", "at"] (spc K (cLText dd))) : Ok P w K mg base (22 + (dd + 1)) "_law_text" ["custom", "names", "at"] (spc K (cLText (dd + 1))) := by
  refine T.f__law_text.ok (k := 22 + dd) sc__law_text _ (fun ds k hc => by obtain ⟨_, _, _, rfl, _⟩ := hc; rfl) (fun cdv A' outer s H vs Q E hr h => ⟨_, (pss_cons (ps_if (pt_cmpR (o_eq (K := K) hr.units) (pe_ix (i_any (K := K)) (pv 0) pe_int (fun _ _ => rfl)) pe_str (nomark _)) (pss_one (ps_ret (pe_op (o_plus (K := K)) (pe_op (o_plus (K := K)) (pe_ix (i_any (K := K)) (pv 1) (pv 2) (fun _ _ => rfl)) pe_str) (pe_callTy (c_strI) (by rfl) T.z_str (by decide +kernel) (pa_cons (pe_ix (i_any (K := K)) (pv 0) pe_int (fun _ _ => rfl)) pa_nil))))) pss_nil)
  (pss_cons (ps_set (i := 3) sc__law_text.nd rfl (by first | exact Or.inl rfl | exact Or.inr rfl) pe_str)
  (pss_cons (ps_for (passes_of rfl) rfl (pi_range1 rfl T.z_range (pa_cons (pe_callB (c_lenA (K := K)) (by rfl) T.z_len (by decide +kernel) (pa_cons (pe_ix (i_any (K := K)) (pv 0) pe_int (fun _ _ => rfl)) pa_nil)) pa_nil)) (pg_name (i := 4) sc__law_text.nd rfl (by first | exact Or.inl rfl | exact Or.inr rfl)) (pss_cons (ps_if (pt_cmpR o_gt (pv 4) pe_int (nomark _)) (pss_one (ps_set (i := 3) sc__law_text.nd rfl (by first | exact Or.inl rfl | exact Or.inr rfl) (pe_op (o_plus (K := K)) (pv 3) pe_str))) pss_nil)
  (pss_cons (ps_if (pt_cmpR o_gt (pe_callB (c_lenA (K := K)) (by rfl) T.z_len (by decide +kernel) (pa_cons (pe_ix (i_any (K := K)) (pv 0) pe_int (fun _ _ => rfl)) pa_nil)) pe_int (nomark _)) (pss_one (ps_set (i := 3) sc__law_text.nd rfl (by first | exact Or.inl rfl | exact Or.inr rfl) (pe_op (o_plus (K := K)) (pe_op (o_plus (K := K)) (pv 3) (pe_callTy (c_strI) (by rfl) T.z_str (by decide +kernel) (pa_cons (pe_ix (i_any (K := K)) (pe_ix (i_any (K := K)) (pv 0) pe_int (fun _ _ => rfl)) (pv 4) (fun _ _ => rfl)) pa_nil))) pe_str))) pss_nil)
  (pss_cons (ps_set (i := 3) sc__law_text.nd rfl (by first | exact Or.inl rfl | exact Or.inr rfl) (pe_op (o_plus (K := K)) (pv 3) (pe_fn fn__law_text (hr.mono (by omega)) (takes_of rfl rfl rfl rfl) rfl (pa_cons (pe_ix (i_any (K := K)) (pe_ix (i_any (K := K)) (pv 0) pe_int (fun _ _ => rfl)) (pv 4) (fun _ _ => rfl)) (pa_cons (pv 1) (pa_cons (pv 2) pa_nil))))))
  (pss_one (ps_set (i := 2) sc__law_text.nd rfl (by first | exact Or.inl rfl | exact Or.inr rfl) (pe_op (o_plus (K := K)) (pv 2) (pe_callB (c_lenA (K := K)) (by rfl) T.z_len (by decide +kernel) (pa_cons (pe_fn fn__law_claims (hr.mono (by omega)) (takes_of rfl rfl rfl rfl) rfl (pa_cons (pe_ix (i_any (K := K)) (pe_ix (i_any (K := K)) (pv 0) pe_int (fun _ _ => rfl)) (pv 4) (fun _ _ => rfl)) pa_nil)) pa_nil)))))))))
  (pss_one (ps_ret (pe_op (o_plus (K := K)) (pe_op (o_plus (K := K)) (pe_op (o_plus (K := K)) (pe_ix (i_any (K := K)) (pv 0) pe_int (fun _ _ => rfl)) pe_str) (pv 3)) pe_str)))))), body_of h fun ds k hc => ?_⟩)
  obtain ⟨u, ns, at_, rfl, hok, hd, hat, hl, hz, hk⟩ := hc
  show Sd K _ _ _ [.val u.d, .val (.list (ns.map PyData.str)), .val (.int (at_ : Int)), .un, .un] _
  cases u with
  | boat c =>
    refine sd_seq (sd_ifS (b := true) (EvT.is (et_test (ev_eqS (a := "boat") (b := "boat") (ev_ixST (ds := [.str "boat", .int c]) (ev_var rfl) ev_int rfl) ev_str (by decide +kernel) (by decide +kernel))) rfl) (fun _ => ?_) (fun z => nomatch z))
    have hat : at_ + 1 ≤ ns.length := hat
    obtain ⟨w, hw⟩ : ∃ w, ns[at_]? = some w := ⟨_, List.getElem?_eq_getElem (by omega)⟩
    have hwl := hz w (List.mem_of_getElem? hw)
    have hcb := hok.ok
    have e13 : (10 : Nat) ^ 13 = 10000000000000 := by decide
    have hc13 : c.natAbs < 10 ^ 13 := by have := hcb.1; have := hcb.2; omega
    have hil := itS_len c hc13
    have e1 : (":" : Str).length = 1 := by decide +kernel
    have hlog : c.natAbs.log2 < 1920 := by
      have := Nat.log2_lt (n := c.natAbs) (k := 1920)
      by_cases z : c.natAbs = 0
      · rw [z]; decide
      · exact (this z).mpr (Nat.lt_of_lt_of_le hc13 (by decide))
    have hix : atI (ns.map PyData.str) (at_ : Int) = some (.str w) := atI_nat (by rw [List.getElem?_map, hw]; rfl)
    have et : Cu.text (.boat c) (ns.drop at_) = w ++ (":" : Str) ++ itS c := by
      unfold Cu.text
      congr 2
      rw [List.headD_eq_head?_getD, List.head?_drop, hw]
      rfl
    rw [et] at hk
    exact sd_ret (a_catS (a_catS (ev_ixSL (ev_var rfl).l (ev_var rfl) hix) ev_str (by rw [e1]; omega)) (v_strI (ev_ixST (ds := [.str "boat", .int c]) (ev_var rfl) ev_int rfl) hlog) (by rw [cat_len, e1]; show _ + (itS c).length ≤ 100000; omega)) hk
  | knot y ws ks =>
    have ix : ∀ (ρ : En), ρ[0]? = some (.val (Cu.knot y ws ks).d) → ρ[0]? = some (.val (.tuple [.str y.s, .tuple (ws.map PyData.int), .tuple (ks.map Cu.d)])) := fun ρ h => by rw [← Cu.at_knot]; exact h
    refine sd_seq (sd_ifS (b := false) (EvT.is (et_test (ev_eqS (a := y.s) (b := "boat") (ev_ixST (ev_var (ix _ rfl)) ev_int rfl) ev_str (s_shaped y) (by decide +kernel))) (y_boat y)) (fun z => nomatch z) (fun _ => sd_next ?_))
    refine sd_seq (sd_set ev_str ?_)
    obtain ⟨T0, hT0⟩ : ∃ T0, T0 = Cu.texts y.wd ks ws (ns.drop at_) := ⟨_, rfl⟩
    have hTl : T0.length = ks.length := by rw [hT0, texts_len]
    have hkl := hok.ok.1.2.1
    have hwf := wfit_iff.mp hok.ok.1.2.2
    have hne := hok.ok.1.1
    have hnd : ∀ z ∈ ns.drop at_, z.length ≤ 12 := fun z hz' => hz z (List.mem_of_mem_drop hz')
    have hat : at_ + (Cu.claimsL ks).length ≤ ns.length := hat
    have hw13 : ∀ w ∈ ws, w.natAbs < 10 ^ 13 := fun w hw => by
      have e13 : (10 : Nat) ^ 13 = 10000000000000 := by decide
      split at hwf
      · have := hwf.2 w hw
        omega
      · rw [hwf] at hw
        cases hw
    have hsum := texts_sum y.wd (Cu.deepL ks) ks ws (ns.drop at_) (fun k' hm => ⟨(hok.kid hm).ok, fun ns' hn' => Nat.le_trans (text_len k' (hok.kid hm).ok ns' hn') (Nat.mul_le_mul (Nat.le_refl _) (by have := Cu.deepL_le.mp (Nat.le_refl (Cu.deepL ks)) k' hm; omega))⟩) hw13 hnd
    rw [← hT0] at hsum
    have hC : (Cu.claimsL ks).length ≤ 12 := hok.few
    have hD : 1 + Cu.deepL ks ≤ 8 := hok.low
    have hbig : (Cu.claimsL ks).length * (50 * Cu.deepL ks + 17) ≤ 12 * 367 := Nat.mul_le_mul hC (by omega)
    have e2 : (", " : Str).length = 2 := by decide +kernel
    have hpre : ∀ i, (Str.join (", " : Str) (T0.take i)).length ≤ 4404 := fun i => by
      have h1 := StrLaws.join_length_le (", " : Str) (T0.take i)
      rw [e2] at h1
      have h2 : ((T0.take i).map (·.length)).sum ≤ (T0.map (·.length)).sum := by
        have e : T0.map (·.length) = (T0.take i).map (·.length) ++ (T0.drop i).map (·.length) := by rw [← List.map_append, List.take_append_drop]
        rw [e, List.sum_append]
        omega
      have h3 : (T0.take i).length ≤ T0.length := by rw [List.length_take]; omega
      omega
    refine sd_seq (sd_for (fun i ρ => ∃ z4 : Sl, ρ = [.val (Cu.knot y ws ks).d, .val (.list (ns.map PyData.str)), .val (.int ((at_ + (Cu.claimsL (ks.take i)).length : Nat) : Int)), .val (.str (Str.join (", " : Str) (T0.take i))), z4]) (id_rngN (n := ks.length) (ea_cons ((a_lenT (ev_ixST (ev_var (ix _ rfl)) ev_int rfl)).is (by rw [List.length_map])) ea_nil) (by omega)) ⟨_, rfl⟩ ?_ ?_)
    · rintro i d ρ' hd' ⟨z4, rfl⟩
      obtain ⟨hil, rfl⟩ := rangeD_get hd'
      rw [Int.zero_add]
      obtain ⟨k', hk'⟩ : ∃ k', ks[i]? = some k' := ⟨_, List.getElem?_eq_getElem hil⟩
      have hm := List.mem_of_getElem? hk'
      have hka : atI (ks.map Cu.d) (i : Int) = some k'.d := atI_nat (by rw [List.getElem?_map, hk']; rfl)
      refine ⟨_, gd_name, ?_⟩
      have hcut := Cu.claimsL_cut ks i k' hk'
      have hcl := Cu.claimsL_le ks (i + 1)
      rw [hcut, List.length_append] at hcl
      have hkd := Cu.deep_kid (y := y) (ws := ws) hm
      have hTi : T0[i]? = some (wk y.wd (ws.getD i 0) (k'.text ((ns.drop at_).drop (Cu.claimsL (ks.take i)).length))) := by rw [hT0]; exact texts_at y.wd ks ws (ns.drop at_) i k' hk'
      rw [List.drop_drop] at hTi
      rw [hcut, List.length_append]
      generalize (Cu.claimsL (ks.take i)).length = n at hTi hcl ⊢
      have hts := text_short (hok.kid hm) (ns := ns.drop (at_ + n)) fun z hz' => hz z (List.mem_of_mem_drop hz')
      have hpi := hpre i
      have ejoin : Str.join (", " : Str) (T0.take (i + 1)) = (if i = 0 then Str.empty else Str.join (", " : Str) (T0.take i) ++ (", " : Str)) ++ wk y.wd (ws.getD i 0) (k'.text (ns.drop (at_ + n))) := by
        rw [List.take_succ, hTi]
        show Str.join _ (T0.take i ++ [_]) = _
        rw [join_snoc]
        by_cases e : i = 0
        · subst e
          rw [if_pos (show T0.take 0 = [] from rfl), if_pos rfl, empty_cat]
        · rw [if_neg e, if_neg (fun z => e (by
            have := congrArg List.length z
            rw [List.length_take] at this
            have h0 : ([] : List Str).length = 0 := rfl
            omega))]
      rw [ejoin]
      have hlt := lText_v (n := dd) (u := k') (ns := ns) (at_ := at_ + n) (hok.kid hm) (by omega) (by omega) hl hz
      generalize k'.text (ns.drop (at_ + n)) = t at hts hlt ⊢
      refine sd_seq (sd_ifJ (fun ρ => ∃ a : Str, a = (if i = 0 then Str.empty else Str.join (", " : Str) (T0.take i) ++ (", " : Str)) ∧ a.length ≤ 4406 ∧ ρ = [.val (Cu.knot y ws ks).d, .val (.list (ns.map PyData.str)), .val (.int ((at_ + n : Nat) : Int)), .val (.str a), .val (.int (i : Int))]) (b := decide ((0 : Int) < (i : Int))) (et_test (v_gt (ev_var rfl) ev_int)) (fun z => ?_) (fun z => ?_) ?_)
      · have e : i ≠ 0 := by have := of_decide_eq_true z; omega
        rw [if_neg e]
        exact sd_set (a_catS (ev_var rfl) ev_str (by rw [e2]; omega)) ⟨_, rfl, by rw [cat_len, e2]; omega, rfl⟩
      · have e : i = 0 := by have := of_decide_eq_false z; omega
        rw [if_pos e]
        refine sd_next ⟨_, rfl, by show 0 ≤ 4406; omega, ?_⟩
        rw [e]
        rfl
      rintro ρ ⟨a, ea, hal, rfl⟩
      rw [← ea]
      rw [wk_cat]
      refine sd_seq (sd_ifJ (fun ρ => ∃ b : Str, b.length ≤ 4430 ∧ (if y.wd = true then a ++ itS (ws.getD i 0) ++ (" " : Str) ++ t else a ++ t) = b ++ t ∧ ρ = [.val (Cu.knot y ws ks).d, .val (.list (ns.map PyData.str)), .val (.int ((at_ + n : Nat) : Int)), .val (.str b), .val (.int (i : Int))]) (b := y.wd) (EvT.is (et_test (v_gt (i := (ws.length : Int)) (j := 0) ((a_lenT (ev_ixST (ev_var (ix _ rfl)) ev_int rfl)).is (by rw [List.length_map])) ev_int)) ?_) (fun z => ?_) (fun z => ?_) ?_)
      · cases e : y.wd with
        | true =>
          rw [e, if_pos rfl] at hwf
          exact decide_eq_true (by omega)
        | false =>
          rw [e] at hwf
          have hwf : ws = [] := hwf
          rw [hwf]
          rfl
      · rw [z, if_pos rfl] at hwf
        obtain ⟨v, hv⟩ : ∃ v, ws[i]? = some v := ⟨_, List.getElem?_eq_getElem (by omega)⟩
        have hv13 := hw13 v (List.mem_of_getElem? hv)
        have hvb := hwf.2 v (List.mem_of_getElem? hv)
        have hvl := itS_len v hv13
        have hlog : v.natAbs.log2 < 1920 := (Nat.log2_lt (n := v.natAbs) (k := 1920) (by omega)).mpr (Nat.lt_of_lt_of_le hv13 (by decide))
        have ew : ws.getD i 0 = v := by
          rw [List.getD_eq_getElem?_getD, hv]
          rfl
        have e1 : (" " : Str).length = 1 := by decide +kernel
        rw [ew, if_pos z]
        exact sd_set (a_catS (a_catS (ev_var rfl) (v_strI (ev_ixST (ev_ixST (ev_var (ix _ rfl)) ev_int rfl) (ev_var rfl) (ints_at rfl hv)) hlog) (by show a.length + (itS v).length ≤ 100000; omega)) ev_str (by rw [cat_len, e1]; show a.length + (itS v).length + 1 ≤ 100000; omega)) ⟨_, by rw [cat_len, cat_len, e1]; show a.length + (itS v).length + 1 ≤ 4430; omega, rfl, rfl⟩
      · rw [if_neg (by rw [z]; decide)]
        exact sd_next ⟨a, by omega, rfl, rfl⟩
      rintro ρ ⟨b, hbl, eb, rfl⟩
      rw [eb]
      refine sd_seq (sd_set (a_catS (ev_var rfl) (ev_call (ea_cons (ev_ixST (ev_ixST (ev_var (ix _ rfl)) ev_int rfl) (ev_var rfl) hka) (ea_cons (ev_var rfl) (ea_cons (ev_var rfl) ea_nil))) hlt) (by omega)) ?_)
      refine sd_set (d := .int ((at_ + (n + k'.claims.length) : Nat) : Int)) (Ev.is (a_add (ev_var rfl) ((a_lenL (EvF.l (evf_call (ea_cons (ev_ixST (ev_ixST (ev_var (ix _ rfl)) ev_int rfl) (ev_var rfl) hka) ea_nil) (claimsOf_v (by have := (hok.kid hm).low; omega) (by have := (hok.kid hm).few; omega))))).is (by rw [List.length_map]))) (by congr 1; omega)) ⟨_, rfl⟩
    · rintro ρ ⟨z4, rfl⟩
      rw [rangeD_len, List.take_length, ← hTl, List.take_length]
      have hpf := hpre T0.length
      rw [List.take_length] at hpf
      have et : Cu.text (.knot y ws ks) (ns.drop at_) = y.s ++ ("(" : Str) ++ Str.join (", " : Str) T0 ++ (")" : Str) := by
        rw [hT0]
        unfold Cu.text
        rfl
      rw [et] at hk
      have e3 : ("(" : Str).length = 1 := by decide +kernel
      have e4 : (")" : Str).length = 1 := by decide +kernel
      have hyl := ys_len y
      exact sd_ret (a_catS (a_catS (a_catS (ev_ixST (ev_var (ix _ rfl)) ev_int rfl) ev_str (by omega)) (ev_var rfl) (by rw [cat_len]; omega)) ev_str (by rw [cat_len, cat_len]; omega)) hk
theorem gr__law_text (T : Txt K mg A) : Ok P w K mg base (22 + 0) "_law_text" ["custom", "names", "at"] (spc K (cLText 0)) := T.f__law_text.ok (k := 21) sc__law_text _ (fun ds k hc => (no__law_text hc).elim) (fun cdv A' outer s H vs Q E hr h => (spc_no h fun ds k hc => no__law_text hc).elim)
theorem ok__law_text (T : Txt K mg A) (hN : base.NoSeer) (hT : P.given.tree = none) (fn__law_claims : Ok P w K mg base 21 "_law_claims" ["custom"] (spc K (cClaimsOf 20))) : Ok P w K mg base 42 "_law_text" ["custom", "names", "at"] (spc K (cLText 20)) := by
  have all : ∀ dd : Nat, Ok P w K mg base (22 + dd) "_law_text" ["custom", "names", "at"] (spc K (cLText dd)) := fun dd => by
    induction dd with
    | zero => exact gr__law_text T
    | succ dd ih => exact st__law_text dd T hN hT fn__law_claims ih
  exact all 20
theorem sc__law_whole : FnScope ["found"] ["found"] (defScope s__law_whole) := ⟨rfl, rfl, rfl, by decide +kernel, rfl, by decide +kernel, by decide +kernel⟩
theorem ok__law_whole (T : Txt K mg A) (hN : base.NoSeer) (hT : P.given.tree = none)  : Ok P w K mg base 1 "_law_whole" ["found"] (spc K cWhole) := by
  refine T.f__law_whole.ok sc__law_whole _ (fun ds k hc => by obtain ⟨_, rfl, _⟩ := hc; rfl) (fun cdv A' outer s H vs Q E hr h => ⟨_, (pss_one (ps_ret (pe_and (pe_callB (c_isiA (K := K)) (by rfl) T.z_isinstance (by decide +kernel) (pa_cons (pv 0) (pa_cons (pe_bltn (v := .ty "int") (by rfl) T.z_int (by decide +kernel) rfl) pa_nil))) (pe_one (pe_not (pe_callB (c_isiA (K := K)) (by rfl) T.z_isinstance (by decide +kernel) (pa_cons (pv 0) (pa_cons (pe_bltn (v := .ty "bool") (by rfl) T.z_bool (by decide +kernel) rfl) pa_nil)))))))), body_of h fun ds k hc => ?_⟩)
  obtain ⟨i, rfl, hk⟩ := hc
  show Sd K _ _ _ [.val (.int i)] _
  exact sd_ret (d := .bool (true && !false)) (by walk_at "ev") hk
theorem sc__law_alike : FnScope ["found", "due", "k"] ["found", "due"] (defScope s__law_alike) := ⟨rfl, rfl, rfl, by decide +kernel, rfl, by decide +kernel, by decide +kernel⟩
theorem no__law_alike {ds : List D} {k : Kc} (h : cAlikeL 0 ds k) : False := by
  obtain ⟨d, _, h, _⟩ := h
  exact h
theorem st__law_alike (dd : Nat) (T : Txt K mg A) (hN : base.NoSeer) (hT : P.given.tree = none) (fn__law_whole : Ok P w K mg base 1 "_law_whole" ["found"] (spc K cWhole)) (fn__law_alike : Ok P w K mg base (2 + dd) "_law_alike" ["found", "due"] (spc K (cAlikeL dd))) : Ok P w K mg base (2 + (dd + 1)) "_law_alike" ["found", "due"] (spc K (cAlikeL (dd + 1))) := by
  refine T.f__law_alike.ok (k := 2 + dd) sc__law_alike _ (fun ds k hc => by obtain ⟨_, rfl, _⟩ := hc; rfl) (fun cdv A' outer s H vs Q E hr h => ⟨_, (pss_cons (ps_if (pt_cmpR o_isN (pv 1) pe_non (nomark _)) (pss_one (ps_ret (pe_cmpR o_isN (pv 0) pe_non (nomark _)))) pss_nil)
  (pss_cons (ps_if (pt_val (pe_callB (c_isiA (K := K)) (by rfl) T.z_isinstance (by decide +kernel) (pa_cons (pv 1) (pa_cons (pe_bltn (v := .ty "str") (by rfl) T.z_str (by decide +kernel) rfl) pa_nil)))) (pss_one (ps_ret (pe_and (pe_callB (c_isiA (K := K)) (by rfl) T.z_isinstance (by decide +kernel) (pa_cons (pv 0) (pa_cons (pe_bltn (v := .ty "str") (by rfl) T.z_str (by decide +kernel) rfl) pa_nil))) (pe_one (pe_cmpR (o_eq (K := K) hr.units) (pv 0) (pv 1) (nomark _)))))) pss_nil)
  (pss_cons (ps_if (pt_val (pe_callB (c_isiA (K := K)) (by rfl) T.z_isinstance (by decide +kernel) (pa_cons (pv 1) (pa_cons (pe_bltn (v := .ty "int") (by rfl) T.z_int (by decide +kernel) rfl) pa_nil)))) (pss_one (ps_ret (pe_and (pe_fn fn__law_whole (hr.mono (by omega)) (takes_of rfl rfl rfl rfl) rfl (pa_cons (pv 0) pa_nil)) (pe_one (pe_cmpR (o_eq (K := K) hr.units) (pv 0) (pv 1) (nomark _)))))) pss_nil)
  (pss_cons (ps_if (pt_val (pe_callB (c_isiA (K := K)) (by rfl) T.z_isinstance (by decide +kernel) (pa_cons (pv 1) (pa_cons (pe_bltn (v := .ty "list") (by rfl) T.z_list (by decide +kernel) rfl) pa_nil)))) (pss_one (ps_if (PW.pt (pw_or (pt_not (pt_val (pe_callB (c_isiA (K := K)) (by rfl) T.z_isinstance (by decide +kernel) (pa_cons (pv 0) (pa_cons (pe_bltn (v := .ty "list") (by rfl) T.z_list (by decide +kernel) rfl) pa_nil))))) (pw_or1 (pt_cmpR (o_ne (K := K) hr.units) (pe_callB (c_lenA (K := K)) (by rfl) T.z_len (by decide +kernel) (pa_cons (pv 0) pa_nil)) (pe_callB (c_lenA (K := K)) (by rfl) T.z_len (by decide +kernel) (pa_cons (pv 1) pa_nil)) (nomark _))))) (pss_one (ps_ret pe_bl)) pss_nil)) (pss_one (ps_if (PW.pt (pw_or (pt_not (pt_val (pe_callB (c_isiA (K := K)) (by rfl) T.z_isinstance (by decide +kernel) (pa_cons (pv 0) (pa_cons (pe_bltn (v := .ty "tuple") (by rfl) T.z_tuple (by decide +kernel) rfl) pa_nil))))) (pw_or1 (pt_cmpR (o_ne (K := K) hr.units) (pe_callB (c_lenA (K := K)) (by rfl) T.z_len (by decide +kernel) (pa_cons (pv 0) pa_nil)) (pe_callB (c_lenA (K := K)) (by rfl) T.z_len (by decide +kernel) (pa_cons (pv 1) pa_nil)) (nomark _))))) (pss_one (ps_ret pe_bl)) pss_nil)))
  (pss_cons (ps_for (passes_of rfl) rfl (pi_range1 rfl T.z_range (pa_cons (pe_callB (c_lenA (K := K)) (by rfl) T.z_len (by decide +kernel) (pa_cons (pv 1) pa_nil)) pa_nil)) (pg_name (i := 2) sc__law_alike.nd rfl (by first | exact Or.inl rfl | exact Or.inr rfl)) (pss_one (ps_if (pt_not (pt_val (pe_fn fn__law_alike (hr.mono (by omega)) (takes_of rfl rfl rfl rfl) rfl (pa_cons (pe_ix (i_any (K := K)) (pv 0) (pv 2) (fun _ _ => rfl)) (pa_cons (pe_ix (i_any (K := K)) (pv 1) (pv 2) (fun _ _ => rfl)) pa_nil))))) (pss_one (ps_ret pe_bl)) pss_nil)))
  (pss_one (ps_ret pe_bl))))))), body_of h fun ds k hc => ?_⟩)
  obtain ⟨d, rfl, hd, hk⟩ := hc
  show Sd K _ _ _ [.val d, .val d, .un] _
  cases d with
  | none => exact sd_seq (sd_ifS (b := true) (EvT.is (et_test (v_isN (ev_var rfl))) rfl) (fun _ => sd_ret (Ev.is (v_isN (ev_var rfl)) rfl) hk) (fun z => nomatch z))
  | bool b => exact hd.elim
  | list xs =>
    obtain ⟨hl, hall⟩ := hd
    refine sd_seq (sd_ifS (b := false) (EvT.is (et_test (v_isN (ev_var rfl))) rfl) (fun z => nomatch z) (fun _ => sd_next ?_))
    refine sd_seq (sd_ifS (b := false) (et_B (v_isi (ev_var rfl) kit_list_str)) (fun z => nomatch z) (fun _ => sd_next ?_))
    refine sd_seq (sd_ifS (b := false) (et_B (v_isi (ev_var rfl) kit_list_int)) (fun z => nomatch z) (fun _ => sd_next ?_))
    refine sd_seq (sd_ifS (b := true) (et_B (v_isi (ev_var rfl) kit_list_list)) (fun _ => ?_) (fun z => nomatch z))
    refine sd_ifS (b := (!true) || (!(PyData.eqv (.int (xs.length : Int)) (.int (xs.length : Int))))) (et_or (et_not (et_B (v_isi (ev_var rfl) kit_list_list))) fun _ => et_test (ev_neD (a_lenL (ev_var rfl).l) (a_lenL (ev_var rfl).l) rfl rfl)) (fun z => by rw [SeqAt.eqv_refl _ rfl] at z; cases z) (fun _ => sd_next ?_)
    refine sd_seq (sd_for (fun i ρ => ∃ z2 : Sl, ρ = [.val (.list xs), .val (.list xs), z2]) (id_rng1 (j := (xs.length : Int)) (ea_cons (a_lenL (ev_var rfl).l) ea_nil) (by omega) (by omega)) ⟨_, rfl⟩ ?_ ?_)
    · rintro i d ρ' hdd ⟨z2, rfl⟩
      obtain ⟨hi, rfl⟩ := rangeD_get hdd
      obtain ⟨x, hx⟩ : ∃ x, xs[i]? = some x := ⟨_, List.getElem?_eq_getElem (by omega)⟩
      have hat : atI xs (0 + (i : Int)) = some x := by
        rw [show 0 + (i : Int) = (i : Int) by omega]
        exact atI_nat hx
      refine ⟨_, gd_name, ?_⟩
      exact sd_ifS (b := !true) (et_not (et_B (ev_call (ea_cons (ev_ixSL (ev_var rfl).l (ev_var rfl) hat) (ea_cons (ev_ixSL (ev_var rfl).l (ev_var rfl) hat) ea_nil)) (alikeL_v (n := dd) (hall x (List.mem_of_getElem? hx)))))) (fun z => nomatch z) (fun _ => sd_next ⟨_, rfl⟩)
    · rintro ρ ⟨z2, rfl⟩
      exact sd_ret ev_bl hk
  | dict ds => exact hd.elim
  | int i =>
    refine sd_seq (sd_ifS (b := false) (EvT.is (et_test (v_isN (ev_var rfl))) rfl) (fun z => nomatch z) (fun _ => sd_next ?_))
    refine sd_seq (sd_ifS (b := false) (et_B (v_isi (ev_var rfl) kit_int_str)) (fun z => nomatch z) (fun _ => sd_next ?_))
    refine sd_seq (sd_ifS (b := true) (et_B (v_isi (ev_var rfl) kit_int_int)) (fun _ => ?_) (fun z => nomatch z))
    exact sd_ret (d := .bool (true && PyData.eqv (.int i) (.int i))) (ev_andV (ev_call (ea_cons (ev_var rfl) ea_nil) whole_v) fun _ => ev_eqD (ev_var rfl) (ev_var rfl) rfl rfl) (by rw [SeqAt.eqv_refl _ rfl]; exact hk)
  | str z =>
    have hz : SeqAt.shaped (.str z) = true := hd
    refine sd_seq (sd_ifS (b := false) (EvT.is (et_test (v_isN (ev_var rfl))) rfl) (fun z => nomatch z) (fun _ => sd_next ?_))
    refine sd_seq (sd_ifS (b := true) (et_B (v_isi (ev_var rfl) kit_str_str)) (fun _ => ?_) (fun z => nomatch z))
    exact sd_ret (d := .bool (true && decide (z = z))) (ev_andV (v_isi (ev_var rfl) kit_str_str) fun _ => ev_eqS (ev_var rfl) (ev_var rfl) hz hz) (by rw [decide_eq_true rfl]; exact hk)
  | tuple xs =>
    obtain ⟨hl, hall⟩ := hd
    refine sd_seq (sd_ifS (b := false) (EvT.is (et_test (v_isN (ev_var rfl))) rfl) (fun z => nomatch z) (fun _ => sd_next ?_))
    refine sd_seq (sd_ifS (b := false) (et_B (v_isi (ev_var rfl) kit_tuple_str)) (fun z => nomatch z) (fun _ => sd_next ?_))
    refine sd_seq (sd_ifS (b := false) (et_B (v_isi (ev_var rfl) kit_tuple_int)) (fun z => nomatch z) (fun _ => sd_next ?_))
    refine sd_seq (sd_ifS (b := false) (et_B (v_isi (ev_var rfl) kit_tuple_list)) (fun z => nomatch z) (fun _ => ?_))
    refine sd_ifS (b := (!true) || (!(PyData.eqv (.int (xs.length : Int)) (.int (xs.length : Int))))) (et_or (et_not (et_B (v_isi (ev_var rfl) kit_tuple_tuple))) fun _ => et_test (ev_neD (a_lenT (ev_var rfl)) (a_lenT (ev_var rfl)) rfl rfl)) (fun z => by rw [SeqAt.eqv_refl _ rfl] at z; cases z) (fun _ => sd_next ?_)
    refine sd_seq (sd_for (fun i ρ => ∃ z2 : Sl, ρ = [.val (.tuple xs), .val (.tuple xs), z2]) (id_rng1 (j := (xs.length : Int)) (ea_cons (a_lenT (ev_var rfl)) ea_nil) (by omega) (by omega)) ⟨_, rfl⟩ ?_ ?_)
    · rintro i d ρ' hdd ⟨z2, rfl⟩
      obtain ⟨hi, rfl⟩ := rangeD_get hdd
      obtain ⟨x, hx⟩ : ∃ x, xs[i]? = some x := ⟨_, List.getElem?_eq_getElem (by omega)⟩
      have hat : atI xs (0 + (i : Int)) = some x := by
        rw [show 0 + (i : Int) = (i : Int) by omega]
        exact atI_nat hx
      refine ⟨_, gd_name, ?_⟩
      exact sd_ifS (b := !true) (et_not (et_B (ev_call (ea_cons (ev_ixST (ev_var rfl) (ev_var rfl) hat) (ea_cons (ev_ixST (ev_var rfl) (ev_var rfl) hat) ea_nil)) (alikeL_v (n := dd) (hall x (List.mem_of_getElem? hx)))))) (fun z => nomatch z) (fun _ => sd_next ⟨_, rfl⟩)
    · rintro ρ ⟨z2, rfl⟩
      exact sd_ret ev_bl hk
theorem gr__law_alike (T : Txt K mg A) : Ok P w K mg base (2 + 0) "_law_alike" ["found", "due"] (spc K (cAlikeL 0)) := T.f__law_alike.ok (k := 1) sc__law_alike _ (fun ds k hc => (no__law_alike hc).elim) (fun cdv A' outer s H vs Q E hr h => (spc_no h fun ds k hc => no__law_alike hc).elim)
theorem ok__law_alike (T : Txt K mg A) (hN : base.NoSeer) (hT : P.given.tree = none) (fn__law_whole : Ok P w K mg base 1 "_law_whole" ["found"] (spc K cWhole)) : Ok P w K mg base 22 "_law_alike" ["found", "due"] (spc K (cAlikeL 20)) := by
  have all : ∀ dd : Nat, Ok P w K mg base (2 + dd) "_law_alike" ["found", "due"] (spc K (cAlikeL dd)) := fun dd => by
    induction dd with
    | zero => exact gr__law_alike T
    | succ dd ih => exact st__law_alike dd T hN hT fn__law_whole ih
  exact all 20
theorem sc__law_run : FnScope ["text", "at", "signs", "to"] ["text", "at", "signs"] (defScope s__law_run) := ⟨rfl, rfl, rfl, by decide +kernel, rfl, by decide +kernel, by decide +kernel⟩
theorem ok__law_run (T : Txt K mg A) (hN : base.NoSeer) (hT : P.given.tree = none)  : Ok P w K mg base 1 "_law_run" ["text", "at", "signs"] (spc K cLRun) := by
  refine T.f__law_run.ok sc__law_run _ (fun ds k hc => by obtain ⟨_, _, _, rfl, _⟩ := hc; rfl) (fun cdv A' outer s H vs Q E hr h => ⟨_, (pss_cons (ps_set (i := 3) sc__law_run.nd rfl (by first | exact Or.inl rfl | exact Or.inr rfl) (pv 1))
  (pss_cons (ps_while (passes_of rfl) (PW.pt (pw_and (pt_cmpR o_lt (pv 3) (pe_callB (c_lenA (K := K)) (by rfl) T.z_len (by decide +kernel) (pa_cons (pv 0) pa_nil)) (nomark _)) (pw_and1 (pt_cmpR o_inS (pe_ix (i_any (K := K)) (pv 0) (pv 3) (fun _ _ => rfl)) (pv 2) (by rfl))))) (pss_one (ps_set (i := 3) sc__law_run.nd rfl (by first | exact Or.inl rfl | exact Or.inr rfl) (pe_op (o_plus (K := K)) (pv 3) pe_int))))
  (pss_one (ps_ret (pe_tup (pa_cons (pe_slice (s_any (K := K)) (pv 0) (po_some (pv 1)) (po_some (pv 3))) (pa_cons (pv 3) pa_nil))))))), body_of h fun ds k hc => ?_⟩)
  obtain ⟨t, s, n, rfl, hn, hl, hk⟩ := hc
  show Sd K _ _ _ [.val (.str t), .val (.int (n : Int)), .val (.str s), .un] _
  refine sd_seq (sd_set (ev_var rfl) ?_)
  have hll := tl_len t
  refine sd_seq (sd_whileN (fun q ρ => ∃ m, q = t.length - m ∧ n ≤ m ∧ m ≤ t.length ∧ runEnd t s m = runEnd t s n ∧ ρ = [.val (.str t), .val (.int (n : Int)), .val (.str s), .val (.int (m : Int))]) (t.length - n) ⟨n, rfl, Nat.le_refl _, hn, rfl, rfl⟩ ?_)
  rintro q ρ ⟨m, rfl, hm, hmt, hr, rfl⟩
  by_cases h : m < t.length
  · obtain ⟨c, hc⟩ : ∃ c, t.cps.toList[m]? = some c := ⟨_, List.getElem?_eq_getElem (by omega)⟩
    have hat : atI t.cps.toList (m : Int) = some c := atI_nat hc
    have hst := run_step (s := s) hc
    refine ⟨decide ((m : Int) < (t.length : Int)) && decide (c ∈ s.cps.toList), et_and (et_test (v_lt (ev_var rfl) (a_lenS (ev_var rfl) (by omega)))) fun _ => et_test (v_inS1 (ev_ixS (ev_var rfl) (ev_var rfl) (by omega) hat) (ev_var rfl)), fun z => ?_, fun z => ?_⟩
    · rw [Bool.and_eq_true, decide_eq_true_eq, decide_eq_true_eq] at z
      rw [if_pos z.2] at hst
      exact sd_set (d := .int ((m + 1 : Nat) : Int)) (Ev.is (a_add (ev_var rfl) ev_int) (by congr 1)) ⟨t.length - (m + 1), by omega, m + 1, rfl, by omega, by omega, by rw [← hst]; exact hr, rfl⟩
    · have hz : runEnd t s n = m := by
        rw [decide_eq_true (by omega), Bool.true_and, decide_eq_false_iff_not] at z
        rw [← hr, hst, if_neg z]
      refine sd_ret (d := runD t s n) ?_ hk
      unfold runD
      rw [hz]
      exact ev_tup (ea_cons (Ev.is (a_slS (ev_var rfl) (by omega) (o_some (ev_var rfl)) (o_some (ev_var rfl))) (by rw [sub_cut hn])) (ea_cons (ev_var rfl) ea_nil)) (by exact Nat.le_of_ble_eq_true rfl)
  · have hz : runEnd t s n = m := by rw [← hr, run_end (by omega)]
    refine ⟨false, EvT.is (et_and (x := decide ((m : Int) < (t.length : Int))) (y := false) (et_test (v_lt (ev_var rfl) (a_lenS (ev_var rfl) (by omega)))) fun w => absurd (of_decide_eq_true w) (by omega)) (by rw [Bool.and_false]), (fun z => nomatch z), fun _ => ?_⟩
    refine sd_ret (d := runD t s n) ?_ hk
    unfold runD
    rw [hz]
    exact ev_tup (ea_cons (Ev.is (a_slS (ev_var rfl) (by omega) (o_some (ev_var rfl)) (o_some (ev_var rfl))) (by rw [sub_cut hn])) (ea_cons (ev_var rfl) ea_nil)) (by exact Nat.le_of_ble_eq_true rfl)
theorem sc__law_read_number : FnScope ["text", "at", "least", "most", "figures", "to"] ["text", "at", "least", "most"] (defScope s__law_read_number) := ⟨rfl, rfl, rfl, by decide +kernel, rfl, by decide +kernel, by decide +kernel⟩
theorem run_in (s : Str) : ∀ l : List Nat, ∀ c ∈ l.take (runL s l), c ∈ s.cps.toList
  | [], c, h => by rw [List.take_nil] at h; cases h
  | d :: r, c, h => by
    by_cases hd : d ∈ s.cps.toList
    · have e : runL s (d :: r) = 1 + runL s r := if_pos hd
      rw [e, Nat.add_comm, List.take_succ_cons] at h
      rcases List.mem_cons.mp h with rfl | h
      · exact hd
      · exact run_in s r c h
    · have e : runL s (d :: r) = 0 := if_neg hd
      rw [e, List.take_zero] at h
      cases h
theorem run_dig (t : Str) (n : Nat) : digB (subS t n (runEnd t FIG n)) = true := List.all_eq_true.mpr fun c hc => by
  have hc : c ∈ (t.cps.toList.drop n).take (n + runL FIG (t.cps.toList.drop n) - n) := hc
  rw [Nat.add_sub_cancel_left] at hc
  have := fig_of.mp (run_in FIG _ c hc)
  rw [Bool.and_eq_true, decide_eq_true_eq, decide_eq_true_eq]
  exact this
theorem ok__law_read_number (T : Txt K mg A) (hN : base.NoSeer) (hT : P.given.tree = none) (fn__law_run : Ok P w K mg base 1 "_law_run" ["text", "at", "signs"] (spc K cLRun)) : Ok P w K mg base 2 "_law_read_number" ["text", "at", "least", "most"] (spc K cLNum) := by
  refine T.f__law_read_number.ok sc__law_read_number _ (fun ds k hc => by obtain ⟨_, _, _, _, rfl, _⟩ := hc; rfl) (fun cdv A' outer s H vs Q E hr h => ⟨_, (pss_cons (ps_asg (pe_fn fn__law_run (hr.mono (by decide)) (takes_of rfl rfl rfl rfl) rfl (pa_cons (pv 0) (pa_cons (pv 1) (pa_cons pe_str pa_nil)))) (g_tup (n := 2) (K := K) rfl (pgs_cons (pg_name (i := 4) sc__law_read_number.nd rfl (by first | exact Or.inl rfl | exact Or.inr rfl)) (pgs_cons (pg_name (i := 5) sc__law_read_number.nd rfl (by first | exact Or.inl rfl | exact Or.inr rfl)) pgs_nil))))
  (pss_cons (ps_if (PW.pt (pw_or (pt_not (pt_chain o_le o_le pe_int (pe_callB (c_lenA (K := K)) (by rfl) T.z_len (by decide +kernel) (pa_cons (pv 4) pa_nil)) pe_int)) (pw_or (PW.pt (pw_and (pt_cmpR (o_eq (K := K) hr.units) (pe_ix (i_any (K := K)) (pv 4) pe_int (fun _ _ => rfl)) pe_str (nomark _)) (pw_and1 (pt_cmpR o_gt (pe_callB (c_lenA (K := K)) (by rfl) T.z_len (by decide +kernel) (pa_cons (pv 4) pa_nil)) pe_int (nomark _))))) (pw_or1 (pt_not (pt_chain o_le o_le (pv 2) (pe_callTy (c_intS) (by rfl) T.z_int (by decide +kernel) (pa_cons (pv 4) pa_nil)) (pv 3))))))) (pss_one (ps_ret pe_non)) pss_nil)
  (pss_one (ps_ret (pe_tup (pa_cons (pe_callTy (c_intS) (by rfl) T.z_int (by decide +kernel) (pa_cons (pv 4) pa_nil)) (pa_cons (pv 5) pa_nil))))))), body_of h fun ds k hc => ?_⟩)
  obtain ⟨t, n, lo, hi, rfl, hn, hl, ha, hk⟩ := hc
  show Sd K _ _ _ [.val (.str t), .val (.int (n : Int)), .val (.int lo), .val (.int hi), .un, .un] _
  refine sd_seq (sd_asg (ev_call (ea_cons (ev_var rfl) (ea_cons (ev_var rfl) (ea_cons ev_str ea_nil))) (lRun_v hn hl)) (gd_tup2 gd_name gd_name) ?_)
  have hle := (run_le (s := FIG) hn)
  obtain ⟨w, hw⟩ : ∃ w, w = subS t n (runEnd t FIG n) := ⟨_, rfl⟩
  obtain ⟨m, hm⟩ : ∃ m, m = runEnd t FIG n := ⟨_, rfl⟩
  have hN : numL t n lo hi = if okNum w = true then (if lo ≤ numOf w ∧ numOf w ≤ hi then some (numOf w, m) else none) else none := by
    unfold numL Pu.numAt
    rw [← hw, ← hm]
    by_cases h : okNum w = true
    · rw [if_pos h, if_pos h]
    · rw [if_neg h, if_neg h]
  have hwl : w.length ≤ 90000 := by rw [hw]; exact Nat.le_trans sub_short hl
  have hwa : asc w := fun c hc => by
    rw [hw] at hc
    exact ha c (List.mem_of_mem_drop (List.mem_of_mem_take hc))
  rw [← hw, ← hm]
  have hdig : digB w = true := by rw [hw]; exact run_dig t n
  have hll := tl_len w
  have hok : okNum w = ((decide (1 ≤ w.length) && decide (w.length ≤ 13)) && (!(decide (w.cps.toList.head? = some 48) && decide (1 < w.length)) && digB w)) := rfl
  rw [hdig, Bool.and_true] at hok
  rw [hN] at hk
  by_cases hA : 1 ≤ w.length ∧ w.length ≤ 13
  · obtain ⟨c, cs, hcs⟩ : ∃ c cs, w.cps.toList = c :: cs := by
      cases e : w.cps.toList with
      | nil => rw [e] at hll; simp at hll; omega
      | cons c cs => exact ⟨c, cs, rfl⟩
    have hat : atI w.cps.toList 0 = some c := atI_nat (j := 0) (by rw [hcs]; rfl)
    have hc128 := hwa c (by rw [hcs]; exact List.mem_cons_self)
    have hhd : decide (w.cps.toList.head? = some 48) = decide (c = 48) := by
      rw [hcs]
      exact decide_eq_decide.mpr ⟨fun h => Option.some.inj h, fun h => by rw [h]; rfl⟩
    rw [hhd, decide_eq_true hA.1, decide_eq_true hA.2, Bool.true_and, Bool.true_and] at hok
    have chA : (decide ((1 : Int) ≤ (w.length : Int)) && decide ((w.length : Int) ≤ 13)) = true := by
      rw [decide_eq_true (by omega), decide_eq_true (by omega)]
      rfl
    have hdd : decide ((1 : Int) < (w.length : Int)) = decide (1 < w.length) := decide_eq_decide.mpr (by omega)
    refine sd_seq (sd_ifS (b := (!(decide ((1 : Int) ≤ (w.length : Int)) && decide ((w.length : Int) ≤ 13))) || ((decide (c = 48) && decide ((1 : Int) < (w.length : Int))) || !(decide (lo ≤ numOf w) && decide (numOf w ≤ hi)))) (et_or (et_not (et_test (ev_chainI (f := fun i j => decide (i ≤ j)) (g := fun i j => decide (i ≤ j)) ev_int (a_lenS (ev_var rfl) (by omega)) fun _ => ev_int))) fun _ => et_or (et_and (EvT.is (et_test (ev_eqS (a := ⟨#[c]⟩) (b := "0") (ev_ixS (ev_var rfl) ev_int (by omega) hat) ev_str (one_shaped c hc128) (by decide +kernel))) (one_eq c 48)) fun _ => et_test (v_gt (a_lenS (ev_var rfl) (by omega)) ev_int)) fun z => et_not (et_test (ev_chainI (f := fun i j => decide (i ≤ j)) (g := fun i j => decide (i ≤ j)) (ev_var rfl) (v_intS (ev_var rfl) (num_text (hok.trans (by rw [← hdd, z]; rfl))) (by omega)) fun _ => ev_var rfl))) (fun z => ?_) (fun z => sd_next ?_))
    · rw [chA, Bool.not_true, Bool.false_or, Bool.or_eq_true, Bool.not_eq_true', hdd] at z
      refine sd_ret (d := .none) ev_non ?_
      rcases z with z | z
      · rw [z] at hok
        rw [if_neg (by rw [hok]; decide)] at hk
        exact hk
      · rw [Bool.and_eq_false_iff, decide_eq_false_iff_not, decide_eq_false_iff_not] at z
        by_cases q : okNum w = true
        · rw [if_pos q, if_neg (by omega)] at hk
          exact hk
        · rw [if_neg q] at hk
          exact hk
    · rw [chA, Bool.not_true, Bool.false_or, Bool.or_eq_false_iff, Bool.not_eq_false', hdd, Bool.and_eq_true, decide_eq_true_eq, decide_eq_true_eq] at z
      obtain ⟨z1, z2⟩ := z
      rw [z1] at hok
      have hok : okNum w = true := hok
      rw [if_pos hok, if_pos z2] at hk
      exact sd_ret (ev_tup (ea_cons (v_intS (ev_var rfl) (num_text hok) (by omega)) (ea_cons (ev_var rfl) ea_nil)) (by exact Nat.le_of_ble_eq_true rfl)) hk
  · have chA : (decide ((1 : Int) ≤ (w.length : Int)) && decide ((w.length : Int) ≤ 13)) = false := by
      rw [Bool.and_eq_false_iff, decide_eq_false_iff_not, decide_eq_false_iff_not]
      omega
    have hbad : ¬ okNum w = true := fun q => by
      rw [hok, Bool.and_eq_true, Bool.and_eq_true, decide_eq_true_eq, decide_eq_true_eq] at q
      exact hA q.1
    rw [if_neg hbad] at hk
    exact sd_seq (sd_ifS (b := true) (EvT.is (et_or (y := true) (et_not (et_test (ev_chainI (f := fun i j => decide (i ≤ j)) (g := fun i j => decide (i ≤ j)) ev_int (a_lenS (ev_var rfl) (by omega)) fun _ => ev_int))) fun z => by rw [chA] at z; cases z) (by rw [chA]; rfl)) (fun _ => sd_ret (d := .none) ev_non hk) (fun z => nomatch z))
theorem sc__law_read_kids : FnScope ["text", "at", "deep", "word", "weights", "kids", "names", "told"] ["text", "at", "deep", "word"] (defScope s__law_read_kids) := ⟨rfl, rfl, rfl, by decide +kernel, rfl, by decide +kernel, by decide +kernel⟩
theorem parseK_none {Pd : Nat → List Str → PRes} {t w : Str} {f n : Nat} {zs : List Str} {ws : List Int} {ks : List Cu} (h : (if WEIGHEDL.contains w then wgtAt t n else some (0, n)) = none) : parseK Pd t w (f + 1) n zs ws ks = none := by
  unfold parseK
  rw [h]
theorem parseK_kid {Pd : Nat → List Str → PRes} {t w : Str} {f n m : Nat} {v : Int} {zs : List Str} {ws : List Int} {ks : List Cu} (h : (if WEIGHEDL.contains w then wgtAt t n else some (0, n)) = some (v, m)) (h2 : Pd m zs = none) : parseK Pd t w (f + 1) n zs ws ks = none := by
  unfold parseK
  rw [h]
  show (match Pd m zs with | none => none | some (k, m2, zs2) => _) = _
  rw [h2]
theorem parseK_some {Pd : Nat → List Str → PRes} {t w : Str} {f n m m2 : Nat} {v : Int} {zs zs2 : List Str} {ws : List Int} {ks : List Cu} {k : Cu} (h : (if WEIGHEDL.contains w then wgtAt t n else some (0, n)) = some (v, m)) (h2 : Pd m zs = some (k, m2, zs2)) : parseK Pd t w (f + 1) n zs ws ks = if meetsB t ", " m2 then parseK Pd t w f (m2 + 2) zs2 (if WEIGHEDL.contains w then ws ++ [v] else ws) (ks ++ [k]) else if meetsB t ")" m2 then knotR w (if WEIGHEDL.contains w then ws ++ [v] else ws) (ks ++ [k]) (m2 + 1) zs2 else none := by
  conv => lhs; unfold parseK
  rw [h]
  show (match Pd m zs with | none => none | some (k, m2, zs2) => _) = _
  rw [h2]
theorem knot_bad {w : Str} {ws : List Int} {ks : List Cu} {n : Nat} {zs : List Str} (hb : ∃ x ∈ ws, ¬ (1 ≤ x ∧ x ≤ 1000000)) : knotR w ws ks n zs = none := by
  obtain ⟨x, hx, hxb⟩ := hb
  unfold knotR
  refine if_neg fun h4 => hxb ?_
  unfold knotC at h4
  split at h4
  · rename_i hway
    obtain ⟨y, rfl⟩ := way_cases hway
    split at h4
    · rename_i hf
      have := wfit_iff.mp hf
      split at this
      · exact this.2 x hx
      · rw [this] at hx
        cases hx
    · cases h4
  · cases h4
theorem meets_excl {t : Str} {n : Nat} (h : meetsB t ")" n = true) : meetsB t ", " n = false := by
  refine Bool.eq_false_iff.mpr fun h2 => ?_
  have e1 : subS t n (n + (")" : Str).length) = ")" := of_decide_eq_true h
  have e2 : subS t n (n + (", " : Str).length) = ", " := of_decide_eq_true h2
  have l1 : (")" : Str).length = 1 := by decide +kernel
  have l2 : (", " : Str).length = 2 := by decide +kernel
  rw [l1] at e1
  rw [l2] at e2
  have c1 : (t.cps.toList.drop n).take (n + 1 - n) = [41] := congrArg (fun s : Str => s.cps.toList) e1
  have c2 : (t.cps.toList.drop n).take (n + 2 - n) = [44, 32] := congrArg (fun s : Str => s.cps.toList) e2
  rw [Nat.add_sub_cancel_left] at c1 c2
  cases hd : t.cps.toList.drop n with
  | nil => rw [hd] at c1; cases c1
  | cons a r =>
    rw [hd, List.take_succ_cons] at c1 c2
    have a1 := (List.cons.inj c1).1
    have a2 := (List.cons.inj c2).1
    omega
theorem dL_app : ∀ (ks : List Cu) (k : Cu), Cu.dL (ks ++ [k]) = Cu.dL ks ++ [k.d]
  | [], k => rfl
  | a :: r, k => by
    show a.d :: Cu.dL (r ++ [k]) = a.d :: (Cu.dL r ++ [k.d])
    rw [dL_app r k]
theorem claimsL_app : ∀ (ks : List Cu) (k : Cu), Cu.claimsL (ks ++ [k]) = Cu.claimsL ks ++ k.claims
  | [], k => by show k.claims ++ [] = [] ++ k.claims; rw [List.append_nil, List.nil_append]
  | a :: r, k => by
    show a.claims ++ Cu.claimsL (r ++ [k]) = (a.claims ++ Cu.claimsL r) ++ k.claims
    rw [claimsL_app r k, List.append_assoc]
theorem dL_len : ∀ ks : List Cu, (Cu.dL ks).length = ks.length
  | [] => rfl
  | a :: r => by
    show (Cu.dL r).length + 1 = r.length + 1
    rw [dL_len r]
theorem readD_flt {r s : PRes} (h : flt r = flt s) : readD r = readD s := by
  unfold readD
  rw [h]
theorem mt__law_read_kids (dd : Nat) (T : Txt K mg A) (hN : base.NoSeer) (hT : P.given.tree = none) (fn__law_read_number : Ok P w K mg base 2 "_law_read_number" ["text", "at", "least", "most"] (spc K cLNum)) (fn__law_read_custom : Ok P w K mg base (3 + 2 * dd) "_law_read_custom" ["text", "at", "deep"] (spc K (cLCustom dd))) : Ok P w K mg base (3 + 2 * dd + 1) "_law_read_kids" ["text", "at", "deep", "word"] (spc K (cLKids dd)) := by
  refine T.f__law_read_kids.ok (k := 3 + 2 * dd) sc__law_read_kids _ (fun ds k hc => by obtain ⟨_, _, _, _, rfl, _⟩ := hc; rfl) (fun cdv A' outer s H vs Q E hr h => ⟨_, (pss_cons (ps_set (i := 4) sc__law_read_kids.nd rfl (by first | exact Or.inl rfl | exact Or.inr rfl) (pe_lst pa_nil))
  (pss_cons (ps_set (i := 5) sc__law_read_kids.nd rfl (by first | exact Or.inl rfl | exact Or.inr rfl) (pe_lst pa_nil))
  (pss_cons (ps_set (i := 6) sc__law_read_kids.nd rfl (by first | exact Or.inl rfl | exact Or.inr rfl) (pe_lst pa_nil))
  (pss_one (ps_while (passes_of rfl) (pt_val pe_bl) (pss_cons (ps_if (pt_cmpR (o_in (K := K)) (pv 3) (pe_tup (pa_cons pe_str (pa_cons pe_str pa_nil))) (by rfl)) (pss_cons (ps_set (i := 7) sc__law_read_kids.nd rfl (by first | exact Or.inl rfl | exact Or.inr rfl) (pe_fn fn__law_read_number (hr.mono (by omega)) (takes_of rfl rfl rfl rfl) rfl (pa_cons (pv 0) (pa_cons (pv 1) (pa_cons pe_int (pa_cons (pe_op o_pow pe_int pe_int) pa_nil))))))
  (pss_cons (ps_if (PW.pt (pw_or (pt_cmpR o_isN (pv 7) pe_non (nomark _)) (pw_or1 (pt_cmpR (o_ne (K := K) hr.units) (pe_slice (s_any (K := K)) (pv 0) (po_some (pe_ix (i_any (K := K)) (pv 7) pe_int (fun _ _ => rfl))) (po_some (pe_op (o_plus (K := K)) (pe_ix (i_any (K := K)) (pv 7) pe_int (fun _ _ => rfl)) pe_int))) pe_str (nomark _))))) (pss_one (ps_ret pe_non)) pss_nil)
  (pss_cons (ps_expr (b_m (K := K) PySem.F.plainAttrs_list PySem.F.slot_list_append PySem.F.type_list_append mt_append (pv 4) (pa_cons (pe_ix (i_any (K := K)) (pv 7) pe_int (fun _ _ => rfl)) pa_nil)))
  (pss_one (ps_set (i := 1) sc__law_read_kids.nd rfl (by first | exact Or.inl rfl | exact Or.inr rfl) (pe_op (o_plus (K := K)) (pe_ix (i_any (K := K)) (pv 7) pe_int (fun _ _ => rfl)) pe_int)))))) pss_nil)
  (pss_cons (ps_set (i := 7) sc__law_read_kids.nd rfl (by first | exact Or.inl rfl | exact Or.inr rfl) (pe_fn fn__law_read_custom (hr.mono (by omega)) (takes_of rfl rfl rfl rfl) rfl (pa_cons (pv 0) (pa_cons (pv 1) (pa_cons (pe_op (o_plus (K := K)) (pv 2) pe_int) pa_nil)))))
  (pss_cons (ps_if (pt_cmpR o_isN (pv 7) pe_non (nomark _)) (pss_one (ps_ret pe_non)) pss_nil)
  (pss_cons (ps_expr (b_m (K := K) PySem.F.plainAttrs_list PySem.F.slot_list_append PySem.F.type_list_append mt_append (pv 5) (pa_cons (pe_ix (i_any (K := K)) (pv 7) pe_int (fun _ _ => rfl)) pa_nil)))
  (pss_cons (ps_set (i := 6) sc__law_read_kids.nd rfl (by first | exact Or.inl rfl | exact Or.inr rfl) (pe_op (o_plus (K := K)) (pv 6) (pe_ix (i_any (K := K)) (pv 7) pe_int (fun _ _ => rfl))))
  (pss_cons (ps_set (i := 1) sc__law_read_kids.nd rfl (by first | exact Or.inl rfl | exact Or.inr rfl) (pe_ix (i_any (K := K)) (pv 7) pe_int (fun _ _ => rfl)))
  (pss_cons (ps_if (PW.pt (pw_and (pt_cmpR (o_eq (K := K) hr.units) (pe_slice (s_any (K := K)) (pv 0) (po_some (pv 1)) (po_some (pe_op (o_plus (K := K)) (pv 1) pe_int))) pe_str (nomark _)) (pw_and (pt_cmpR o_le (pe_callB (c_lenA (K := K)) (by rfl) T.z_len (by decide +kernel) (pa_cons (pv 5) pa_nil)) pe_int (nomark _)) (pw_and1 (pt_cmpR o_le (pe_callB (c_lenA (K := K)) (by rfl) T.z_len (by decide +kernel) (pa_cons (pv 6) pa_nil)) pe_int (nomark _)))))) (pss_one (ps_ret (pe_tup (pa_cons (pe_tup (pa_cons (pv 3) (pa_cons (pe_callTy (c_tupleA (K := K)) (by rfl) T.z_tuple (by decide +kernel) (pa_cons (pv 4) pa_nil)) (pa_cons (pe_callTy (c_tupleA (K := K)) (by rfl) T.z_tuple (by decide +kernel) (pa_cons (pv 5) pa_nil)) pa_nil)))) (pa_cons (pv 6) (pa_cons (pe_op (o_plus (K := K)) (pv 1) pe_int) pa_nil)))))) pss_nil)
  (pss_cons (ps_if (pt_cmpR (o_ne (K := K) hr.units) (pe_slice (s_any (K := K)) (pv 0) (po_some (pv 1)) (po_some (pe_op (o_plus (K := K)) (pv 1) pe_int))) pe_str (nomark _)) (pss_one (ps_ret pe_non)) pss_nil)
  (pss_one (ps_set (i := 1) sc__law_read_kids.nd rfl (by first | exact Or.inl rfl | exact Or.inr rfl) (pe_op (o_plus (K := K)) (pv 1) pe_int)))))))))))))))), body_of h fun ds k hc => ?_⟩)
  obtain ⟨t, w, n, d, rfl, hd, hd6, hw, hn, hl, ha, hk⟩ := hc
  show Sd K _ _ _ [.val (.str t), .val (.int (n : Int)), .val (.int ((7 - d : Nat) : Int)), .val (.str w), .un, .un, .un, .un] _
  have hsa : ∀ i j, asc (subS t i j) := fun i j c hc => ha c (List.mem_of_mem_drop (List.mem_of_mem_take hc))
  obtain ⟨Wh, hWh⟩ : ∃ r, r = parseK (parse t d) t w (t.length + 1) n [] [] [] := ⟨_, rfl⟩
  rw [← hWh] at hk
  obtain ⟨b, hb⟩ : ∃ b, b = WEIGHEDL.contains w := ⟨_, rfl⟩
  refine sd_seq (sd_own (evf_lst ea_nil (by exact Nat.le_of_ble_eq_true rfl)) ?_)
  refine sd_seq (sd_own (evf_lst ea_nil (by exact Nat.le_of_ble_eq_true rfl)) ?_)
  refine sd_seq (sd_own (evf_lst ea_nil (by exact Nat.le_of_ble_eq_true rfl)) ?_)
  refine sd_whileN (fun q ρ => ∃ (m : Nat) (ws : List Int) (ks : List Cu) (ys : List Str) (s : Sl), m ≤ t.length ∧ t.length < m + q ∧ flt (parseK (parse t d) t w q m ys ws ks) = flt Wh ∧ ys.all isNm = true ∧ (∀ k ∈ ks, k.Ok) ∧ Cu.deepL ks ≤ d + 1 ∧ ys.length = (Cu.claimsL ks).length ∧ ks.length ≤ m ∧ ys.length ≤ m ∧ (if b = true then ws.length = ks.length ∧ ∀ x ∈ ws, 1 ≤ x ∧ x ≤ 1000000 else ws = []) ∧ ρ = [.val (.str t), .val (.int (m : Int)), .val (.int ((7 - d : Nat) : Int)), .val (.str w), .own (ws.map PyData.int), .own (Cu.dL ks), .own (ys.map PyData.str), s]) (t.length + 1) ⟨n, [], [], [], .un, hn, by omega, by rw [hWh], rfl, (fun _ h => nomatch h), Nat.zero_le _, rfl, Nat.zero_le _, Nat.zero_le _, by split; exact ⟨rfl, fun _ h => nomatch h⟩; rfl, rfl⟩ ?_
  rintro q ρ ⟨m, ws, ks, ys, s, hm, hq, hf, hys, hks, hdp, hcl, hkm, hym, hwg, rfl⟩
  obtain ⟨f, rfl⟩ : ∃ f, q = f + 1 := ⟨q - 1, by omega⟩
  refine ⟨true, et_test ev_bl, fun _ => ?_, fun z => nomatch z⟩
  have hk0 : flt Wh = none → k.rt .none := fun h => by rw [readD_none h] at hk; exact hk
  refine sd_seq (sd_ifJ (fun ρ => ∃ (v : Int) (m1 : Nat) (s : Sl), (if WEIGHEDL.contains w then wgtAt t m else some (0, m)) = some (v, m1) ∧ m ≤ m1 ∧ m1 ≤ t.length ∧ (b = true → 1 ≤ v ∧ v ≤ 1000000) ∧ ρ = [.val (.str t), .val (.int (m1 : Int)), .val (.int ((7 - d : Nat) : Int)), .val (.str w), .own ((if b = true then ws ++ [v] else ws).map PyData.int), .own (Cu.dL ks), .own (ys.map PyData.str), s]) (b := b) (EvT.is (et_test (a_inS (zs := WEIGHEDL) (.inr rfl) (ev_var rfl) (ev_tup (ea_cons ev_str (ea_cons ev_str ea_nil)) (by exact Nat.le_of_ble_eq_true rfl)))) hb.symm) (fun z => ?_) (fun z => ?_) ?_)
  · refine sd_seq (sd_set (d := numLD (numL t m 1 1000000)) (ev_call (ea_cons (ev_var rfl) (ea_cons (ev_var rfl) (ea_cons ev_int (ea_cons (Ev.is (v_pow ev_int ev_int (by unfold CPowW; decide +kernel)) rfl) ea_nil)))) (lNum_v hm hl ha)) ?_)
    have hwt : WEIGHEDL.contains w = true := by rw [← hb]; exact z
    have iw : (if WEIGHEDL.contains w then wgtAt t m else some (0, m)) = wgtAt t m := if_pos hwt
    have none_ : wgtAt t m = none → k.rt .none := fun h => by
      rw [parseK_none (iw.trans h)] at hf
      exact hk0 hf.symm
    have bad : ∀ v m1, wgtAt t m = some (v, m1) → ¬ (1 ≤ v ∧ v ≤ 1000000) → k.rt .none := fun v m1 h hv => by
      cases hp : parse t d m1 ys with
      | none =>
        rw [parseK_kid (iw.trans h) hp] at hf
        exact hk0 hf.symm
      | some r =>
        obtain ⟨u, m2, zs2⟩ := r
        rw [parseK_some (iw.trans h) hp, if_pos hwt] at hf
        have hx : ∃ x ∈ ws ++ [v], ¬ (1 ≤ x ∧ x ≤ 1000000) := ⟨v, List.mem_append_right _ (List.mem_singleton.mpr rfl), hv⟩
        rw [parseK_wgt _ _ _ _ _ hx, knot_bad hx] at hf
        refine hk0 ?_
        rw [← hf]
        split
        · rfl
        · split <;> rfl
    have out : numL t m 1 1000000 = none → k.rt .none := fun h => by
      cases hq : numAt t m with
      | none => exact none_ (by unfold wgtAt; rw [hq])
      | some r =>
        obtain ⟨v, m0⟩ := r
        unfold numL at h
        rw [hq] at h
        have h : (if 1 ≤ v ∧ v ≤ 1000000 then some (v, m0) else none) = none := h
        have hv : ¬ (1 ≤ v ∧ v ≤ 1000000) := fun hv => by
          rw [if_pos hv] at h
          cases h
        by_cases c : meetsB t " " m0 = true
        · exact bad v (m0 + 1) (by unfold wgtAt; rw [hq]; exact if_pos c) hv
        · exact none_ (by unfold wgtAt; rw [hq]; exact if_neg c)
    cases hN : numL t m 1 1000000 with
    | none => exact sd_seq (sd_ifS (b := true) (EvT.is (et_or (x := true) (y := true) (EvT.is (et_test (v_isN (ev_var rfl))) rfl) fun z => nomatch z) rfl) (fun _ => sd_ret (d := .none) ev_non (out hN)) (fun z => nomatch z))
    | some r =>
      obtain ⟨v, m0⟩ := r
      have hv : numAt t m = some (v, m0) ∧ 1 ≤ v ∧ v ≤ 1000000 := by
        unfold numL at hN
        cases hq : numAt t m with
        | none => rw [hq] at hN; cases hN
        | some r =>
          obtain ⟨v', m'⟩ := r
          rw [hq] at hN
          have hN : (if 1 ≤ v' ∧ v' ≤ 1000000 then some (v', m') else none) = some (v, m0) := hN
          by_cases h : 1 ≤ v' ∧ v' ≤ 1000000
          · rw [if_pos h] at hN
            cases hN
            exact ⟨rfl, h⟩
          · rw [if_neg h] at hN
            cases hN
      obtain ⟨n1, n2, _⟩ := numAt_ok hv.1 hm
      have bl : (" " : Str).length = 1 := by decide +kernel
      have mb : meetsB t " " m0 = decide (subS t m0 (m0 + 1) = " ") := by unfold meetsB; rw [bl]
      have e1 : ∀ (ρ : En) (j : Nat) (z : D), ρ[7]? = some (.val (.tuple [.int v, .int ((m0 : Nat) : Int)])) → atI [PyData.int v, .int ((m0 : Nat) : Int)] (j : Int) = some z → Ev K (tOp (rIx K) (tVar 7) (tC (.int (j : Int)))) ρ z := fun ρ j z h hj => ev_ixST (ev_var h) ev_int hj
      refine sd_seq (sd_ifS (b := false || !meetsB t " " m0) (et_or (EvT.is (et_test (v_isN (ev_var rfl))) rfl) fun _ => EvT.is (et_test (ev_neS (b := " ") (Ev.is (a_slS (ev_var rfl) (by omega) (o_some (e1 _ 1 _ rfl rfl)) (o_some (i := ((m0 + 1 : Nat) : Int)) (Ev.is (a_add (e1 _ 1 _ rfl rfl) ev_int) rfl))) (by rw [sub_cut n2])) ev_str (asc_sh (hsa _ _)) (by decide +kernel))) (congrArg not mb.symm)) (fun z2 => ?_) (fun z2 => sd_next ?_))
      · rw [Bool.false_or, Bool.not_eq_true'] at z2
        exact sd_ret (d := .none) ev_non (none_ (by unfold wgtAt; rw [hv.1]; exact if_neg (by rw [z2]; decide)))
      · rw [Bool.false_or, Bool.not_eq_false'] at z2
        have h2 := meets_at z2 n2
        rw [bl] at h2
        have hwl : ws.length ≤ 100000 := by
          rw [if_pos z] at hwg
          omega
        refine sd_seq (sd_append rfl (e1 _ 0 _ rfl rfl) (by rw [List.length_map]; exact hwl) ?_)
        refine sd_set (d := .int ((m0 + 1 : Nat) : Int)) (Ev.is (a_add (e1 _ 1 _ rfl rfl) ev_int) rfl) ⟨v, m0 + 1, .val (numLD (some (v, m0))), ?_, by omega, h2, (fun _ => hv.2), ?_⟩
        · rw [iw]
          unfold wgtAt
          rw [hv.1]
          exact if_pos z2
        · rw [if_pos z, List.map_append]
          rfl
  · have hwt : ¬ WEIGHEDL.contains w = true := by rw [← hb, z]; decide
    refine sd_next ⟨0, m, s, if_neg hwt, Nat.le_refl _, hm, (fun q => by rw [z] at q; cases q), ?_⟩
    rw [if_neg (by rw [z]; decide)]
  · rintro ρ ⟨v, m1, s, h1, hm1, hm1t, hv, rfl⟩
    refine sd_seq (sd_set (d := readD (parse t d m1 [])) (ev_call (ea_cons (ev_var rfl) (ea_cons (ev_var rfl) (ea_cons (Ev.is (a_add (ev_var rfl) ev_int) rfl) ea_nil))) ⟨t, m1, d, by rw [show ((7 - d : Nat) : Int) + 1 = ((8 - d : Nat) : Int) by omega], by omega, by omega, hm1t, hl, ha, rfl⟩) ?_)
    have hpa := parse_app t d m1 ys []
    rw [List.append_nil] at hpa
    cases hp : parse t d m1 [] with
    | none =>
      rw [hp] at hpa
      rw [parseK_kid h1 hpa] at hf
      exact sd_seq (sd_ifS (b := true) (EvT.is (et_test (v_isN (ev_var rfl))) rfl) (fun _ => sd_ret (d := .none) ev_non (hk0 hf.symm)) (fun z => nomatch z))
    | some r =>
      obtain ⟨u, m2, xs⟩ := r
      rw [hp] at hpa
      have hpa : parse t d m1 ys = some (u, m2, ys ++ xs) := hpa
      obtain ⟨p1, p2, p3, p4⟩ := parse_ok t d m1 [] u m2 xs hm1t hp
      have p5 := parse_deep t d m1 [] u m2 xs hp
      obtain ⟨xs', hxe, p6⟩ := parse_names t d m1 [] u m2 xs hp
      rw [List.nil_append] at hxe
      obtain rfl : xs = xs' := hxe
      rw [parseK_some h1 hpa] at hf
      by_cases hxs : xs.all isNm = true
      · rw [readD_ok hxs]
        have e1 : ∀ (ρ : En) (j : Nat) (z : D), ρ[7]? = some (.val (.tuple [u.d, .list (xs.map PyData.str), .int ((m2 : Nat) : Int)])) → atI [u.d, PyData.list (xs.map PyData.str), .int ((m2 : Nat) : Int)] (j : Int) = some z → Ev K (tOp (rIx K) (tVar 7) (tC (.int (j : Int)))) ρ z := fun ρ j z h hj => ev_ixST (ev_var h) ev_int hj
        refine sd_seq (sd_ifS (b := false) (EvT.is (et_test (v_isN (ev_var rfl))) rfl) (fun z => nomatch z) (fun _ => sd_next ?_))
        have hdl : (Cu.dL ks).length = ks.length := dL_len ks
        refine sd_seq (sd_append rfl (e1 _ 0 _ rfl rfl) (by omega) ?_)
        refine sd_seq (sd_own (a_catL (evl_own rfl) (e1 _ 1 _ rfl rfl).l (by rw [List.length_map, List.length_map]; simp only [List.length_nil] at p3; omega)) ?_)
        refine sd_seq (sd_set (e1 _ 2 _ rfl rfl) ?_)
        obtain ⟨W2, hW2⟩ : ∃ W2, W2 = (if b = true then ws ++ [v] else ws) := ⟨_, rfl⟩
        rw [← hb, ← hW2] at hf
        rw [← hW2, ← dL_app, ← List.map_append]
        obtain ⟨ks2, hks2⟩ : ∃ ks2, ks2 = ks ++ [u] := ⟨_, rfl⟩
        obtain ⟨ys2, hys2⟩ : ∃ ys2, ys2 = ys ++ xs := ⟨_, rfl⟩
        rw [← hks2, ← hys2] at hf ⊢
        have q1 : ys2.all isNm = true := by rw [hys2, List.all_append, hys, hxs]; rfl
        have q2 : ∀ k ∈ ks2, k.Ok := fun k hk => by
          rw [hks2] at hk
          rcases List.mem_append.mp hk with h | h
          · exact hks k h
          · rw [List.mem_singleton.mp h]; exact p4
        have q3 : Cu.deepL ks2 ≤ d + 1 := by rw [hks2, deepL_app]; omega
        have q4 : ys2.length = (Cu.claimsL ks2).length := by rw [hys2, hks2, claimsL_app, List.length_append, List.length_append, hcl, p6]
        have q5 : ks2.length = ks.length + 1 := by rw [hks2, List.length_append]; rfl
        have q6 : ys2.length ≤ m2 := by
          rw [hys2, List.length_append]
          simp only [List.length_nil] at p3
          omega
        have q7 : (if b = true then W2.length = ks2.length ∧ ∀ x ∈ W2, 1 ≤ x ∧ x ≤ 1000000 else W2 = []) := by
          by_cases hbt : b = true
          · rw [if_pos hbt] at hwg hW2 ⊢
            refine ⟨by rw [hW2, List.length_append, q5, hwg.1]; rfl, fun x hx => ?_⟩
            rw [hW2] at hx
            rcases List.mem_append.mp hx with h | h
            · exact hwg.2 x h
            · rw [List.mem_singleton.mp h]; exact hv hbt
          · rw [if_neg hbt] at hwg hW2 ⊢
            rw [hW2, hwg]
        have dl2 : (Cu.dL ks2).length = ks2.length := dL_len ks2
        have pl : (")" : Str).length = 1 := by decide +kernel
        have cl : (", " : Str).length = 2 := by decide +kernel
        have m1' : meetsB t ")" m2 = decide (subS t m2 (m2 + 1) = ")") := by unfold meetsB; rw [pl]
        have m2' : meetsB t ", " m2 = decide (subS t m2 (m2 + 2) = ", ") := by unfold meetsB; rw [cl]
        refine sd_seq (sd_ifS (b := meetsB t ")" m2 && (decide (ks2.length ≤ 12) && decide (ys2.length ≤ 12))) (et_and (EvT.is (et_test (ev_eqS (b := ")") (Ev.is (a_slS (ev_var rfl) (by omega) (o_some (ev_var rfl)) (o_some (i := ((m2 + 1 : Nat) : Int)) (Ev.is (a_add (ev_var rfl) ev_int) rfl))) (by rw [sub_cut p2])) ev_str (asc_sh (hsa _ _)) (by decide +kernel))) m1'.symm) fun _ => et_and (EvT.is (et_test (v_le (a_lenL (evl_own rfl)) ev_int)) (decide_eq_decide.mpr (by rw [dl2]; omega))) fun _ => EvT.is (et_test (v_le (a_lenL (evl_own rfl)) ev_int)) (decide_eq_decide.mpr (by rw [List.length_map]; omega))) (fun z => ?_) (fun z => sd_next ?_))
        · rw [Bool.and_eq_true, Bool.and_eq_true, decide_eq_true_eq, decide_eq_true_eq] at z
          obtain ⟨c2, k12, y12⟩ := z
          have c1 : ¬ meetsB t ", " m2 = true := by rw [meets_excl c2]; decide
          rw [if_neg c1, if_pos c2] at hf
          obtain ⟨y, rfl⟩ := way_cases hw
          have h4 : knotC y.s W2 ks2 = 4 := by
            unfold knotC
            rw [if_pos hw, if_pos (wfit_iff.mpr (by rw [← wd_way, ← hb]; exact q7)), if_neg (by omega)]
          unfold knotR at hf
          rw [if_pos h4, flt_ok q1, wyOf_s] at hf
          have hkr : k.rt (.tuple [(Cu.knot y W2 ks2).d, .list (ys2.map PyData.str), .int ((m2 + 1 : Nat) : Int)]) := by
            have : readD Wh = readD (some (Cu.knot y W2 ks2, m2 + 1, ys2)) := readD_flt (by rw [← hf, flt_ok q1])
            rw [this, readD_ok q1] at hk
            exact hk
          refine sd_freeze 6 rfl (sd_ret (ev_tup (ea_cons (ev_tup (ea_cons (ev_var rfl) (ea_cons (v_tupleL (evl_own rfl)) (ea_cons (v_tupleL (evl_own rfl)) ea_nil))) (by exact Nat.le_of_ble_eq_true rfl)) (ea_cons (ev_var rfl) (ea_cons (Ev.is (a_add (ev_var rfl) ev_int) rfl) ea_nil))) (by exact Nat.le_of_ble_eq_true rfl)) hkr)
        · refine sd_seq (sd_ifS (b := !meetsB t ", " m2) (EvT.is (et_test (ev_neS (b := ", ") (Ev.is (a_slS (ev_var rfl) (by omega) (o_some (ev_var rfl)) (o_some (i := ((m2 + 2 : Nat) : Int)) (Ev.is (a_add (ev_var rfl) ev_int) rfl))) (by rw [sub_cut p2])) ev_str (asc_sh (hsa _ _)) (by decide +kernel))) (congrArg not m2'.symm)) (fun z2 => ?_) (fun z2 => sd_next ?_))
          · rw [Bool.not_eq_true'] at z2
            rw [if_neg (by rw [z2]; decide)] at hf
            refine sd_ret (d := .none) ev_non (hk0 ?_)
            rw [← hf]
            by_cases c2 : meetsB t ")" m2 = true
            · rw [if_pos c2]
              rw [c2, Bool.true_and, Bool.and_eq_false_iff, decide_eq_false_iff_not, decide_eq_false_iff_not] at z
              have h4 : knotR w W2 ks2 (m2 + 1) ys2 = none := by
                unfold knotR
                refine if_neg fun h => ?_
                unfold knotC at h
                rw [if_pos hw] at h
                split at h
                · rw [if_pos (by omega)] at h
                  cases h
                · cases h
              rw [h4]
              rfl
            · rw [if_neg c2]
              rfl
          · rw [Bool.not_eq_false'] at z2
            rw [if_pos z2] at hf
            have h2 := meets_at z2 p2
            rw [cl] at h2
            exact sd_set (d := .int ((m2 + 2 : Nat) : Int)) (Ev.is (a_add (ev_var rfl) ev_int) rfl) ⟨f, by omega, m2 + 2, W2, ks2, ys2, _, h2, by omega, hf, q1, q2, q3, q4, by omega, by omega, q7, rfl⟩
      · have hxs : xs.all isNm = false := Bool.eq_false_iff.mpr hxs
        rw [readD_no hxs]
        have hbad : (ys ++ xs).all isNm = false := by rw [List.all_append, hxs, Bool.and_false]
        have hfn : flt Wh = none := by
          rw [← hf]
          refine flt_bad (zs := ys ++ xs) (fun u' m' ys' he => ?_) hbad
          by_cases c1 : meetsB t ", " m2 = true
          · rw [if_pos c1] at he
            obtain ⟨q, hq1, _⟩ := parseK_names (parse_names t d) _ _ _ _ _ _ _ _ he
            exact ⟨q, hq1⟩
          · rw [if_neg c1] at he
            by_cases c2 : meetsB t ")" m2 = true
            · rw [if_pos c2] at he
              generalize (if WEIGHEDL.contains w then ws ++ [v] else ws) = ws2 at he
              unfold knotR at he
              split at he
              · cases he
                exact ⟨[], (List.append_nil _).symm⟩
              · cases he
            · rw [if_neg c2] at he
              cases he
        exact sd_seq (sd_ifS (b := true) (EvT.is (et_test (v_isN (ev_var rfl))) rfl) (fun _ => sd_ret (d := .none) ev_non (hk0 hfn)) (fun z => nomatch z))
theorem sc__law_read_custom : FnScope ["text", "at", "deep", "word", "to", "told"] ["text", "at", "deep"] (defScope s__law_read_custom) := ⟨rfl, rfl, rfl, by decide +kernel, rfl, by decide +kernel, by decide +kernel⟩
theorem no__law_read_custom {ds : List D} {k : Kc} (h : cLCustom 0 ds k) : False := by
  obtain ⟨_, _, _, _, h, _⟩ := h
  omega
theorem run_low (t : Str) (n : Nat) : (subS t n (runEnd t LET n)).cps.toList.all lowB = true := List.all_eq_true.mpr fun c hc => by
  have hc : c ∈ (t.cps.toList.drop n).take (n + runL LET (t.cps.toList.drop n) - n) := hc
  rw [Nat.add_sub_cancel_left] at hc
  exact let_of.mp (run_in LET _ c hc)
theorem ways_any (w : Str) : (["even", "row", "lack", "half", "part", "back"] : List Str).contains w = WAYSL.contains w := by
  refine Bool.eq_iff_iff.mpr ?_
  rw [List.contains_iff_mem, List.contains_iff_mem]
  unfold WAYSL
  simp only [List.mem_cons, List.not_mem_nil, or_false]
  exact ⟨fun h => by rcases h with h | h | h | h | h | h <;> simp [h], fun h => by rcases h with h | h | h | h | h | h <;> simp [h]⟩
theorem st__law_read_custom (dd : Nat) (T : Txt K mg A) (hN : base.NoSeer) (hT : P.given.tree = none) (fn__law_run : Ok P w K mg base 1 "_law_run" ["text", "at", "signs"] (spc K cLRun)) (fn__law_read_number : Ok P w K mg base 2 "_law_read_number" ["text", "at", "least", "most"] (spc K cLNum)) (fn__law_read_kids : Ok P w K mg base (3 + 2 * dd + 1) "_law_read_kids" ["text", "at", "deep", "word"] (spc K (cLKids dd))) : Ok P w K mg base (3 + 2 * (dd + 1)) "_law_read_custom" ["text", "at", "deep"] (spc K (cLCustom (dd + 1))) := by
  refine T.f__law_read_custom.ok (k := 3 + 2 * dd + 1) sc__law_read_custom _ (fun ds k hc => by obtain ⟨_, _, _, rfl, _⟩ := hc; rfl) (fun cdv A' outer s H vs Q E hr h => ⟨_, (pss_cons (ps_asg (pe_fn fn__law_run (hr.mono (by omega)) (takes_of rfl rfl rfl rfl) rfl (pa_cons (pv 0) (pa_cons (pv 1) (pa_cons pe_str pa_nil)))) (g_tup (n := 2) (K := K) rfl (pgs_cons (pg_name (i := 3) sc__law_read_custom.nd rfl (by first | exact Or.inl rfl | exact Or.inr rfl)) (pgs_cons (pg_name (i := 4) sc__law_read_custom.nd rfl (by first | exact Or.inl rfl | exact Or.inr rfl)) pgs_nil))))
  (pss_cons (ps_if (pt_cmpR (o_eq (K := K) hr.units) (pe_slice (s_any (K := K)) (pv 0) (po_some (pv 4)) (po_some (pe_op (o_plus (K := K)) (pv 4) pe_int))) pe_str (nomark _)) (pss_cons (ps_set (i := 5) sc__law_read_custom.nd rfl (by first | exact Or.inl rfl | exact Or.inr rfl) (pe_fn fn__law_read_number (hr.mono (by omega)) (takes_of rfl rfl rfl rfl) rfl (pa_cons (pv 0) (pa_cons (pe_op (o_plus (K := K)) (pv 4) pe_int) (pa_cons pe_int (pa_cons (pe_op o_pow pe_int pe_int) pa_nil))))))
  (pss_cons (ps_if (PW.pt (pw_or (pt_cmpR o_isN (pv 5) pe_non (nomark _)) (pw_or1 (pt_not (pt_chain o_le o_le pe_int (pe_callB (c_lenA (K := K)) (by rfl) T.z_len (by decide +kernel) (pa_cons (pv 3) pa_nil)) pe_int))))) (pss_one (ps_ret pe_non)) pss_nil)
  (pss_one (ps_ret (pe_tup (pa_cons (pe_tup (pa_cons pe_str (pa_cons (pe_ix (i_any (K := K)) (pv 5) pe_int (fun _ _ => rfl)) pa_nil))) (pa_cons (pe_lst (pa_cons (pv 3) pa_nil)) (pa_cons (pe_ix (i_any (K := K)) (pv 5) pe_int (fun _ _ => rfl)) pa_nil)))))))) pss_nil)
  (pss_cons (ps_if (PW.pt (pw_or (pt_cmpR (o_ne (K := K) hr.units) (pe_slice (s_any (K := K)) (pv 0) (po_some (pv 4)) (po_some (pe_op (o_plus (K := K)) (pv 4) pe_int))) pe_str (nomark _)) (pw_or (pt_cmpR o_gt (pv 2) pe_int (nomark _)) (pw_or1 (pt_cmpR (o_notIn (K := K)) (pv 3) (pe_tup (pa_cons pe_str (pa_cons pe_str (pa_cons pe_str (pa_cons pe_str (pa_cons pe_str (pa_cons pe_str pa_nil))))))) (by rfl)))))) (pss_one (ps_ret pe_non)) pss_nil)
  (pss_one (ps_ret (pe_fn fn__law_read_kids (hr.mono (by omega)) (takes_of rfl rfl rfl rfl) rfl (pa_cons (pv 0) (pa_cons (pe_op (o_plus (K := K)) (pv 4) pe_int) (pa_cons (pv 2) (pa_cons (pv 3) pa_nil)))))))))), body_of h fun ds k hc => ?_⟩)
  obtain ⟨t, n, d, rfl, hd, hd7, hn, hl, ha, hk⟩ := hc
  show Sd K _ _ _ [.val (.str t), .val (.int (n : Int)), .val (.int ((8 - d : Nat) : Int)), .un, .un, .un] _
  have hle := (run_le (s := LET) hn)
  refine sd_seq (sd_asg (ev_call (ea_cons (ev_var rfl) (ea_cons (ev_var rfl) (ea_cons ev_str ea_nil))) (lRun_v (s := LET) hn hl)) (gd_tup2 gd_name gd_name) ?_)
  obtain ⟨e, he⟩ : ∃ e, e = runEnd t LET n := ⟨_, rfl⟩
  obtain ⟨w, hw⟩ : ∃ w, w = subS t n (runEnd t LET n) := ⟨_, rfl⟩
  have hlow : w.cps.toList.all lowB = true := by rw [hw]; exact run_low t n
  have hwl : w.length ≤ 90000 := by rw [hw]; exact Nat.le_trans sub_short hl
  have hP : parse t d n [] = if meetsB t ":" e then (match numAt t (e + 1) with
      | none => none
      | some (v, m) => if v ≤ 1000000000 then some (.boat v, m, [w]) else none)
    else if meetsB t "(" e then (match d with
      | 0 => none
      | d + 1 => parseK (parse t d) t w (t.length + 1) (e + 1) [] [] []) else none := by
    rw [hw, he]
    cases d <;> (conv => lhs; unfold parse) <;> rfl
  rw [← hw, ← he]
  rw [← he] at hle
  have hsa : ∀ i j, asc (subS t i j) := fun i j c hc => ha c (List.mem_of_mem_drop (List.mem_of_mem_take hc))
  have m1 : ∀ s : Str, s.length = 1 → meetsB t s e = decide (subS t e (e + 1) = s) := fun s hs => by
    unfold meetsB
    rw [hs]
  have ol : ("(" : Str).length = 1 := by decide +kernel
  rw [hP] at hk
  by_cases hA : meetsB t ":" e = true
  · have h1 := meets_at hA hle.2
    rw [colon_len] at h1
    rw [if_pos hA] at hk
    refine sd_seq (sd_ifS (b := true) (EvT.is (et_test (ev_eqS (b := ":") (Ev.is (a_slS (ev_var rfl) (by omega) (o_some (ev_var rfl)) (o_some (i := ((e + 1 : Nat) : Int)) (Ev.is (a_add (ev_var rfl) ev_int) rfl))) (by rw [sub_cut hle.2])) ev_str (asc_sh (hsa _ _)) (by decide +kernel))) (by rw [← m1 ":" colon_len]; exact hA)) (fun _ => ?_) (fun z => nomatch z))
    refine sd_seq (sd_set (d := numLD (numL t (e + 1) 0 1000000000)) (ev_call (ea_cons (ev_var rfl) (ea_cons (Ev.is (a_add (ev_var rfl) ev_int) rfl) (ea_cons ev_int (ea_cons (Ev.is (v_pow ev_int ev_int (by unfold CPowW; decide +kernel)) rfl) ea_nil)))) (lNum_v h1 hl ha)) ?_)
    cases hq : numAt t (e + 1) with
    | none =>
      have hN : numL t (e + 1) 0 1000000000 = none := by unfold numL; rw [hq]
      rw [hq] at hk
      rw [hN]
      exact sd_seq (sd_ifS (b := true) (EvT.is (et_or (x := true) (y := true) (EvT.is (et_test (v_isN (ev_var rfl))) rfl) fun z => nomatch z) rfl) (fun _ => sd_ret (d := .none) ev_non hk) (fun z => nomatch z))
    | some q =>
      obtain ⟨v, m⟩ := q
      have hv := (numAt_ok hq h1).2.2
      rw [hq] at hk
      have hk : k.rt (readD (if v ≤ 1000000000 then some (.boat v, m, [w]) else none)) := hk
      by_cases hv2 : v ≤ 1000000000
      · have hN : numL t (e + 1) 0 1000000000 = some (v, m) := by
          unfold numL
          rw [hq]
          exact if_pos ⟨hv, hv2⟩
        rw [if_pos hv2] at hk
        rw [hN]
        have hnm : ([w].all isNm) = (decide (1 ≤ w.length) && decide (w.length ≤ 12)) := by
          show (isNm w && true) = _
          unfold isNm
          rw [hlow, Bool.and_true, Bool.and_true]
        have hch : (decide ((1 : Int) ≤ (w.length : Int)) && decide ((w.length : Int) ≤ 12)) = [w].all isNm := by
          rw [hnm]
          exact congr (congrArg and (decide_eq_decide.mpr (by omega))) (decide_eq_decide.mpr (by omega))
        refine sd_seq (sd_ifS (b := false || !([w].all isNm)) (et_or (EvT.is (et_test (v_isN (ev_var rfl))) rfl) fun _ => et_not (EvT.is (et_test (ev_chainI (f := fun i j => decide (i ≤ j)) (g := fun i j => decide (i ≤ j)) ev_int (a_lenS (ev_var rfl) (by omega)) fun _ => ev_int)) hch)) (fun z => ?_) (fun z => sd_next ?_))
        · rw [Bool.false_or, Bool.not_eq_true'] at z
          rw [readD_no z] at hk
          exact sd_ret ev_non hk
        · rw [Bool.false_or, Bool.not_eq_false'] at z
          rw [readD_ok z] at hk
          have e1 : ∀ (ρ : En) (j : Nat) (d : D), ρ[5]? = some (.val (.tuple [.int v, .int ((m : Nat) : Int)])) → atI [PyData.int v, .int ((m : Nat) : Int)] (j : Int) = some d → Ev K (tOp (rIx K) (tVar 5) (tC (.int (j : Int)))) ρ d := fun ρ j d h hj => ev_ixST (ev_var h) ev_int hj
          exact sd_ret (ev_tup (ea_cons (ev_tup (ea_cons ev_str (ea_cons (e1 _ 0 _ rfl rfl) ea_nil)) (by exact Nat.le_of_ble_eq_true rfl)) (ea_cons (EvF.v (evf_lst (ea_cons (ev_var rfl) ea_nil) (by exact Nat.le_of_ble_eq_true rfl))) (ea_cons (e1 _ 1 _ rfl rfl) ea_nil))) (by exact Nat.le_of_ble_eq_true rfl)) hk
      · have hN : numL t (e + 1) 0 1000000000 = none := by
          unfold numL
          rw [hq]
          exact if_neg fun q => hv2 q.2
        rw [if_neg hv2] at hk
        rw [hN]
        exact sd_seq (sd_ifS (b := true) (EvT.is (et_or (x := true) (y := true) (EvT.is (et_test (v_isN (ev_var rfl))) rfl) fun z => nomatch z) rfl) (fun _ => sd_ret (d := .none) ev_non hk) (fun z => nomatch z))
  · rw [if_neg hA] at hk
    refine sd_seq (sd_ifS (b := false) (EvT.is (et_test (ev_eqS (b := ":") (Ev.is (a_slS (ev_var rfl) (by omega) (o_some (ev_var rfl)) (o_some (i := ((e + 1 : Nat) : Int)) (Ev.is (a_add (ev_var rfl) ev_int) rfl))) (by rw [sub_cut hle.2])) ev_str (asc_sh (hsa _ _)) (by decide +kernel))) (by rw [← m1 ":" colon_len]; exact Bool.eq_false_iff.mpr hA)) (fun z => nomatch z) (fun _ => sd_next ?_))
    by_cases hB : meetsB t "(" e = true
    · have h1 := meets_at hB hle.2
      rw [ol] at h1
      rw [if_pos hB] at hk
      have hb : (decide (subS t e (e + 1) = "(")) = true := by rw [← m1 "(" ol]; exact hB
      cases d with
      | zero =>
        refine sd_seq (sd_ifS (b := true) (EvT.is (et_or (x := false) (y := true) (EvT.is (et_test (ev_neS (b := "(") (Ev.is (a_slS (ev_var rfl) (by omega) (o_some (ev_var rfl)) (o_some (i := ((e + 1 : Nat) : Int)) (Ev.is (a_add (ev_var rfl) ev_int) rfl))) (by rw [sub_cut hle.2])) ev_str (asc_sh (hsa _ _)) (by decide +kernel))) (by rw [hb]; rfl)) fun _ => EvT.is (et_or (x := true) (y := true) (EvT.is (et_test (v_gt (ev_var rfl) ev_int)) (by decide)) fun z => nomatch z) rfl) rfl) (fun _ => sd_ret (d := .none) ev_non hk) (fun z => nomatch z))
      | succ d =>
        have hk : k.rt (readD (parseK (parse t d) t w (t.length + 1) (e + 1) [] [] [])) := hk
        refine sd_seq (sd_ifS (b := !WAYSL.contains w) (EvT.is (et_or (x := false) (y := !WAYSL.contains w) (EvT.is (et_test (ev_neS (b := "(") (Ev.is (a_slS (ev_var rfl) (by omega) (o_some (ev_var rfl)) (o_some (i := ((e + 1 : Nat) : Int)) (Ev.is (a_add (ev_var rfl) ev_int) rfl))) (by rw [sub_cut hle.2])) ev_str (asc_sh (hsa _ _)) (by decide +kernel))) (by rw [hb]; rfl)) fun _ => EvT.is (et_or (x := false) (y := !WAYSL.contains w) (EvT.is (et_test (v_gt (ev_var rfl) ev_int)) (decide_eq_false (by omega))) fun _ => EvT.is (et_test (a_niS (zs := ["even", "row", "lack", "half", "part", "back"]) (.inr rfl) (ev_var rfl) (ev_tup (ea_cons ev_str (ea_cons ev_str (ea_cons ev_str (ea_cons ev_str (ea_cons ev_str (ea_cons ev_str ea_nil)))))) (by exact Nat.le_of_ble_eq_true rfl)))) (by rw [ways_any])) (Bool.false_or _)) (Bool.false_or _)) (fun z => ?_) (fun z => sd_next ?_))
        · rw [parseK_way (by rw [Bool.not_eq_true'] at z; exact z)] at hk
          exact sd_ret (d := .none) ev_non hk
        · rw [Bool.not_eq_false'] at z
          exact sd_ret (ev_call (ea_cons (ev_var rfl) (ea_cons (Ev.is (a_add (ev_var rfl) ev_int) rfl) (ea_cons (ev_var rfl) (ea_cons (ev_var rfl) ea_nil)))) ⟨t, w, e + 1, d, by rw [show 8 - (d + 1) = 7 - d by omega]; rfl, by omega, by omega, z, h1, hl, ha, rfl⟩) hk
    · rw [if_neg hB] at hk
      refine sd_seq (sd_ifS (b := true) (EvT.is (et_or (x := true) (y := true) (EvT.is (et_test (ev_neS (b := "(") (Ev.is (a_slS (ev_var rfl) (by omega) (o_some (ev_var rfl)) (o_some (i := ((e + 1 : Nat) : Int)) (Ev.is (a_add (ev_var rfl) ev_int) rfl))) (by rw [sub_cut hle.2])) ev_str (asc_sh (hsa _ _)) (by decide +kernel))) (by rw [← m1 "(" ol, Bool.eq_false_iff.mpr hB]; rfl)) fun z => nomatch z) rfl) (fun _ => sd_ret (d := .none) ev_non hk) (fun z => nomatch z))
theorem gr__law_read_custom (T : Txt K mg A) : Ok P w K mg base (3 + 2 * 0) "_law_read_custom" ["text", "at", "deep"] (spc K (cLCustom 0)) := T.f__law_read_custom.ok (k := 2) sc__law_read_custom _ (fun ds k hc => (no__law_read_custom hc).elim) (fun cdv A' outer s H vs Q E hr h => (spc_no h fun ds k hc => no__law_read_custom hc).elim)
theorem ok__law_read_custom (T : Txt K mg A) (hN : base.NoSeer) (hT : P.given.tree = none) (fn__law_run : Ok P w K mg base 1 "_law_run" ["text", "at", "signs"] (spc K cLRun)) (fn__law_read_number : Ok P w K mg base 2 "_law_read_number" ["text", "at", "least", "most"] (spc K cLNum)) : Ok P w K mg base 19 "_law_read_custom" ["text", "at", "deep"] (spc K (cLCustom 8)) := by
  have all : ∀ dd : Nat, Ok P w K mg base (3 + 2 * dd) "_law_read_custom" ["text", "at", "deep"] (spc K (cLCustom dd)) := fun dd => by
    induction dd with
    | zero => exact gr__law_read_custom T
    | succ dd ih => exact st__law_read_custom dd T hN hT fn__law_run fn__law_read_number (mt__law_read_kids dd T hN hT fn__law_read_number ih)
  exact all 8
theorem sc__law_read : FnScope ["text", "told"] ["text"] (defScope s__law_read) := ⟨rfl, rfl, rfl, by decide +kernel, rfl, by decide +kernel, by decide +kernel⟩
theorem ok__law_read (T : Txt K mg A) (hN : base.NoSeer) (hT : P.given.tree = none) (fn__law_read_custom : Ok P w K mg base 19 "_law_read_custom" ["text", "at", "deep"] (spc K (cLCustom 8))) : Ok P w K mg base 20 "_law_read" ["text"] (spc K cLRead) := by
  refine T.f__law_read.ok sc__law_read _ (fun ds k hc => by obtain ⟨_, rfl, _⟩ := hc; rfl) (fun cdv A' outer s H vs Q E hr h => ⟨_, (pss_cons (ps_set (i := 1) sc__law_read.nd rfl (by first | exact Or.inl rfl | exact Or.inr rfl) (pe_fn fn__law_read_custom (hr.mono (by decide)) (takes_of rfl rfl rfl rfl) rfl (pa_cons (pv 0) (pa_cons pe_int (pa_cons pe_int pa_nil)))))
  (pss_cons (ps_if (PW.pt (pw_or (pt_cmpR o_isN (pv 1) pe_non (nomark _)) (pw_or (pt_cmpR (o_ne (K := K) hr.units) (pe_ix (i_any (K := K)) (pv 1) pe_int (fun _ _ => rfl)) (pe_callB (c_lenA (K := K)) (by rfl) T.z_len (by decide +kernel) (pa_cons (pv 0) pa_nil)) (nomark _)) (pw_or1 (pt_cmpR (o_ne (K := K) hr.units) (pe_callB (c_lenA (K := K)) (by rfl) T.z_len (by decide +kernel) (pa_cons (pe_ix (i_any (K := K)) (pv 1) pe_int (fun _ _ => rfl)) pa_nil)) (pe_callB (c_lenS (P := P) (w := w)) (by rfl) T.z_len (by decide +kernel) (pa_cons (pe_callTy (c_setS (K := K) (P := P) (w := w) rfl) (by rfl) T.z_set (by decide +kernel) (pa_cons (pe_ix (i_any (K := K)) (pv 1) pe_int (fun _ _ => rfl)) pa_nil)) pa_nil)) (nomark _)))))) (pss_one (ps_ret pe_non)) pss_nil)
  (pss_one (ps_ret (pe_tup (pa_cons (pe_ix (i_any (K := K)) (pv 1) pe_int (fun _ _ => rfl)) (pa_cons (pe_ix (i_any (K := K)) (pv 1) pe_int (fun _ _ => rfl)) pa_nil))))))), body_of h fun ds k hc => ?_⟩)
  obtain ⟨t, rfl, hl, ha, hk⟩ := hc
  show Sd K _ _ _ [.val (.str t), .un] _
  refine sd_seq (sd_set (d := readD (parse t 7 0 [])) (ev_call (ea_cons (ev_var rfl) (ea_cons ev_int (ea_cons ev_int ea_nil))) ⟨t, 0, 7, rfl, by decide, by decide, Nat.zero_le _, hl, ha, rfl⟩) ?_)
  unfold readL at hk
  have hR : readR t = match parse t 7 0 [] with
    | none => none
    | some (u, m, ys) => if m = t.length ∧ lookN u ys = 2 then some (u, ys) else none := rfl
  have none_ : readR t = none → ∀ d : D, (match readR t with | none => PyData.none | some (u, ns) => .tuple [u.d, .list (ns.map PyData.str)]) = .none := fun h _ => by rw [h]
  cases hp : parse t 7 0 [] with
  | none =>
    rw [hp] at hR
    rw [hR] at hk
    exact sd_seq (sd_ifS (b := true) (EvT.is (et_or (x := true) (y := true) (EvT.is (et_test (v_isN (ev_var rfl))) rfl) fun z => nomatch z) rfl) (fun _ => sd_ret ev_non hk) (fun z => nomatch z))
  | some q =>
    obtain ⟨u, m, ys⟩ := q
    rw [hp] at hR
    have hR : readR t = if m = t.length ∧ lookN u ys = 2 then some (u, ys) else none := hR
    obtain ⟨b1, b2, b3, b4⟩ := parse_ok t 7 0 [] u m ys (Nat.zero_le _) hp
    obtain ⟨xs, hxe, hxl⟩ := parse_names t 7 0 [] u m ys hp
    rw [List.nil_append] at hxe
    obtain rfl : ys = xs := hxe
    have hfew := b4.few
    by_cases hall : ys.all isNm = true
    · have hD : readD (some (u, m, ys)) = .tuple [u.d, .list (ys.map PyData.str), .int ((m : Nat) : Int)] := readD_ok hall
      rw [hD]
      have hnm : ∀ z ∈ ys, isNm z = true := List.all_eq_true.mp hall
      have hnd := okNs_nodup hnm
      have e1 : ∀ (ρ : En) (j : Nat) (d : D), ρ[1]? = some (.val (.tuple [u.d, .list (ys.map PyData.str), .int ((m : Nat) : Int)])) → atI [u.d, PyData.list (ys.map PyData.str), .int ((m : Nat) : Int)] (j : Int) = some d → Ev K (tOp (rIx K) (tVar 1) (tC (.int (j : Int)))) ρ d := fun ρ j d h hj => ev_ixST (ev_var h) ev_int hj
      refine sd_seq (sd_ifS (b := false || (!decide (m = t.length) || !decide (cntR ys = ys.length))) (et_or (EvT.is (et_test (v_isN (ev_var rfl))) rfl) fun _ => et_or (EvT.is (et_test (ev_neD (d1 := .int ((m : Nat) : Int)) (d2 := .int (t.length : Int)) (e1 _ 2 _ rfl rfl) (a_lenS (ev_var rfl) (by omega)) rfl rfl)) (by rw [eqv_int]; exact congrArg not (decide_eq_decide.mpr (by omega)))) fun _ => EvT.is (et_test (ev_neD (d1 := .int (ys.length : Int)) (d2 := .int (cntR ys : Nat)) ((a_lenL (e1 _ 1 _ rfl rfl).l).is (by rw [List.length_map])) (v_lenSet (e1 _ 1 _ rfl rfl).l (by omega)) rfl rfl)) (by rw [eqv_int]; exact congrArg not (decide_eq_decide.mpr (by omega)))) (fun z => ?_) (fun z => sd_next ?_))
      · rw [Bool.false_or, Bool.or_eq_true, Bool.not_eq_true', Bool.not_eq_true', decide_eq_false_iff_not, decide_eq_false_iff_not] at z
        have : readR t = none := by
          rw [hR]
          refine if_neg fun q => ?_
          rcases z with z | z
          · exact z q.1
          · exact z (cntR_eq.mpr (hnd.mp (lookN_2 q.2).2))
        rw [this] at hk
        exact sd_ret ev_non hk
      · rw [Bool.false_or, Bool.or_eq_false_iff, Bool.not_eq_false', Bool.not_eq_false', decide_eq_true_eq, decide_eq_true_eq] at z
        have : lookN u ys = 2 := by
          unfold lookN
          rw [if_pos hxl, if_pos (hnd.mpr (cntR_eq.mp z.2))]
        rw [hR, if_pos ⟨z.1, this⟩] at hk
        exact sd_ret (ev_tup (ea_cons (e1 _ 0 _ rfl rfl) (ea_cons (e1 _ 1 _ rfl rfl) ea_nil)) (by exact Nat.le_of_ble_eq_true rfl)) hk
    · have hD : readD (some (u, m, ys)) = .none := readD_no (Bool.eq_false_iff.mpr hall)
      rw [hD]
      have : readR t = none := by
        rw [hR]
        refine if_neg fun q => hall (List.all_eq_true.mpr fun z hz => nms q.2 z hz)
      rw [this] at hk
      exact sd_seq (sd_ifS (b := true) (EvT.is (et_or (x := true) (y := true) (EvT.is (et_test (v_isN (ev_var rfl))) rfl) fun z => nomatch z) rfl) (fun _ => sd_ret ev_non hk) (fun z => nomatch z))
theorem sc__law_spoiled : FnScope ["text", "cell", "signs", "sign", "at", "way", "k", "more"] ["text", "cell"] (defScope s__law_spoiled) := ⟨rfl, rfl, rfl, by decide +kernel, rfl, by decide +kernel, by decide +kernel⟩
theorem pick5 (y : Str) (zs : List Str) (h : (zs.all fun z => !(y == z) && decide (meas z ≤ 3 * meas y) && decide (z.length ≤ 12) && z.cps.toList.all fun c => decide (c < 128)) = true) {i : Nat} (hi : i < zs.length) : ∃ z, zs[i]? = some z ∧ (y == z) = false ∧ meas z ≤ 3 * meas y ∧ z.length ≤ 12 ∧ asc z := by
  have := List.all_eq_true.mp h _ (List.getElem_mem hi)
  rw [Bool.and_eq_true, Bool.and_eq_true, Bool.and_eq_true, Bool.not_eq_true', decide_eq_true_eq, decide_eq_true_eq] at this
  exact ⟨zs[i], List.getElem?_eq_getElem hi, this.1.1.1, this.1.1.2, this.1.2, asc_lit this.2⟩
theorem meas11 (z : Str) : meas z ≤ 11 * z.length := by
  have key : ∀ l : List Nat, mL l ≤ 11 * l.length := fun l => by
    induction l with
    | nil => exact Nat.zero_le _
    | cons c r ih =>
      have := (gS_pos c).2
      rw [mL_cons, List.length_cons]
      omega
  have := key z.cps.toList
  rw [tl_len] at this
  exact this
theorem ok__law_spoiled (T : Txt K mg A) (hN : base.NoSeer) (hT : P.given.tree = none)  : Ok P w K mg base 1 "_law_spoiled" ["text", "cell"] (spc K cSpoiled) := by
  refine T.f__law_spoiled.ok sc__law_spoiled _ (fun ds k hc => by obtain ⟨_, _, rfl, _⟩ := hc; rfl) (fun cdv A' outer s H vs Q E hr h => ⟨_, (pss_cons (ps_set (i := 1) sc__law_spoiled.nd rfl (by first | exact Or.inl rfl | exact Or.inr rfl) (pe_op o_mod (pv 1) (pe_op o_pow pe_int pe_int)))
  (pss_str (i := 2) sc__law_spoiled.nd rfl (by first | exact Or.inl rfl | exact Or.inr rfl)
  (psst_cons (PST.of (ps_set (i := 3) sc__law_spoiled.nd rfl (by first | exact Or.inl rfl | exact Or.inr rfl) (pe_ix (i_any (K := K)) (pv 2) (pe_op o_mod (pe_op o_fdiv (pv 1) pe_int) pe_int) (fun _ _ => rfl))))
  (psst_cons (PST.of (ps_set (i := 4) sc__law_spoiled.nd rfl (by first | exact Or.inl rfl | exact Or.inr rfl) (pe_op o_mod (pe_op o_fdiv (pv 1) pe_int) (pe_op (o_plus (K := K)) (pe_callB (c_lenA (K := K)) (by rfl) T.z_len (by decide +kernel) (pa_cons (pv 0) pa_nil)) pe_int))))
  (psst_cons (PST.of (ps_set (i := 5) sc__law_spoiled.nd rfl (by first | exact Or.inl rfl | exact Or.inr rfl) (pe_op o_mod (pv 1) pe_int)))
  (psst_cons (PST.of (ps_if (pt_cmpR (o_eq (K := K) hr.units) (pv 5) pe_int (nomark _)) (pss_one (ps_ret (pe_op (o_plus (K := K)) (pe_slice (s_any (K := K)) (pv 0) po_none (po_some (pv 4))) (pe_slice (s_any (K := K)) (pv 0) (po_some (pe_op (o_plus (K := K)) (pv 4) pe_int)) po_none)))) pss_nil))
  (psst_cons (PST.of (ps_if (pt_cmpR (o_eq (K := K) hr.units) (pv 5) pe_int (nomark _)) (pss_one (ps_ret (pe_op (o_plus (K := K)) (pe_op (o_plus (K := K)) (pe_slice (s_any (K := K)) (pv 0) po_none (po_some (pv 4))) (pv 3)) (pe_slice (s_any (K := K)) (pv 0) (po_some (pv 4)) po_none)))) pss_nil))
  (psst_cons (PST.of (ps_if (pt_cmpR (o_eq (K := K) hr.units) (pv 5) pe_int (nomark _)) (pss_one (ps_ret (pe_op (o_plus (K := K)) (pe_op (o_plus (K := K)) (pe_slice (s_any (K := K)) (pv 0) po_none (po_some (pv 4))) (pv 3)) (pe_slice (s_any (K := K)) (pv 0) (po_some (pe_op (o_plus (K := K)) (pv 4) pe_int)) po_none)))) pss_nil))
  (psst_cons (PST.of (ps_if (pt_cmpR (o_eq (K := K) hr.units) (pv 5) pe_int (nomark _)) (pss_one (ps_ret (pe_slice (s_any (K := K)) (pv 0) po_none (po_some (pv 4))))) pss_nil))
  (psst_cons (CwR.pst_if (pt_cmpR (o_eq (K := K) hr.units) (pv 5) pe_int (nomark _)) (CwR.psst_one (CwR.pst_ret (pet_replD (pv 0) (pe_op o_mod (pe_op o_fdiv (pv 1) pe_int) pe_int) (fun _ _ => rfl)))) CwR.psst_nil)
  (psst_cons (PST.of (ps_if (pt_cmpR (o_eq (K := K) hr.units) (pv 5) pe_int (nomark _)) (pss_cons (ps_for (passes_of rfl) rfl (pi_range1 rfl T.z_range (pa_cons (pe_op o_mod (pe_op o_fdiv (pv 1) pe_int) pe_int) pa_nil)) (pg_name (i := 6) sc__law_spoiled.nd rfl (by first | exact Or.inl rfl | exact Or.inr rfl)) (pss_one (ps_set (i := 0) sc__law_spoiled.nd rfl (by first | exact Or.inl rfl | exact Or.inr rfl) (pe_op (o_plus (K := K)) (pe_op (o_plus (K := K)) (pe_ix (i_any (K := K)) (pe_lst (pa_cons pe_str (pa_cons pe_str (pa_cons pe_str (pa_cons pe_str pa_nil))))) (pe_op o_mod (pe_op o_fdiv (pv 1) pe_int) pe_int) (fun _ _ => rfl)) (pv 0)) pe_str))))
  (pss_one (ps_ret (pv 0)))) pss_nil))
  (psst_cons (CwR.pst_if (pt_cmpR (o_eq (K := K) hr.units) (pv 5) pe_int (nomark _)) (CwR.psst_one (CwR.pst_ret (pet_replD (pv 0) (pe_op o_mod (pe_op o_fdiv (pv 1) pe_int) pe_int) (fun _ _ => rfl)))) CwR.psst_nil)
  (psst_cons (PST.of (ps_if (pt_cmpR (o_eq (K := K) hr.units) (pv 5) pe_int (nomark _)) (pss_cons (ps_set (i := 7) sc__law_spoiled.nd rfl (by first | exact Or.inl rfl | exact Or.inr rfl) pe_str)
  (pss_cons (ps_for (passes_of rfl) rfl (pi_range1 rfl T.z_range (pa_cons (pe_op o_mod (pe_op o_fdiv (pv 1) pe_int) pe_int) pa_nil)) (pg_name (i := 6) sc__law_spoiled.nd rfl (by first | exact Or.inl rfl | exact Or.inr rfl)) (pss_one (ps_set (i := 7) sc__law_spoiled.nd rfl (by first | exact Or.inl rfl | exact Or.inr rfl) (pe_op (o_plus (K := K)) (pe_op (o_plus (K := K)) (pe_op (o_plus (K := K)) (pe_op (o_plus (K := K)) (pe_op (o_plus (K := K)) (pv 7) pe_str) pe_str) (pe_ix (i_any (K := K)) pe_str (pv 6) (fun _ _ => rfl))) pe_str) (pe_callTy (c_strI) (by rfl) T.z_str (by decide +kernel) (pa_cons (pv 6) pa_nil))))))
  (pss_one (ps_ret (pe_op (o_plus (K := K)) (pe_op (o_plus (K := K)) (pe_op (o_plus (K := K)) pe_str (pv 0)) (pv 7)) pe_str))))) pss_nil))
  (CwR.psst_one (PST.of (ps_ret (pe_op (o_plus (K := K)) (pv 0) (pe_ix (i_any (K := K)) (pe_lst (pa_cons pe_str (pa_cons pe_str (pa_cons pe_str (pa_cons pe_str pa_nil))))) (pe_op o_mod (pe_op o_fdiv (pv 1) pe_int) pe_int) (fun _ _ => rfl))))))))))))))))))), body_of h fun ds k hc => ?_⟩)
  obtain ⟨t, c, rfl, hta, htm, hk⟩ := hc
  show Sd K _ _ _ [.val (.str t), .val (.int c), .un, .un, .un, .un, .un, .un] _
  have htl := meas_len t
  obtain ⟨x, hx⟩ : ∃ x, x = c % 10 ^ (40 : Int).toNat := ⟨_, rfl⟩
  have x0 : 0 ≤ x := by rw [hx]; exact Int.emod_nonneg _ (by decide)
  refine sd_seq (sd_set (d := .int x) (by rw [hx]; exact v_emod (ev_var rfl) (by walk_at "ev") (by decide)) ?_)
  clear hx
  refine sd_seq (sd_set ev_str ?_)
  obtain ⟨sg, hsg, hsga, hsgm⟩ : ∃ g : Nat, atI ((" :,()0123456789abeknrowpx_-+.AR\n" : Str).cps.toList) (x / 9 % 32) = some g ∧ g < 128 ∧ gS g ≤ 11 := by
    obtain ⟨m, hm, hml⟩ : ∃ m : Nat, x / 9 % 32 = (m : Int) ∧ m < 32 := ⟨(x / 9 % 32).toNat, by omega, by omega⟩
    have e : ((" :,()0123456789abeknrowpx_-+.AR\n" : Str).cps.toList).length = 32 := by decide +kernel
    have hh : ((" :,()0123456789abeknrowpx_-+.AR\n" : Str).cps.toList.all fun c => decide (c < 128)) = true := by decide +kernel
    refine ⟨_, by rw [hm]; exact atI_nat (List.getElem?_eq_getElem (by omega)), of_decide_eq_true (List.all_eq_true.mp hh _ (List.getElem_mem (by omega))), (gS_pos _).2⟩
  have esl : (" :,()0123456789abeknrowpx_-+.AR\n" : Str).length = 32 := by decide +kernel
  refine sd_seq (sd_set (d := .str ⟨#[sg]⟩) (ev_ixS (ev_var rfl) (by walk_at "ev") (by rw [esl]; decide) hsg) ?_)
  have hss : meas ⟨#[sg]⟩ ≤ 11 := by
    show gS sg + 0 ≤ 11
    omega
  have hsl : (⟨#[sg]⟩ : Str).length = 1 := rfl
  have hsa : asc ⟨#[sg]⟩ := asc_one hsga
  obtain ⟨a, ha, hal⟩ : ∃ a : Nat, x / 288 % ((t.length : Int) + 1) = (a : Int) ∧ a ≤ t.length := by
    have m1 := Int.emod_nonneg (x / 288) (b := (t.length : Int) + 1) (by omega)
    have m2 := Int.emod_lt_of_pos (x / 288) (b := (t.length : Int) + 1) (by omega)
    exact ⟨(x / 288 % ((t.length : Int) + 1)).toNat, by omega, by omega⟩
  refine sd_seq (sd_set (d := .int (a : Int)) (Ev.is (v_emod (by walk_at "ev") (a_add (a_lenS (ev_var rfl) (by omega)) ev_int) (by omega)) (by rw [ha])) ?_)
  refine sd_seq (sd_set (d := .int (x % 9)) (by walk_at "ev") ?_)
  have hT := mL_take t.cps.toList a
  have hTt : mL (t.cps.toList.take a) + mL (t.cps.toList.drop a) = meas t := hT
  have hD1 := mL_drop t.cps.toList a (a + 1) (by omega)
  have e1 : meas (cutS t none (some (a : Int))) = mL (t.cps.toList.take a) := meas_to t a
  have e2 : meas (cutS t (some (a : Int)) none) = mL (t.cps.toList.drop a) := meas_from t a
  have e3 : meas (cutS t (some ((a : Int) + 1)) none) = mL (t.cps.toList.drop (a + 1)) := by
    rw [show (a : Int) + 1 = ((a + 1 : Nat) : Int) by omega]
    exact meas_from t (a + 1)
  have c1 := cutS_le t none (some (a : Int))
  have c2 := cutS_le t (some (a : Int)) none
  have c3 := cutS_le t (some ((a : Int) + 1)) none
  have a1 : asc (cutS t none (some (a : Int))) := asc_cut hta _ _
  have a2 : asc (cutS t (some (a : Int)) none) := asc_cut hta _ _
  have a3 : asc (cutS t (some ((a : Int) + 1)) none) := asc_cut hta _ _
  have way : ∀ (ρ : En) (j : Int), ρ[5]? = some (.val (.int (x % 9))) → EvT K (tTest (tOp (rEqD K) (tVar 5) (tC (.int j)))) ρ (decide (x % 9 = j)) := fun ρ j h => EvT.is (et_test (ev_eqD (d1 := .int (x % 9)) (d2 := .int j) (ev_var h) ev_int rfl rfl)) eqv_int
  refine sd_seq (sd_ifS (way _ 1 rfl) (fun _ => sd_ret (a_catS (a_slS (ev_var rfl) (by omega) o_none (o_some (ev_var rfl))) (a_slS (ev_var rfl) (by omega) (o_some (a_add (ev_var rfl) ev_int)) o_none) (by omega)) (hk _ ⟨_, rfl, asc_cat a1 a3, by rw [meas_cat]; omega⟩)) (fun _ => sd_next ?_))
  refine sd_seq (sd_ifS (way _ 2 rfl) (fun _ => sd_ret (a_catS (a_catS (a_slS (ev_var rfl) (by omega) o_none (o_some (ev_var rfl))) (ev_var rfl) (by omega)) (a_slS (ev_var rfl) (by omega) (o_some (ev_var rfl)) o_none) (by rw [cat_len]; omega)) (hk _ ⟨_, rfl, asc_cat (asc_cat a1 hsa) a2, by rw [meas_cat, meas_cat]; omega⟩)) (fun _ => sd_next ?_))
  refine sd_seq (sd_ifS (way _ 3 rfl) (fun _ => sd_ret (a_catS (a_catS (a_slS (ev_var rfl) (by omega) o_none (o_some (ev_var rfl))) (ev_var rfl) (by omega)) (a_slS (ev_var rfl) (by omega) (o_some (a_add (ev_var rfl) ev_int)) o_none) (by rw [cat_len]; omega)) (hk _ ⟨_, rfl, asc_cat (asc_cat a1 hsa) a3, by rw [meas_cat, meas_cat]; omega⟩)) (fun _ => sd_next ?_))
  refine sd_seq (sd_ifS (way _ 4 rfl) (fun _ => sd_ret (a_slS (ev_var rfl) (by omega) o_none (o_some (ev_var rfl))) (hk _ ⟨_, rfl, a1, by omega⟩)) (fun _ => sd_next ?_))
  obtain ⟨i5, h5, h5l⟩ : ∃ m : Nat, x / 9 % 5 = (m : Int) ∧ m < 5 := ⟨(x / 9 % 5).toNat, by omega, by omega⟩
  refine sd_seq (sd_ifS (way _ 5 rfl) (fun _ => ?_) (fun _ => sd_next ?_))
  · obtain ⟨z, z1, z2, z3, z4, z5⟩ := pick5 ":" ["::", ":0", ":99", ":1000000000", ": "] (by decide +kernel) (i := i5) h5l
    have hb : (t.length + 1) * z.length ≤ (t.length + 1) * 12 := Nat.mul_le_mul_left _ z4
    exact sd_ret (v_replD (ev_var rfl) (Ev.is (by walk_at "ev") (by rw [h5])) z1 z2 (by omega)) (hk _ ⟨_, rfl, repl_asc (by decide +kernel) hta z5, by have := meas_repl (x := t) (by decide +kernel) (by decide) z3; omega⟩)
  refine sd_seq (sd_ifS (way _ 6 rfl) (fun _ => ?_) (fun _ => sd_next ?_))
  · obtain ⟨n6, h6, h6l⟩ : ∃ m : Nat, x / 9 % 9 = (m : Int) ∧ m < 9 := ⟨(x / 9 % 9).toNat, by omega, by omega⟩
    refine sd_seq (sd_for (fun i ρ => ∃ (z : Str) (z6 : Sl), ρ = [.val (.str z), .val (.int x), .val (.str " :,()0123456789abeknrowpx_-+.AR\n"), .val (.str ⟨#[sg]⟩), .val (.int (a : Int)), .val (.int (x % 9)), z6, .un] ∧ asc z ∧ meas z ≤ meas t + 30 * i) (id_rngN (n := n6) (ea_cons (Ev.is (by walk_at "ev") (by rw [h6])) ea_nil) (by omega)) ⟨t, _, rfl, hta, Nat.le_refl _⟩ ?_ ?_)
    · rintro i d ρ' hd ⟨z, z6, rfl, hz, hzm⟩
      obtain ⟨hi, rfl⟩ := rangeD_get hd
      refine ⟨_, gd_name, ?_⟩
      have hzl := meas_len z
      obtain ⟨w, hw, w1, w2, w3⟩ := strs_some ["row(", "even(7 ", "half(", "lack(1000000 "] (fun z => asc z ∧ meas z ≤ 20 ∧ z.length ≤ 20) (fun z hz => by
        simp only [List.mem_cons, List.not_mem_nil, or_false] at hz
        rcases hz with rfl | rfl | rfl | rfl
        · exact ⟨asc_lit (by decide +kernel), by decide +kernel, by decide +kernel⟩
        · exact ⟨asc_lit (by decide +kernel), by decide +kernel, by decide +kernel⟩
        · exact ⟨asc_lit (by decide +kernel), by decide +kernel, by decide +kernel⟩
        · exact ⟨asc_lit (by decide +kernel), by decide +kernel, by decide +kernel⟩) (k := x / 81 % 4) (by omega) (by show _ < 4; omega)
      have ep : (")" : Str).length = 1 := close_len
      have em : meas (")" : Str) = 1 := by decide +kernel
      exact sd_set (a_catS (a_catS (ev_ixSL (EvF.l (evf_lst (ea_cons ev_str (ea_cons ev_str (ea_cons ev_str (ea_cons ev_str ea_nil)))) (by exact Nat.le_of_ble_eq_true rfl))) (by walk_at "ev") hw) (ev_var rfl) (by omega)) ev_str (by rw [cat_len, ep]; omega)) ⟨_, _, rfl, asc_cat (asc_cat w1 hz) (asc_lit (by decide +kernel)), by rw [meas_cat, meas_cat, em]; omega⟩
    · rintro ρ ⟨z, z6, rfl, hz, hzm⟩
      rw [rangeD_len] at hzm
      exact sd_ret (ev_var rfl) (hk _ ⟨z, rfl, hz, by omega⟩)
  refine sd_seq (sd_ifS (way _ 7 rfl) (fun _ => ?_) (fun _ => sd_next ?_))
  · obtain ⟨z, z1, z2, z3, z4, z5⟩ := pick5 ", " [",", ", , ", " ,", ",  ", ", q:1, "] (by decide +kernel) (i := i5) h5l
    have hb : (t.length + 1) * z.length ≤ (t.length + 1) * 12 := Nat.mul_le_mul_left _ z4
    exact sd_ret (v_replD (ev_var rfl) (Ev.is (by walk_at "ev") (by rw [h5])) z1 z2 (by omega)) (hk _ ⟨_, rfl, repl_asc (by decide +kernel) hta z5, by have := meas_repl (x := t) (by decide +kernel) (by decide) z3; omega⟩)
  refine sd_seq (sd_ifS (way _ 8 rfl) (fun _ => ?_) (fun _ => sd_next ?_))
  · obtain ⟨n8, h8, h8l⟩ : ∃ m : Nat, x / 9 % 14 = (m : Int) ∧ m < 14 := ⟨(x / 9 % 14).toNat, by omega, by omega⟩
    refine sd_seq (sd_set ev_str ?_)
    refine sd_seq (sd_for (fun i ρ => ∃ (z : Str) (z6 : Sl), ρ = [.val (.str t), .val (.int x), .val (.str " :,()0123456789abeknrowpx_-+.AR\n"), .val (.str ⟨#[sg]⟩), .val (.int (a : Int)), .val (.int (x % 9)), z6, .val (.str z)] ∧ asc z ∧ meas z ≤ 220 * i) (id_rngN (n := n8) (ea_cons (Ev.is (by walk_at "ev") (by rw [h8])) ea_nil) (by omega)) ⟨"", _, rfl, asc_lit (by decide +kernel), by decide +kernel⟩ ?_ ?_)
    · rintro i d ρ' hd ⟨z, z6, rfl, hz, hzm⟩
      obtain ⟨hi, rfl⟩ := rangeD_get hd
      rw [Int.zero_add]
      refine ⟨_, gd_name, ?_⟩
      have hzl := meas_len z
      have el : ("abcdefghijklmnop" : Str).cps.toList.length = 16 := by decide +kernel
      have hh : (("abcdefghijklmnop" : Str).cps.toList.all fun c => decide (c < 128)) = true := by decide +kernel
      obtain ⟨ch, hch, hcl⟩ : ∃ ch, atI (("abcdefghijklmnop" : Str).cps.toList) (i : Int) = some ch ∧ ch < 128 := ⟨_, atI_nat (List.getElem?_eq_getElem (by omega)), of_decide_eq_true (List.all_eq_true.mp hh _ (List.getElem_mem (by omega)))⟩
      have l1 : (", " : Str).length = 2 := comma_len
      have l2 : ("qz" : Str).length = 2 := by decide +kernel
      have l3 : (⟨#[ch]⟩ : Str).length = 1 := rfl
      have l4 : (":" : Str).length = 1 := colon_len
      have m1 := meas11 (", " : Str)
      have m2 := meas11 ("qz" : Str)
      have m3 := meas11 (⟨#[ch]⟩ : Str)
      have m4 := meas11 (":" : Str)
      have l5 := itS_len (i : Int) (by omega)
      have m5 := meas11 (itS (i : Int))
      rw [l1] at m1
      rw [l2] at m2
      rw [l3] at m3
      rw [l4] at m4
      exact sd_set (d := .str (z ++ (", " : Str) ++ ("qz" : Str) ++ ⟨#[ch]⟩ ++ (":" : Str) ++ itS (i : Int))) (a_catS (a_catS (a_catS (a_catS (a_catS (ev_var rfl) ev_str (by rw [l1]; omega)) ev_str (by rw [cat_len, l1, l2]; omega)) (ev_ixS ev_str (ev_var rfl) (by decide +kernel) hch) (by rw [cat_len, cat_len, l1, l2, l3]; omega)) ev_str (by rw [cat_len, cat_len, cat_len, l1, l2, l3, l4]; omega)) (v_strI (ev_var rfl) (Nat.lt_of_lt_of_le (log2_of (k := 10) (by omega) (by decide)) (by decide))) (by show _ + (itS (i : Int)).length ≤ _; rw [cat_len, cat_len, cat_len, cat_len, l1, l2, l3, l4]; omega)) ⟨_, _, rfl, asc_cat (asc_cat (asc_cat (asc_cat (asc_cat hz (asc_lit (by decide +kernel))) (asc_lit (by decide +kernel))) (asc_one hcl)) (asc_lit (by decide +kernel))) (itS_asc (by omega)), by rw [meas_cat, meas_cat, meas_cat, meas_cat, meas_cat]; omega⟩
    · rintro ρ ⟨z, z6, rfl, hz, hzm⟩
      rw [rangeD_len] at hzm
      have hzl := meas_len z
      have l1 : ("back(" : Str).length = 5 := by decide +kernel
      have l2 : (")" : Str).length = 1 := close_len
      have m1 : meas ("back(" : Str) = 5 := by decide +kernel
      have m2 : meas (")" : Str) = 1 := by decide +kernel
      exact sd_ret (a_catS (a_catS (a_catS ev_str (ev_var rfl) (by rw [l1]; omega)) (ev_var rfl) (by rw [cat_len, l1]; omega)) ev_str (by rw [cat_len, cat_len, l1, l2]; omega)) (hk _ ⟨_, rfl, asc_cat (asc_cat (asc_cat (asc_lit (by decide +kernel)) hta) hz) (asc_lit (by decide +kernel)), by rw [meas_cat, meas_cat, meas_cat, m1, m2]; omega⟩)
  obtain ⟨w, hw, w1, w2, w3⟩ := strs_some ["", "", "\n", " "] (fun z => asc z ∧ meas z ≤ 1 ∧ z.length ≤ 1) (fun z hz => by
    simp only [List.mem_cons, List.not_mem_nil, or_false] at hz
    rcases hz with rfl | rfl | rfl | rfl
    · exact ⟨asc_lit (by decide +kernel), by decide +kernel, by decide +kernel⟩
    · exact ⟨asc_lit (by decide +kernel), by decide +kernel, by decide +kernel⟩
    · exact ⟨asc_lit (by decide +kernel), by decide +kernel, by decide +kernel⟩
    · exact ⟨asc_lit (by decide +kernel), by decide +kernel, by decide +kernel⟩) (k := x / 9 % 4) (by omega) (by show _ < 4; omega)
  exact sd_ret (a_catS (ev_var rfl) (ev_ixSL (EvF.l (evf_lst (ea_cons ev_str (ea_cons ev_str (ea_cons ev_str (ea_cons ev_str ea_nil)))) (by exact Nat.le_of_ble_eq_true rfl))) (by walk_at "ev") hw) (by omega)) (hk _ ⟨_, rfl, asc_cat hta w1, by rw [meas_cat]; omega⟩)
theorem sc_is_name : FnScope ["word", "sign"] ["word"] (defScope s_is_name) := ⟨rfl, rfl, rfl, by decide +kernel, rfl, by decide +kernel, by decide +kernel⟩
theorem ok_is_name (T : Txt K mg A) (hN : base.NoSeer) (hT : P.given.tree = none)  : Ok P w K mg base 1 "is_name" ["word"] (spc K cIsName) := by
  refine T.f_is_name.ok sc_is_name _ (fun ds k hc => by obtain ⟨_, rfl, _⟩ := hc; rfl) (fun cdv A' outer s H vs Q E hr h => ⟨_, (pss_cons (ps_if (pt_not (pt_chain o_le o_le pe_int (pe_callB (c_lenA (K := K)) (by rfl) T.z_len (by decide +kernel) (pa_cons (pv 0) pa_nil)) (pe_gInt rfl T.m_LONGEST_NAME))) (pss_one (ps_ret pe_bl)) pss_nil)
  (pss_one (ps_ret (pe_callB (c_allA (K := K) rfl) (by rfl) T.z_all (by decide +kernel) (pa_cons (pe_lc (own := [("sign", 1)]) rfl sc_is_name.nd (pi_str (pv 0)) (blkOk_by (N := ["word", "sign"]) (sc := defScope s_is_name) (by decide +kernel)) (fun _ _ _ _ _ => (pg_name (i := 1) sc_is_name.nd rfl (by first | exact Or.inl rfl | exact Or.inr rfl))) (fun _ _ _ _ _ => pts_nil) (fun _ _ _ _ _ => (pe_cmpR o_inS (pv 1) (pe_gStr rfl T.m_LETTERS) (by rfl)))) pa_nil))))), body_of h fun ds k hc => ?_⟩)
  obtain ⟨w, rfl, hl, hk⟩ := hc
  show Sd K _ _ _ [.val (.str w), .un] _
  have e : (decide ((1 : Int) ≤ (w.length : Int)) && decide ((w.length : Int) ≤ 12)) = (decide (1 ≤ w.length) && decide (w.length ≤ 12)) := by
    congr 1
    · exact decide_eq_decide.mpr (by omega)
    · exact decide_eq_decide.mpr (by omega)
  unfold isNm at hk
  refine sd_seq (sd_ifS (b := !(decide ((1 : Int) ≤ (w.length : Int)) && decide ((w.length : Int) ≤ 12))) (et_not (et_test (ev_chainI (f := fun i j => decide (i ≤ j)) (g := fun i j => decide (i ≤ j)) ev_int (a_lenS (ev_var rfl) (by omega)) fun _ => ev_int))) (fun z => ?_) (fun z => sd_next ?_))
  · rw [e] at z
    have z' : (decide (1 ≤ w.length) && decide (w.length ≤ 12)) = false := by rw [← Bool.not_not (decide (1 ≤ w.length) && decide (w.length ≤ 12)), z]; rfl
    rw [z', Bool.false_and] at hk
    exact sd_ret ev_bl hk
  · rw [e] at z
    have z' : (decide (1 ≤ w.length) && decide (w.length ≤ 12)) = true := by rw [← Bool.not_not (decide (1 ≤ w.length) && decide (w.length ≤ 12)), z]; rfl
    rw [z', Bool.true_and] at hk
    have hall : (w.cps.toList.map lowB).all id = w.cps.toList.all lowB := by
      rw [List.all_map]
      rfl
    rw [← hall] at hk
    have hll : w.cps.toList.length = w.length := Array.length_toList
    refine sd_ret (v_allL (EvF.l (by
      rw [List.map_map]
      exact f_mapA (enc := fun c : Nat => PyData.str ⟨#[c]⟩) (xs := w.cps.toList) (fun c => PyData.bool (lowB c)) (id_str (ev_var rfl)) (gw_name (by decide)) (fun i c hi => ⟨_, gd_name, Ev.is (v_inS1 (ev_var rfl) ev_str) (by rw [low_in])⟩) (by omega)))) hk
theorem sc_look_at_names : FnScope ["custom", "names", "seen", "name"] ["custom", "names"] (defScope s_look_at_names) := ⟨rfl, rfl, rfl, by decide +kernel, rfl, by decide +kernel, by decide +kernel⟩
theorem ok_look_at_names (T : Txt K mg A) (hN : base.NoSeer) (hT : P.given.tree = none) (fn_claims_of : Ok P w K mg base 22 "claims_of" ["custom"] (spc K (cClaimsOf 20))) (fn_is_name : Ok P w K mg base 1 "is_name" ["word"] (spc K cIsName)) : Ok P w K mg base 23 "look_at_names" ["custom", "names"] (spc K (cLookN A.Unlike A.NoText)) := by
  refine T.f_look_at_names.ok sc_look_at_names _ (fun ds k hc => by obtain ⟨_, _, _, rfl, _⟩ := hc; rfl) (fun cdv A' outer s H vs Q E hr h => ⟨_, (pss_cons (ps_if (pt_cmpR (o_ne (K := K) hr.units) (pe_callB (c_lenA (K := K)) (by rfl) T.z_len (by decide +kernel) (pa_cons (pv 1) pa_nil)) (pe_callB (c_lenA (K := K)) (by rfl) T.z_len (by decide +kernel) (pa_cons (pe_fn fn_claims_of (hr.mono (by decide)) (takes_of rfl rfl rfl rfl) rfl (pa_cons (pv 0) pa_nil)) pa_nil)) (nomark _)) (pss_one (ps_raiseC rfl (takes_of rfl rfl rfl rfl) T.c_Unlike.x T.c_Unlike.g T.c_Unlike.k T.c_Unlike.b T.c_Unlike.t rfl)) pss_nil)
  (pss_cons (ps_set (i := 2) sc_look_at_names.nd rfl (by first | exact Or.inl rfl | exact Or.inr rfl) pe_dnewK)
  (pss_one (ps_for (passes_of rfl) rfl (w_seq (K := K) (pv 1)) (pg_name (i := 3) sc_look_at_names.nd rfl (by first | exact Or.inl rfl | exact Or.inr rfl)) (pss_cons (ps_if (PW.pt (pw_or (pt_not (pt_val (pe_fn fn_is_name (hr.mono (by decide)) (takes_of rfl rfl rfl rfl) rfl (pa_cons (pv 3) pa_nil)))) (pw_or1 (pt_cmp (pc_din (Nat.lt_of_le_of_lt (Nat.add_le_add_left (show 1 ≤ 64 by decide) _) hr.units) (pv 3) (pv 2)))))) (pss_one (ps_raiseC rfl (takes_of rfl rfl rfl rfl) T.c_NoText.x T.c_NoText.g T.c_NoText.k T.c_NoText.b T.c_NoText.t rfl)) pss_nil)
  (pss_one (ps_dput (Nat.lt_of_le_of_lt (Nat.add_le_add_left (show 1 ≤ 64 by decide) _) hr.units) (pv 2) (pv 3) pe_bl rfl))))))), body_of h fun ds k hc => ?_⟩)
  obtain ⟨u, dn, ns, rfl, hdn, hok, hl, hz, h0, h1, h2⟩ := hc
  show Sd K _ _ _ [.val u.d, .val dn, .un, .un] _
  have eL : Ev K (tCB (rLenA K) (tCons (tVar 1) tNil)) [.val u.d, .val dn, .un, .un] (.int (ns.length : Int)) := by
    rw [← List.length_map (f := PyData.str) (as := ns)]
    exact a_lenQ hdn (ev_var rfl)
  refine sd_seq (sd_ifS (b := !decide (ns.length = u.claims.length)) (EvT.is (et_test (ev_neD (d1 := .int (ns.length : Int)) (d2 := .int (u.claims.length : Int)) eL ((a_lenL (EvF.l (evf_call (ea_cons (ev_var rfl) ea_nil) (claimsOf_v (by have := hok.low; omega) (by have := hok.few; omega))))).is (by rw [List.length_map])) rfl rfl)) (by rw [eqv_int]; exact congrArg not (decide_eq_decide.mpr (by omega)))) (fun z => ?_) (fun z => sd_next ?_))
  · refine sd_raise (h0 ?_)
    rw [Bool.not_eq_true', decide_eq_false_iff_not] at z
    unfold lookN
    rw [if_neg z]
  rw [Bool.not_eq_false', decide_eq_true_eq] at z
  unfold lookN at h1 h2
  rw [if_pos z] at h1 h2
  refine sd_seq (sd_setNew (by exact Nat.le_of_ble_eq_true rfl) fun p => ?_)
  refine sd_for (ds := ns.map PyData.str) (fun i ρ => ∃ z3 : Sl, ρ = [.val u.d, .val dn, .fact (.ref p) [p] (SetP p (ns.take i)), z3] ∧ ∀ j, j < i → okN ns j = true) (w_seqQ hdn (ev_var rfl)) ⟨_, rfl, fun j h => absurd h (Nat.not_lt_zero _)⟩ ?_ ?_
  · rintro i d ρ' hd ⟨z3, rfl, hall⟩
    obtain ⟨w, hw, rfl⟩ : ∃ w : Str, ns[i]? = some w ∧ d = .str w := by
      rw [List.getElem?_map] at hd
      cases e : ns[i]? with
      | none => rw [e] at hd; cases hd
      | some w => rw [e] at hd; exact ⟨w, rfl, (Option.some.inj hd).symm⟩
    have hi := getElem?_lt hw
    refine ⟨_, gd_name, ?_⟩
    refine sd_seq (sd_ifS (b := (!isNm w) || (ns.take i).contains w) (et_or (et_not (et_B (ev_call (ea_cons (ev_var rfl) ea_nil) (isName_v (hz w (List.mem_of_getElem? hw)))))) fun _ => et_B (ev_inSet rfl (ev_var rfl))) (fun y => ?_) (fun y => sd_next ?_))
    · refine sd_raise (h1 ?_)
      have e : okNs ns = false := by
        rw [Bool.eq_false_iff]
        intro q
        have := okNs_iff.mp q i hi
        rw [okN_at hw] at this
        rw [Bool.or_eq_true, Bool.not_eq_true'] at y
        rw [Bool.and_eq_true, Bool.not_eq_true'] at this
        rcases y with y | y
        · rw [this.1] at y; cases y
        · rw [this.2] at y; cases y
      rw [e]
      rfl
    · rw [Bool.or_eq_false_iff, Bool.not_eq_false'] at y
      refine sd_putSet rfl (ev_var rfl) ev_bl (by rw [List.length_take]; omega) ⟨.val (.str w), ?_, fun j hj => ?_⟩
      · rw [List.take_succ, hw]
        rfl
      · by_cases e : j = i
        · rw [e, okN_at hw, y.1, y.2]
          rfl
        · exact hall j (by omega)
  · rintro ρ ⟨z3, rfl, hall⟩
    rw [List.length_map] at hall
    refine h2 ?_
    rw [if_pos (okNs_iff.mpr hall)]
theorem sc_Reader___init__ : FnScope ["self", "text"] ["self", "text"] (defScope s_Reader___init__) := ⟨rfl, rfl, rfl, by decide +kernel, rfl, by decide +kernel, by decide +kernel⟩
theorem ok_Reader___init__ (T : Txt K mg A) (hN : base.NoSeer) (hT : P.given.tree = none)  : OkI P w K mg base 1 A.Reader ["self", "text"] (spG K (cInitR K A.Reader)) := by
  refine T.f_Reader___init__.okG sc_Reader___init__ _ (spG_len (n := 2) fun ρ k hc => by obtain ⟨_, _, _, rfl, _⟩ := hc; rfl) (fun cdv A' outer s H vs Q E hr h => ⟨_, (pss_cons (b_sfld (K := K) (pv 0) (pv 1) rfl)
  (pss_cons (b_sfld (K := K) (pv 0) pe_int rfl)
  (pss_one (b_sfld (K := K) (pv 0) (pe_lst pa_nil) rfl)))), body_ofG 2 0 (by decide) (fun ρ k hc => by obtain ⟨_, _, _, rfl, _⟩ := hc; rfl) h fun ρ k hc => ?_⟩)
  obtain ⟨x, dx, t, rfl, hk⟩ := hc
  show Sd K _ _ _ [.fact (.ref x) [x] (ObjP K 0 A.Reader x dx [] (fun _ => none)), .val (.str t)] _
  refine sd_seq (sd_fldD (m := 1) rfl (ev_var rfl) T.cls_Reader T.na_Reader_text (by decide) (by exact Nat.le_refl _) ?_)
  refine sd_seq (sd_fldD (m := 2) (d := .int 0) rfl ev_int T.cls_Reader T.na_Reader_spot (by decide) (by rw [put_ne st_]; exact Nat.le_refl _) ?_)
  refine sd_fldO (m := 3) (ds := []) rfl (evf_lst ea_nil (by exact Nat.le_of_ble_eq_true rfl)) T.cls_Reader T.na_Reader_called (by decide) (by rw [put_ne cs_, put_ne ct_]; exact Nat.le_refl _) fun p => ?_
  have e : ((FF.put (FF.put (fun _ => none) "text" (.dat (.str t))) "spot" (.dat (.int 0))).put "called" (.own p [])) = RdF t 0 p [] := by
    funext g
    unfold FF.put RdF
    by_cases h1 : g = "called"
    · rw [if_pos h1, h1, if_neg ct_, if_neg cs_, if_pos rfl]
      rfl
    · rw [if_neg h1, if_neg h1]
      by_cases h2 : g = "spot"
      · rw [if_pos h2, h2, if_neg st_, if_pos rfl]
        rfl
      · rw [if_neg h2, if_neg h2]
  have h := hk p
  unfold RdS at h
  rw [← e] at h
  exact h
theorem sc_number_in : FnScope ["word", "sign"] ["word"] (defScope s_number_in) := ⟨rfl, rfl, rfl, by decide +kernel, rfl, by decide +kernel, by decide +kernel⟩
theorem ok_number_in (T : Txt K mg A) (hN : base.NoSeer) (hT : P.given.tree = none)  : OkN P w K mg base 1 "number_in" ["word"] (spc K (cNumIn A.NoText)) := by
  refine T.f_number_in.okN sc_number_in _ (fun ds k hc => by obtain ⟨_, rfl, _⟩ := hc; rfl) (fun cdv A' outer s H vs Q E hr h => ⟨_, (pss_cons (ps_if (PW.pt (pw_or (pt_not (pt_chain o_le o_le pe_int (pe_callB (c_lenA (K := K)) (by rfl) T.z_len (by decide +kernel) (pa_cons (pv 0) pa_nil)) (pe_gInt rfl T.m_MOST_FIGURES))) (pw_or1 (PW.pt (pw_and (pt_cmpR (o_eq (K := K) hr.units) (pe_ix (i_any (K := K)) (pv 0) pe_int (fun _ _ => rfl)) pe_str (nomark _)) (pw_and1 (pt_cmpR o_gt (pe_callB (c_lenA (K := K)) (by rfl) T.z_len (by decide +kernel) (pa_cons (pv 0) pa_nil)) pe_int (nomark _)))))))) (pss_one (ps_raiseCN rfl (L2N.takes_of rfl rfl rfl rfl) T.c_NoText.x T.c_NoText.g T.c_NoText.k T.c_NoText.b T.c_NoText.t rfl)) pss_nil)
  (pss_cons (ps_for (passes_of rfl) rfl (pi_str (pv 0)) (pg_name (i := 1) sc_number_in.nd rfl (by first | exact Or.inl rfl | exact Or.inr rfl)) (pss_one (ps_if (pt_cmpR o_notInS (pv 1) (pe_gStr rfl T.m_FIGURES) (by rfl)) (pss_one (ps_raiseCN rfl (L2N.takes_of rfl rfl rfl rfl) T.c_NoText.x T.c_NoText.g T.c_NoText.k T.c_NoText.b T.c_NoText.t rfl)) pss_nil)))
  (pss_one (ps_ret (pe_callTy (c_intS) (by rfl) T.z_int (by decide +kernel) (pa_cons (pv 0) pa_nil)))))), body_of h fun ds k hc => ?_⟩)
  obtain ⟨w, rfl, hl, ha, hx, hv⟩ := hc
  show Sd K _ _ _ [.val (.str w), .un] _
  have hll : w.cps.toList.length = w.length := Array.length_toList
  have hok : okNum w = ((decide (1 ≤ w.length) && decide (w.length ≤ 13)) && (!(decide (w.cps.toList.head? = some 48) && decide (1 < w.length)) && digB w)) := rfl
  by_cases hA : (decide (1 ≤ w.length) && decide (w.length ≤ 13)) = true
  · have hA' := hA
    rw [Bool.and_eq_true, decide_eq_true_eq, decide_eq_true_eq] at hA'
    obtain ⟨c, cs, hcs⟩ : ∃ c cs, w.cps.toList = c :: cs := by
      cases e : w.cps.toList with
      | nil => rw [e] at hll; simp at hll; omega
      | cons c cs => exact ⟨c, cs, rfl⟩
    have hat : atI w.cps.toList 0 = some c := atI_nat (j := 0) (by rw [hcs]; rfl)
    have hc128 := ha c (by rw [hcs]; exact List.mem_cons_self)
    have hhd : decide (w.cps.toList.head? = some 48) = decide (c = 48) := by
      rw [hcs]
      exact decide_eq_decide.mpr ⟨fun h => Option.some.inj h, fun h => by rw [h]; rfl⟩
    rw [hA, Bool.true_and, hhd] at hok
    have chA : (decide ((1 : Int) ≤ (w.length : Int)) && decide ((w.length : Int) ≤ 13)) = true := by
      rw [decide_eq_true (by omega), decide_eq_true (by omega)]
      rfl
    refine sd_seq (sd_ifS (b := (!(decide ((1 : Int) ≤ (w.length : Int)) && decide ((w.length : Int) ≤ 13))) || (decide (c = 48) && decide ((1 : Int) < (w.length : Int)))) (et_or (et_not (et_test (ev_chainI (f := fun i j => decide (i ≤ j)) (g := fun i j => decide (i ≤ j)) ev_int (a_lenS (ev_var rfl) (by omega)) fun _ => ev_int))) fun _ => et_and (EvT.is (et_test (ev_eqS (a := ⟨#[c]⟩) (b := "0") (ev_ixS (ev_var rfl) ev_int (by omega) hat) ev_str (one_shaped c hc128) (by decide +kernel))) (one_eq c 48)) fun _ => et_test (v_gt (a_lenS (ev_var rfl) (by omega)) ev_int)) (fun z => ?_) (fun z => sd_next ?_))
    · rw [chA, Bool.not_true, Bool.false_or, Bool.and_eq_true, decide_eq_true_eq, decide_eq_true_eq] at z
      refine sd_raise (hx ?_)
      rw [hok, decide_eq_true z.1, decide_eq_true (show 1 < w.length by omega)]
      rfl
    · rw [chA, Bool.not_true, Bool.false_or] at z
      have z2 : (decide (c = 48) && decide (1 < w.length)) = false := by
        rw [← z]
        congr 1
        exact decide_eq_decide.mpr (by omega)
      rw [z2, Bool.not_false, Bool.true_and] at hok
      refine sd_seq (sd_for (ds := signsD w) (fun i ρ => (∃ z1 : Sl, ρ = [.val (.str w), z1]) ∧ ∀ (j : Nat) (c : Nat), j < i → w.cps.toList[j]? = some c → (decide (48 ≤ c) && decide (c ≤ 57)) = true) (id_str (ev_var rfl)) ⟨⟨_, rfl⟩, fun j c h => absurd h (Nat.not_lt_zero _)⟩ ?_ ?_)
      · rintro i d ρ' hd ⟨⟨z1, rfl⟩, hi0⟩
        obtain ⟨c', hc', rfl⟩ : ∃ c', w.cps.toList[i]? = some c' ∧ d = .str ⟨#[c']⟩ := by
          unfold signsD at hd
          rw [List.getElem?_map] at hd
          cases e : w.cps.toList[i]? with
          | none => rw [e] at hd; cases hd
          | some c' => rw [e] at hd; exact ⟨c', rfl, (Option.some.inj hd).symm⟩
        refine ⟨_, gd_name, ?_⟩
        refine sd_ifS (b := !(decide (48 ≤ c') && decide (c' ≤ 57))) (EvT.is (et_test (v_niS (ev_var rfl) ev_str)) (by rw [dig_in])) (fun z => ?_) (fun z => sd_next ⟨⟨_, rfl⟩, fun j c2 h1 h2 => ?_⟩)
        · refine sd_raise (hx ?_)
          rw [hok, Bool.eq_false_iff]
          intro y
          have := List.all_eq_true.mp y c' (List.mem_of_getElem? hc')
          rw [this] at z
          cases z
        · by_cases e : j < i
          · exact hi0 j c2 e h2
          · obtain rfl : j = i := by omega
            rw [hc'] at h2
            cases h2
            simpa using z
      · rintro ρ ⟨⟨z1, rfl⟩, hi0⟩
        have hlen : (signsD w).length = w.cps.toList.length := by unfold signsD; rw [List.length_map]
        rw [hlen] at hi0
        have hdig : digB w = true := List.all_eq_true.mpr fun c hc => by
          obtain ⟨j, hj⟩ := List.mem_iff_getElem?.mp hc
          exact hi0 j c (getElem?_lt hj) hj
        rw [hdig] at hok
        exact sd_ret (v_intS (ev_var rfl) (num_text hok) (by omega)) (hv hok)
  · have hA' : (decide (1 ≤ w.length) && decide (w.length ≤ 13)) = false := Bool.eq_false_iff.mpr hA
    rw [hA', Bool.false_and] at hok
    have chA : (decide ((1 : Int) ≤ (w.length : Int)) && decide ((w.length : Int) ≤ 13)) = false := by
      rw [← hA']
      congr 1
      · exact decide_eq_decide.mpr (by omega)
      · exact decide_eq_decide.mpr (by omega)
    refine sd_seq (sd_ifS (b := true) (EvT.is (et_or (y := true) (et_not (et_test (ev_chainI (f := fun i j => decide (i ≤ j)) (g := fun i j => decide (i ≤ j)) ev_int (a_lenS (ev_var rfl) (by omega)) fun _ => ev_int))) fun z => by rw [chA] at z; cases z) (by rw [chA]; rfl)) (fun _ => sd_raise (hx hok)) (fun z => nomatch z))
theorem sc_Reader_run_of : FnScope ["self", "signs", "begun"] ["self", "signs"] (defScope s_Reader_run_of) := ⟨rfl, rfl, rfl, by decide +kernel, rfl, by decide +kernel, by decide +kernel⟩
theorem ok_Reader_run_of (T : Txt K mg A) (hN : base.NoSeer) (hT : P.given.tree = none)  : OkMN P w K mg base 1 A.Reader "run_of" ["self", "signs"] (spG K (cRunOf K A.Reader)) := by
  refine T.f_Reader_run_of.okGN sc_Reader_run_of _ (spG_len (n := 2) fun ρ k hc => by obtain ⟨_, _, _, _, _, _, _, rfl, _⟩ := hc; rfl) (fun cdv A' outer s H vs Q E hr h => ⟨_, (pss_cons (ps_set (i := 2) sc_Reader_run_of.nd rfl (by first | exact Or.inl rfl | exact Or.inr rfl) (b_fld (K := K) (pv 0) rfl))
  (pss_cons (ps_while (passes_of rfl) (PW.pt (pw_and (pt_cmpR o_lt (b_fld (K := K) (pv 0) rfl) (pe_callB (c_lenA (K := K)) (by rfl) T.z_len (by decide +kernel) (pa_cons (b_fld (K := K) (pv 0) rfl) pa_nil)) (nomark _)) (pw_and1 (pt_cmpR o_inS (pe_ix (i_any (K := K)) (b_fld (K := K) (pv 0) rfl) (b_fld (K := K) (pv 0) rfl) (fun _ _ => rfl)) (pv 1) (by rfl))))) (pss_one (b_sfld (K := K) (pv 0) (pe_op (o_plus (K := K)) (b_fld (K := K) (pv 0) rfl) pe_int) rfl)))
  (pss_one (ps_ret (pe_slice (s_any (K := K)) (b_fld (K := K) (pv 0) rfl) (po_some (pv 2)) (po_some (b_fld (K := K) (pv 0) rfl))))))), body_ofG 2 0 (by decide) (fun ρ k hc => by obtain ⟨_, _, _, _, _, _, _, rfl, _⟩ := hc; rfl) h fun ρ k hc => ?_⟩)
  obtain ⟨x, dx, p, t, s, n, zs, rfl, hn, hl, hk⟩ := hc
  show Sd K _ _ _ [RdS K A.Reader x dx p t n zs, .val (.str s), .un] _
  have fT : ∀ (m : Nat) (ρ : En), ρ[0]? = some (RdS K A.Reader x dx p t m zs) → Ev K (tFld K (tVar 0) "text") ρ (.str t) := fun m ρ h => ev_fld h rdF_text T.cls_Reader T.na_Reader_text
  have fS : ∀ (m : Nat) (ρ : En), ρ[0]? = some (RdS K A.Reader x dx p t m zs) → Ev K (tFld K (tVar 0) "spot") ρ (.int (m : Int)) := fun m ρ h => ev_fld h rdF_spot T.cls_Reader T.na_Reader_spot
  refine sd_seq (sd_set (fS n _ rfl) ?_)
  have hll : t.cps.toList.length = t.length := Array.length_toList
  refine sd_seq (sd_whileN (fun q ρ => ∃ m, q = t.length - m ∧ n ≤ m ∧ m ≤ t.length ∧ runEnd t s m = runEnd t s n ∧ ρ = [RdS K A.Reader x dx p t m zs, .val (.str s), .val (.int (n : Int))]) (t.length - n) ⟨n, rfl, Nat.le_refl _, hn, rfl, rfl⟩ ?_)
  rintro q ρ ⟨m, rfl, hm, hmt, hr, rfl⟩
  by_cases h : m < t.length
  · obtain ⟨c, hc⟩ : ∃ c, t.cps.toList[m]? = some c := ⟨_, List.getElem?_eq_getElem (by omega)⟩
    have hat : atI t.cps.toList (m : Int) = some c := atI_nat hc
    have hst := run_step (s := s) hc
    refine ⟨decide ((m : Int) < (t.length : Int)) && decide (c ∈ s.cps.toList), et_and (et_test (v_lt (fS m _ rfl) (a_lenS (fT m _ rfl) (by omega)))) fun _ => et_test (v_inS1 (ev_ixS (fT m _ rfl) (fS m _ rfl) (by omega) hat) (ev_var rfl)), fun z => ?_, fun z => ?_⟩
    · rw [Bool.and_eq_true, decide_eq_true_eq, decide_eq_true_eq] at z
      rw [if_pos z.2] at hst
      refine sd_fldD (m := 3) (d := .int ((m + 1 : Nat) : Int)) rfl (Ev.is (a_add (fS m _ rfl) ev_int) (by congr 1)) T.cls_Reader T.na_Reader_spot (by decide) (by rw [rdF_spot]; exact Nat.le_refl _) ⟨t.length - (m + 1), by omega, m + 1, rfl, by omega, by omega, by rw [← hst]; exact hr, ?_⟩
      rw [rdF_put]
      rfl
    · have hz : runEnd t s n = m := by
        rw [decide_eq_true (by omega), Bool.true_and, decide_eq_false_iff_not] at z
        rw [← hr, hst, if_neg z]
      rw [hz] at hk
      exact sd_retD (Ev.is (a_slS (fT m _ rfl) (by omega) (o_some (ev_var rfl)) (o_some (fS m _ rfl))) (by rw [sub_cut hn])) ⟨_, _, rfl, rfl, hk⟩
  · have hz : runEnd t s n = m := by rw [← hr, run_end (by omega)]
    rw [hz] at hk
    refine ⟨false, EvT.is (et_and (x := decide ((m : Int) < (t.length : Int))) (y := false) (et_test (v_lt (fS m _ rfl) (a_lenS (fT m _ rfl) (by omega)))) fun w => absurd (of_decide_eq_true w) (by omega)) (by rw [Bool.and_false]), (fun z => nomatch z), fun _ => ?_⟩
    exact sd_retD (Ev.is (a_slS (fT m _ rfl) (by omega) (o_some (ev_var rfl)) (o_some (fS m _ rfl))) (by rw [sub_cut hn])) ⟨_, _, rfl, rfl, hk⟩
theorem sc_Reader_meets : FnScope ["self", "signs"] ["self", "signs"] (defScope s_Reader_meets) := ⟨rfl, rfl, rfl, by decide +kernel, rfl, by decide +kernel, by decide +kernel⟩
theorem ok_Reader_meets (T : Txt K mg A) (hN : base.NoSeer) (hT : P.given.tree = none)  : OkMN P w K mg base 1 A.Reader "meets" ["self", "signs"] (spG K (cMeets K A.Reader)) := by
  refine T.f_Reader_meets.okGN sc_Reader_meets _ (spG_len (n := 2) fun ρ k hc => by obtain ⟨_, _, _, _, _, _, _, rfl, _⟩ := hc; rfl) (fun cdv A' outer s H vs Q E hr h => ⟨_, (pss_cons (ps_if (pt_cmpR (o_ne (K := K) hr.units) (pe_slice (s_any (K := K)) (b_fld (K := K) (pv 0) rfl) (po_some (b_fld (K := K) (pv 0) rfl)) (po_some (pe_op (o_plus (K := K)) (b_fld (K := K) (pv 0) rfl) (pe_callB (c_lenA (K := K)) (by rfl) T.z_len (by decide +kernel) (pa_cons (pv 1) pa_nil))))) (pv 1) (nomark _)) (pss_one (ps_ret pe_bl)) pss_nil)
  (pss_cons (b_sfld (K := K) (pv 0) (pe_op (o_plus (K := K)) (b_fld (K := K) (pv 0) rfl) (pe_callB (c_lenA (K := K)) (by rfl) T.z_len (by decide +kernel) (pa_cons (pv 1) pa_nil))) rfl)
  (pss_one (ps_ret pe_bl)))), body_ofG 2 0 (by decide) (fun ρ k hc => by obtain ⟨_, _, _, _, _, _, _, rfl, _⟩ := hc; rfl) h fun ρ k hc => ?_⟩)
  obtain ⟨x, dx, p, t, s, n, zs, rfl, hn, hl, hsl, hta, hsa, hk⟩ := hc
  show Sd K _ _ _ [RdS K A.Reader x dx p t n zs, .val (.str s)] _
  have fT : ∀ (m : Nat) (ρ : En), ρ[0]? = some (RdS K A.Reader x dx p t m zs) → Ev K (tFld K (tVar 0) "text") ρ (.str t) := fun m ρ h => ev_fld h rdF_text T.cls_Reader T.na_Reader_text
  have fS : ∀ (m : Nat) (ρ : En), ρ[0]? = some (RdS K A.Reader x dx p t m zs) → Ev K (tFld K (tVar 0) "spot") ρ (.int (m : Int)) := fun m ρ h => ev_fld h rdF_spot T.cls_Reader T.na_Reader_spot
  have e : meetsB t s n = decide (subS t n (n + s.length) = s) := rfl
  refine sd_seq (sd_ifS (b := !meetsB t s n) (EvT.is (et_test (ev_neD (d1 := .str (subS t n (n + s.length))) (d2 := .str s) (Ev.is (a_slS (fT n _ rfl) (by omega) (o_some (fS n _ rfl)) (o_some (a_add (fS n _ rfl) (a_lenS (ev_var rfl) (by omega))))) (by rw [show (n : Int) + (s.length : Int) = ((n + s.length : Nat) : Int) by omega, sub_cut hn])) (ev_var rfl) (asc_sh (asc_sub hta _ _)) (asc_sh hsa))) (by rw [str_eqv, e])) (fun z => ?_) (fun z => sd_next ?_))
  · rw [Bool.not_eq_true'] at z
    rw [z] at hk
    exact sd_retD ev_bl ⟨_, _, rfl, rfl, hk⟩
  · rw [Bool.not_eq_false'] at z
    rw [z, if_pos rfl] at hk
    refine sd_seq (sd_fldD (m := 3) (d := .int ((n + s.length : Nat) : Int)) rfl (Ev.is (a_add (fS n _ rfl) (a_lenS (ev_var rfl) (by omega))) (by congr 1)) T.cls_Reader T.na_Reader_spot (by decide) (by rw [rdF_spot]; exact Nat.le_refl _) ?_)
    rw [rdF_put]
    exact sd_retD ev_bl ⟨_, _, rfl, rfl, hk⟩
theorem sc_Reader_must_meet : FnScope ["self", "signs"] ["self", "signs"] (defScope s_Reader_must_meet) := ⟨rfl, rfl, rfl, by decide +kernel, rfl, by decide +kernel, by decide +kernel⟩
theorem ok_Reader_must_meet (T : Txt K mg A) (hN : base.NoSeer) (hT : P.given.tree = none) (fnN_Reader_meets : OkMN P w K mg base 1 A.Reader "meets" ["self", "signs"] (spG K (cMeets K A.Reader))) : OkMN P w K mg base 2 A.Reader "must_meet" ["self", "signs"] (spG K (cMust K A.Reader A.NoText)) := by
  refine T.f_Reader_must_meet.okGN sc_Reader_must_meet _ (spG_len (n := 2) fun ρ k hc => by obtain ⟨_, _, _, _, _, _, _, rfl, _⟩ := hc; rfl) (fun cdv A' outer s H vs Q E hr h => ⟨_, (pss_one (ps_if (pt_not (pt_val (pe_mthN fnN_Reader_meets T.cls_Reader (hr.mono (by decide)) (L2N.takes_of rfl rfl rfl rfl) (pv 0) (pa_cons (pv 1) pa_nil)))) (pss_one (ps_raiseCN rfl (L2N.takes_of rfl rfl rfl rfl) T.c_NoText.x T.c_NoText.g T.c_NoText.k T.c_NoText.b T.c_NoText.t rfl)) pss_nil)), body_ofG 2 0 (by decide) (fun ρ k hc => by obtain ⟨_, _, _, _, _, _, _, rfl, _⟩ := hc; rfl) h fun ρ k hc => ?_⟩)
  obtain ⟨x, dx, p, t, s, n, zs, rfl, hn, hl, hsl, hta, hsa, h1, h2⟩ := hc
  show Sd K _ _ _ [RdS K A.Reader x dx p t n zs, .val (.str s)] _
  refine sd_ifNG (evg_meth (c := cMeets K A.Reader) (k := ⟨fun f s' => f = RdS K A.Reader x dx p t (if meetsB t s n then n + s.length else n) zs ∧ s' = .val (.bool (meetsB t s n)), fun _ _ => False⟩) (i := 0) rfl (objP_meth (rdF_no (by decide +kernel) (by decide +kernel) (by decide +kernel))) (ea_cons (ev_var rfl) ea_nil) ⟨x, dx, p, t, s, n, zs, rfl, hn, hl, hsl, hta, hsa, rfl, rfl⟩ (fun f s h => .inr ⟨_, _, h.1⟩) (fun y f h => h.elim)) (fun ρ' h => ?_) (fun c ρ' h => ?_)
  · obtain ⟨f, s', ⟨rfl, rfl⟩, rfl⟩ := h
    refine ⟨_, _, rfl, rfl, fun z => ?_, fun z => sd_next ?_⟩
    · have h2 := h2 z
      rw [z]
      exact sd_raise h2
    · have h1 := h1 z
      rw [z]
      exact h1
  · obtain ⟨f, h, _⟩ := h
    exact h.elim
theorem sc_Reader_custom_here : FnScope ["self", "deep", "word", "weights", "kids", "more"] ["self", "deep"] (defScope s_Reader_custom_here) := ⟨rfl, rfl, rfl, by decide +kernel, rfl, by decide +kernel, by decide +kernel⟩
theorem no_Reader_custom_here {K : Frag} {A : Ad} {ρ : En} {k : Kg} (h : cHere K A.Reader [A.NoText, A.BadClaim, A.BadWay, A.BadWeights, A.TooMany] 0 ρ k) : False := no_here h
theorem parse_colon {t : Str} {d n : Nat} {zs : List Str} (h : meetsB t ":" (runEnd t LET n) = true) : parse t d n zs = match numAt t (runEnd t LET n + 1) with
    | none => none
    | some (v, m) => if v ≤ 1000000000 then some (.boat v, m, zs ++ [subS t n (runEnd t LET n)]) else none := by
  cases d <;> (unfold parse; rw [if_pos h]; all_goals (cases numAt t (runEnd t LET n + 1) <;> rfl))
theorem parse_shut {t : Str} {d n : Nat} {zs : List Str} (h : meetsB t ":" (runEnd t LET n) = false) (h2 : meetsB t "(" (runEnd t LET n) = false) : parse t d n zs = none := by
  cases d <;> (unfold parse; rw [if_neg (by rw [h]; decide), if_neg (by rw [h2]; decide)])
theorem parse_deep {t : Str} {n : Nat} {zs : List Str} (h : meetsB t ":" (runEnd t LET n) = false) : parse t 0 n zs = none := by
  unfold parse
  rw [if_neg (by rw [h]; decide)]
  split <;> rfl
theorem parse_open {t : Str} {d n : Nat} {zs : List Str} (h : meetsB t ":" (runEnd t LET n) = false) (h2 : meetsB t "(" (runEnd t LET n) = true) : parse t (d + 1) n zs = parseK (parse t d) t (subS t n (runEnd t LET n)) (t.length + 1) (runEnd t LET n + 1) zs [] [] := by
  conv => lhs; unfold parse
  rw [if_neg (by rw [h]; decide), if_pos h2]
theorem st_Reader_custom_here (dd : Nat) (T : Txt K mg A) (hN : base.NoSeer) (hT : P.given.tree = none) (fnN_Reader_run_of : OkMN P w K mg base 1 A.Reader "run_of" ["self", "signs"] (spG K (cRunOf K A.Reader))) (fnN_Reader_meets : OkMN P w K mg base 1 A.Reader "meets" ["self", "signs"] (spG K (cMeets K A.Reader))) (fnN_boat : OkN P w K mg base 1 "boat" ["claim"] (spc K (cBoat A.BadClaim))) (fnN_number_in : OkN P w K mg base 1 "number_in" ["word"] (spc K (cNumIn A.NoText))) (fnN_Reader_must_meet : OkMN P w K mg base 2 A.Reader "must_meet" ["self", "signs"] (spG K (cMust K A.Reader A.NoText))) (fnN_knot : OkN P w K mg base 23 "knot" ["way", "weights", "kids"] (spc K (cKnot A.BadWay A.BadWeights A.TooMany))) (fnN_Reader_custom_here : OkMN P w K mg base (24 + dd) A.Reader "custom_here" ["self", "deep"] (spG K ((cHere K A.Reader [A.NoText, A.BadClaim, A.BadWay, A.BadWeights, A.TooMany]) dd))) : OkMN P w K mg base (24 + (dd + 1)) A.Reader "custom_here" ["self", "deep"] (spG K ((cHere K A.Reader [A.NoText, A.BadClaim, A.BadWay, A.BadWeights, A.TooMany]) (dd + 1))) := by
  refine T.f_Reader_custom_here.okGN (k := 24 + dd) sc_Reader_custom_here _ (spG_len (n := 2) fun ρ k hc => by obtain ⟨_, _, _, _, _, _, _, _, rfl, _⟩ := hc; rfl) (fun cdv A' outer s H vs Q E hr h => ⟨_, (pss_cons (ps_set (i := 2) sc_Reader_custom_here.nd rfl (by first | exact Or.inl rfl | exact Or.inr rfl) (pe_mthN fnN_Reader_run_of T.cls_Reader (hr.mono (by omega)) (L2N.takes_of rfl rfl rfl rfl) (pv 0) (pa_cons (pe_gStr rfl T.m_LETTERS) pa_nil)))
  (pss_cons (ps_if (pt_val (pe_mthN fnN_Reader_meets T.cls_Reader (hr.mono (by omega)) (L2N.takes_of rfl rfl rfl rfl) (pv 0) (pa_cons pe_str pa_nil))) (pss_cons (ps_expr (b_m (K := K) PySem.F.plainAttrs_list PySem.F.slot_list_append PySem.F.type_list_append mt_append (b_fld (K := K) (pv 0) rfl) (pa_cons (pv 2) pa_nil)))
  (pss_one (ps_ret (pe_fnN fnN_boat (hr.mono (by omega)) (L2N.takes_of rfl rfl rfl rfl) rfl (pa_cons (pe_fnN fnN_number_in (hr.mono (by omega)) (L2N.takes_of rfl rfl rfl rfl) rfl (pa_cons (pe_mthN fnN_Reader_run_of T.cls_Reader (hr.mono (by omega)) (L2N.takes_of rfl rfl rfl rfl) (pv 0) (pa_cons (pe_gStr rfl T.m_FIGURES) pa_nil)) pa_nil)) pa_nil))))) pss_nil)
  (pss_cons (ps_expr (pe_mthN fnN_Reader_must_meet T.cls_Reader (hr.mono (by omega)) (L2N.takes_of rfl rfl rfl rfl) (pv 0) (pa_cons pe_str pa_nil)))
  (pss_cons (ps_if (pt_cmpR (o_eq (K := K) hr.units) (pv 1) (pe_gInt rfl T.m_MOST_DEEP_written) (nomark _)) (pss_one (ps_raiseCN rfl (L2N.takes_of rfl rfl rfl rfl) T.c_NoText.x T.c_NoText.g T.c_NoText.k T.c_NoText.b T.c_NoText.t rfl)) pss_nil)
  (pss_cons (ps_set (i := 3) sc_Reader_custom_here.nd rfl (by first | exact Or.inl rfl | exact Or.inr rfl) (pe_lst pa_nil))
  (pss_cons (ps_set (i := 4) sc_Reader_custom_here.nd rfl (by first | exact Or.inl rfl | exact Or.inr rfl) (pe_lst pa_nil))
  (pss_cons (ps_set (i := 5) sc_Reader_custom_here.nd rfl (by first | exact Or.inl rfl | exact Or.inr rfl) pe_bl)
  (pss_cons (ps_while (passes_of rfl) (pt_val (pv 5)) (pss_cons (ps_if (pt_cmpR (o_in (K := K)) (pv 2) (pe_glob (v := .ref A.k_WEIGHED_written) rfl T.m_WEIGHED_written rfl) (by rfl)) (pss_cons (ps_expr (b_m (K := K) PySem.F.plainAttrs_list PySem.F.slot_list_append PySem.F.type_list_append mt_append (pv 3) (pa_cons (pe_fnN fnN_number_in (hr.mono (by omega)) (L2N.takes_of rfl rfl rfl rfl) rfl (pa_cons (pe_mthN fnN_Reader_run_of T.cls_Reader (hr.mono (by omega)) (L2N.takes_of rfl rfl rfl rfl) (pv 0) (pa_cons (pe_gStr rfl T.m_FIGURES) pa_nil)) pa_nil)) pa_nil)))
  (pss_one (ps_expr (pe_mthN fnN_Reader_must_meet T.cls_Reader (hr.mono (by omega)) (L2N.takes_of rfl rfl rfl rfl) (pv 0) (pa_cons pe_str pa_nil))))) pss_nil)
  (pss_cons (ps_expr (b_m (K := K) PySem.F.plainAttrs_list PySem.F.slot_list_append PySem.F.type_list_append mt_append (pv 4) (pa_cons (pe_mthN fnN_Reader_custom_here T.cls_Reader (hr.mono (by omega)) (L2N.takes_of rfl rfl rfl rfl) (pv 0) (pa_cons (pe_op (o_plus (K := K)) (pv 1) pe_int) pa_nil)) pa_nil)))
  (pss_one (ps_set (i := 5) sc_Reader_custom_here.nd rfl (by first | exact Or.inl rfl | exact Or.inr rfl) (pe_mthN fnN_Reader_meets T.cls_Reader (hr.mono (by omega)) (L2N.takes_of rfl rfl rfl rfl) (pv 0) (pa_cons pe_str pa_nil)))))))
  (pss_cons (ps_expr (pe_mthN fnN_Reader_must_meet T.cls_Reader (hr.mono (by omega)) (L2N.takes_of rfl rfl rfl rfl) (pv 0) (pa_cons pe_str pa_nil)))
  (pss_one (ps_ret (pe_fnN fnN_knot (hr.mono (by omega)) (L2N.takes_of rfl rfl rfl rfl) rfl (pa_cons (pv 2) (pa_cons (pv 3) (pa_cons (pv 4) pa_nil))))))))))))))), body_ofG 2 0 (by decide) (fun ρ k hc => by obtain ⟨_, _, _, _, _, _, _, _, rfl, _⟩ := hc; rfl) h fun ρ k hc => ?_⟩)
  obtain ⟨x, dx, p, t, n, d, deep, zs, rfl, hdd, hd, hn, hl, hta, hz, h1, h2⟩ := hc
  show Sd K _ _ _ [RdS K A.Reader x dx p t n zs, .val (.int (deep : Int)), .un, .un, .un, .un] _
  have eRun : ∀ (s : Str) (m : Nat) (ys : List Str) (ρ : En) (te : TE), ρ[0]? = some (RdS K A.Reader x dx p t m ys) → Ev K te ρ (.str s) → m ≤ t.length → EvG K (fun cls d _ H => E cls d H) (tMethS A.Reader "run_of" (spG K (cRunOf K A.Reader)) (WE (fun cls d _ H => E cls d H)) (tVar 0) (tCons te tNil)) ρ (fun ρ' => ρ' = ρ.set 0 (RdS K A.Reader x dx p t (runEnd t s m) ys) ++ [.val (.str (subS t m (runEnd t s m)))]) (fun _ _ => False) := fun s m ys ρ te h0 hs hm =>
    (evg_meth (c := cRunOf K A.Reader) (k := ⟨fun f s' => f = RdS K A.Reader x dx p t (runEnd t s m) ys ∧ s' = .val (.str (subS t m (runEnd t s m))), fun _ _ => False⟩) (i := 0) h0 (objP_meth (rdF_no (by decide +kernel) (by decide +kernel) (by decide +kernel))) (ea_cons hs ea_nil) ⟨x, dx, p, t, s, m, ys, rfl, hm, hl, rfl, rfl⟩ (fun f s h => .inr ⟨_, _, h.1⟩) (fun y f h => h.elim)).mono (fun ρ' h => by
      obtain ⟨f, s', ⟨rfl, rfl⟩, rfl⟩ := h
      rfl) fun c ρ' h => by
      obtain ⟨f, h, _⟩ := h
      exact h
  have eMeets : ∀ (s : Str) (m : Nat) (ys : List Str) (ρ : En) (te : TE), ρ[0]? = some (RdS K A.Reader x dx p t m ys) → Ev K te ρ (.str s) → m ≤ t.length → s.length ≤ 100 → asc s → EvG K (fun cls d _ H => E cls d H) (tMethS A.Reader "meets" (spG K (cMeets K A.Reader)) (WE (fun cls d _ H => E cls d H)) (tVar 0) (tCons te tNil)) ρ (fun ρ' => ρ' = ρ.set 0 (RdS K A.Reader x dx p t (if meetsB t s m then m + s.length else m) ys) ++ [.val (.bool (meetsB t s m))]) (fun _ _ => False) := fun s m ys ρ te h0 hs hm hsl hsa =>
    (evg_meth (c := cMeets K A.Reader) (k := ⟨fun f s' => f = RdS K A.Reader x dx p t (if meetsB t s m then m + s.length else m) ys ∧ s' = .val (.bool (meetsB t s m)), fun _ _ => False⟩) (i := 0) h0 (objP_meth (rdF_no (by decide +kernel) (by decide +kernel) (by decide +kernel))) (ea_cons hs ea_nil) ⟨x, dx, p, t, s, m, ys, rfl, hm, hl, hsl, hta, hsa, rfl, rfl⟩ (fun f s h => .inr ⟨_, _, h.1⟩) (fun y f h => h.elim)).mono (fun ρ' h => by
      obtain ⟨f, s', ⟨rfl, rfl⟩, rfl⟩ := h
      rfl) fun c ρ' h => by
      obtain ⟨f, h, _⟩ := h
      exact h
  have eMust : ∀ (s : Str) (m : Nat) (ys : List Str) (ρ : En) (te : TE), ρ[0]? = some (RdS K A.Reader x dx p t m ys) → Ev K te ρ (.str s) → m ≤ t.length → s.length ≤ 100 → asc s → EvG K (fun cls d _ H => E cls d H) (tMethS A.Reader "must_meet" (spG K (cMust K A.Reader A.NoText)) (WE (fun cls d _ H => E cls d H)) (tVar 0) (tCons te tNil)) ρ (fun ρ' => meetsB t s m = true ∧ ρ' = ρ.set 0 (RdS K A.Reader x dx p t (m + s.length) ys) ++ [.val .none]) (fun c ρ' => meetsB t s m = false ∧ c = .ref A.NoText ∧ ρ' = ρ.set 0 (RdS K A.Reader x dx p t m ys)) := fun s m ys ρ te h0 hs hm hsl hsa =>
    (evg_meth (c := cMust K A.Reader A.NoText) (k := ⟨fun f s' => meetsB t s m = true ∧ f = RdS K A.Reader x dx p t (m + s.length) ys ∧ s' = .val .none, fun c f => meetsB t s m = false ∧ c = .ref A.NoText ∧ f = RdS K A.Reader x dx p t m ys⟩) (i := 0) h0 (objP_meth (rdF_no (by decide +kernel) (by decide +kernel) (by decide +kernel))) (ea_cons hs ea_nil) ⟨x, dx, p, t, s, m, ys, rfl, hm, hl, hsl, hta, hsa, fun z => ⟨z, rfl, rfl⟩, fun z => ⟨z, rfl, rfl⟩⟩ (fun f s h => .inr ⟨_, _, h.2.1⟩) (fun y f h => .inr ⟨_, _, h.2.2⟩)).mono (fun ρ' h => by
      obtain ⟨f, s', ⟨hb, rfl, rfl⟩, rfl⟩ := h
      exact ⟨hb, rfl⟩) fun c ρ' h => by
      obtain ⟨f, ⟨hb, rfl, rfl⟩, rfl⟩ := h
      exact ⟨hb, rfl, rfl⟩
  have eNum : ∀ (m : Nat) (ys : List Str) (ρ : En) (te : TE), ρ[0]? = some (RdS K A.Reader x dx p t m ys) → Ev K te ρ (.str FIG) → m ≤ t.length → EvG K (fun cls d _ H => E cls d H) (tCallS (spc K (cNumIn A.NoText)) (WE (fun cls d _ H => E cls d H)) (tCons (tMethS A.Reader "run_of" (spG K (cRunOf K A.Reader)) (WE (fun cls d _ H => E cls d H)) (tVar 0) (tCons te tNil)) tNil)) ρ (fun ρ' => ∃ v m', numAt t m = some (v, m') ∧ ρ' = ρ.set 0 (RdS K A.Reader x dx p t m' ys) ++ [.val (.int v)]) (fun c ρ' => numAt t m = none ∧ c = .ref A.NoText ∧ ∃ m', ρ' = ρ.set 0 (RdS K A.Reader x dx p t m' ys)) := fun m ys ρ te h0 hs hm => by
    have hw90 : (subS t m (runEnd t FIG m)).length ≤ 90000 := by
      have := sub_len (t := t) (i := m) (j := runEnd t FIG m)
      have := run_le (s := FIG) hm
      omega
    have hwa : asc (subS t m (runEnd t FIG m)) := asc_sub hta _ _
    have hN : numAt t m = if okNum (subS t m (runEnd t FIG m)) then some (numOf (subS t m (runEnd t FIG m)), runEnd t FIG m) else none := rfl
    have hR := eRun FIG m ys ρ te h0 hs hm
    generalize subS t m (runEnd t FIG m) = w at hw90 hwa hN hR
    generalize runEnd t FIG m = e at hN hR
    cases ho : okNum w with
    | true =>
      rw [ho, if_pos rfl] at hN
      refine (evg_call1 (c := cNumIn A.NoText) (fun _ _ => kv (.int (numOf w))) hR (fun ρ' h => ⟨_, .str w, h, List.length_set .., numIn_v hw90 hwa ho, fun es q => q.elim⟩)).mono (fun ρ' h => ?_) fun c ρ' h => ?_
      · obtain ⟨ρ1, d, d', hp, hl1, hr, rfl⟩ := h
        obtain rfl : d' = .int (numOf w) := hr
        have := List.append_inj_left' hp rfl
        rw [this]
        exact ⟨_, _, hN, rfl⟩
      · rcases h with h | ⟨d, _, h⟩
        · exact h.elim
        · exact h.elim
    | false =>
      rw [ho] at hN
      have hN : numAt t m = none := hN
      refine (evg_call1 (c := cNumIn A.NoText) (fun _ _ => kx (.ref A.NoText)) hR (fun ρ' h => ⟨_, .str w, h, List.length_set .., numIn_x hw90 hwa ho, fun es q => q.elim⟩)).mono (fun ρ' h => ?_) fun c ρ' h => ?_
      · obtain ⟨ρ1, d, d', hp, hl1, hr, rfl⟩ := h
        exact hr.elim
      · rcases h with h | ⟨d, hp, h⟩
        · exact h.elim
        · obtain rfl : c = .ref A.NoText := h
          exact ⟨hN, rfl, e, List.append_inj_left' hp rfl⟩
  obtain ⟨he1, he2⟩ := run_le (s := LET) hn
  refine sd_seq (sd_setG (j := 2) (eRun LET n zs _ _ rfl ev_str hn) (by exact Nat.le_of_ble_eq_true rfl) (fun ρ' h => ⟨_, _, h, rfl, ?_⟩) (fun c ρ' h => h.elim))
  have hcolon := parse_colon (t := t) (d := d) (n := n) (zs := zs)
  have hshut := parse_shut (t := t) (d := d) (n := n) (zs := zs)
  have hdeep := parse_deep (t := t) (n := n) (zs := zs)
  have hopen := fun d' => parse_open (t := t) (d := d') (n := n) (zs := zs)
  generalize subS t n (runEnd t LET n) = w at hcolon hopen ⊢
  generalize runEnd t LET n = e at *
  show Sd K _ _ _ [RdS K A.Reader x dx p t e zs, .val (.int (deep : Int)), .val (.str w), .un, .un, .un] _
  have a1 : asc ":" := asc_lit (by decide +kernel)
  have fail : parse t d n zs = none → ∀ C ∈ [A.NoText, A.BadClaim, A.BadWay, A.BadWeights, A.TooMany], ∀ (m : Nat) (ys : List Str), k.ex (.ref C) (RdS K A.Reader x dx p t m ys) := h2
  have in0 : A.NoText ∈ [A.NoText, A.BadClaim, A.BadWay, A.BadWeights, A.TooMany] := by simp
  have in1 : A.BadClaim ∈ [A.NoText, A.BadClaim, A.BadWay, A.BadWeights, A.TooMany] := by simp
  refine sd_seq (sd_ifG (eMeets ":" e zs _ _ rfl ev_str he2 (by decide +kernel) a1) (fun ρ' h => ⟨_, meetsB t ":" e, h, rfl, fun z => ?_, fun z => ?_⟩) (fun c ρ' h => h.elim))
  · have hp := hcolon z
    rw [if_pos z, colon_len]
    have hb := meets_at z he2
    rw [colon_len] at hb
    show Sd K _ _ _ [RdS K A.Reader x dx p t (e + 1) zs, .val (.int (deep : Int)), .val (.str w), .un, .un, .un] _
    refine sd_seq (sd_fldAppend (d := .str w) rfl rdF_called (ev_var rfl) T.cls_Reader T.na_Reader_called (by rw [List.length_map]; omega) ?_)
    have ec : zs.map PyData.str ++ [.str w] = (zs ++ [w]).map PyData.str := by rw [List.map_append]; rfl
    rw [ec, rdF_call]
    show Sd K _ _ _ [RdS K A.Reader x dx p t (e + 1) (zs ++ [w]), .val (.int (deep : Int)), .val (.str w), .un, .un, .un] _
    refine sd_retG (evg_call1 (c := cBoat A.BadClaim) (fun _ d => ⟨fun d' => ∃ v, d = .int v ∧ v ≤ 1000000000 ∧ d' = (Cu.boat v).d, fun _ => False, fun y => ∃ v, d = .int v ∧ 1000000000 < v ∧ y = .ref A.BadClaim⟩) (eNum (e + 1) (zs ++ [w]) _ _ rfl ev_str hb) (fun ρ' h => ?_)) (fun ρ' h => ?_) (fun c ρ' h => ?_)
    · obtain ⟨v, m', hv, rfl⟩ := h
      obtain ⟨_, _, v0⟩ := numAt_ok hv hb
      exact ⟨_, .int v, rfl, rfl, ⟨v, rfl, fun q => ⟨v, rfl, by omega, rfl⟩, fun q => ⟨v, rfl, q.2, rfl⟩⟩, fun es q => q⟩
    · obtain ⟨ρ1, d1, d', ⟨v, m', hv, hp1⟩, hl1, ⟨v', rfl, hv', rfl⟩, rfl⟩ := h
      have e1 := List.append_inj_left' hp1 rfl
      have e2 := List.append_inj_right' hp1 rfl
      obtain rfl : v' = v := by cases e2; rfl
      rw [hv] at hp
      simp only [if_pos hv'] at hp
      rw [e1]
      exact ⟨_, _, rfl, rfl, h1 _ _ _ hp⟩
    · rcases h with ⟨hv, rfl, m', rfl⟩ | ⟨d1, ⟨v, m', hv, hp1⟩, ⟨v', rfl, hv', rfl⟩⟩
      · rw [hv] at hp
        exact fail hp _ in0 m' _
      · have e1 := List.append_inj_left' hp1 rfl
        have e2 := List.append_inj_right' hp1 rfl
        obtain rfl : v' = v := by cases e2; rfl
        rw [hv] at hp
        simp only [if_neg (show ¬ v' ≤ 1000000000 by omega)] at hp
        rw [e1]
        exact fail hp _ in1 m' _
  · rw [if_neg (by rw [z]; decide)]
    have a2 : asc "(" := asc_lit (by decide +kernel)
    have a3 : asc ")" := asc_lit (by decide +kernel)
    have a4 : asc " " := asc_lit (by decide +kernel)
    have a5 : asc ", " := asc_lit (by decide +kernel)
    refine sd_next ?_
    show Sd K _ _ _ [RdS K A.Reader x dx p t e zs, .val (.int (deep : Int)), .val (.str w), .un, .un, .un] _
    refine sd_seq (sd_dropG (eMust "(" e zs _ _ rfl ev_str he2 (by decide +kernel) a2) (fun ρ' h => ⟨_, _, h.2, rfl, ?_⟩) (fun c ρ' h => ?_))
    rotate_left
    · obtain ⟨hb, rfl, rfl⟩ := h
      exact fail (hshut z hb) _ in0 e zs
    have hb := h.1
    have hbt := meets_at hb he2
    rw [open_len] at hbt ⊢
    show Sd K _ _ _ [RdS K A.Reader x dx p t (e + 1) zs, .val (.int (deep : Int)), .val (.str w), .un, .un, .un] _
    refine sd_seq (sd_ifS (b := decide ((deep : Int) = 8)) (EvT.is (et_test (ev_eqD (d1 := .int (deep : Int)) (d2 := .int 8) (ev_var rfl) ev_int rfl rfl)) eqv_int) (fun q => ?_) (fun q => sd_next ?_))
    · have q := of_decide_eq_true q
      obtain rfl : d = 0 := by omega
      exact sd_raise (fail (hdeep z) _ in0 (e + 1) zs)
    have q := of_decide_eq_false q
    obtain ⟨d', rfl⟩ : ∃ d', d = d' + 1 := ⟨d - 1, by omega⟩
    have hP := hopen d' z hb
    refine sd_seq (sd_own (ds := []) (evf_lst ea_nil (by exact Nat.le_of_ble_eq_true rfl)) ?_)
    refine sd_seq (sd_own (ds := []) (evf_lst ea_nil (by exact Nat.le_of_ble_eq_true rfl)) ?_)
    refine sd_seq (sd_set (d := .bool true) ev_bl ?_)
    refine sd_seq (sd_whileN (fun μ ρ => ∃ (n1 f : Nat) (ys : List Str) (ws : List Int) (ks : List Cu) (b : Bool), μ = (if b then t.length + 1 - n1 else 0) ∧ n1 ≤ t.length ∧ ys.length ≤ n1 ∧ ws.length ≤ n1 ∧ ks.length ≤ n1 ∧ (∀ k ∈ ks, k.Ok) ∧ ρ = [RdS K A.Reader x dx p t n1 ys, .val (.int (deep : Int)), .val (.str w), .own (ws.map PyData.int), .own (ks.map Cu.d), .val (.bool b)] ∧
      (b = true → t.length < n1 + f ∧ parse t (d' + 1) n zs = parseK (parse t d') t w f n1 ys ws ks) ∧ (b = false → parse t (d' + 1) n zs = if meetsB t ")" n1 then knotR w ws ks (n1 + 1) ys else none)) (t.length + 1 - (e + 1)) ⟨e + 1, t.length + 1, zs, [], [], true, rfl, hbt, by omega, Nat.zero_le _, Nat.zero_le _, (fun k hk => by cases hk), rfl, fun _ => ⟨by omega, hP⟩, (fun y => nomatch y)⟩ ?_)
    rintro μ ρ ⟨n1, f, ys, ws, ks, b, rfl, hn1, hys, hws, hks, hok, rfl, hbt1, hbf⟩
    refine ⟨b, et_B (ev_var rfl), fun y => ?_, fun y => ?_⟩
    · subst y
      obtain ⟨hf, hpk⟩ := hbt1 rfl
      obtain ⟨f', rfl⟩ : ∃ f', f = f' + 1 := ⟨f - 1, by omega⟩
      have hun : parse t (d' + 1) n zs = match (if WEIGHEDL.contains w then wgtAt t n1 else some (0, n1)) with
          | none => none
          | some (v, m) => match parse t d' m ys with
            | none => none
            | some (k, m2, zs2) => if meetsB t ", " m2 then parseK (parse t d') t w f' (m2 + 2) zs2 (if WEIGHEDL.contains w then ws ++ [v] else ws) (ks ++ [k]) else
              if meetsB t ")" m2 then knotR w (if WEIGHEDL.contains w then ws ++ [v] else ws) (ks ++ [k]) (m2 + 1) zs2 else none := by
        rw [hpk]
        rfl
      clear hpk
      refine sd_seq (sd_ifJ (fun ρ => ∃ (v : Int) (m1 : Nat), (if WEIGHEDL.contains w then wgtAt t n1 else some (0, n1)) = some (v, m1) ∧ n1 ≤ m1 ∧ m1 ≤ t.length ∧ ρ = [RdS K A.Reader x dx p t m1 ys, .val (.int (deep : Int)), .val (.str w), .own ((if WEIGHEDL.contains w then ws ++ [v] else ws).map PyData.int), .own (ks.map Cu.d), .val (.bool true)]) (b := WEIGHEDL.contains w) (et_test (a_inS (zs := WEIGHEDL) (.inr rfl) (ev_var rfl) (ev_ref T.d_WEIGHED_written))) (fun y => ?_) (fun y => ?_) ?_)
      · rw [if_pos y] at hun
        rw [if_pos y]
        refine sd_seq (sd_appendG (i := 3) rfl (by rw [List.length_map]; omega) (eNum n1 ys _ _ rfl ev_str hn1) (fun ρ' h => ?_) (fun c ρ' h => ?_))
        rotate_left
        · obtain ⟨hv, rfl, m', rfl⟩ := h
          have hw0 : wgtAt t n1 = none := by unfold wgtAt; rw [hv]
          rw [hw0] at hun
          exact fail hun _ in0 m' ys
        obtain ⟨v, m', hv, rfl⟩ := h
        obtain ⟨v1, v2, v3⟩ := numAt_ok hv hn1
        refine ⟨_, .int v, rfl, rfl, rfl, ?_⟩
        have hw1 : wgtAt t n1 = if meetsB t " " m' then some (v, m' + 1) else none := by unfold wgtAt; rw [hv]
        have em : ws.map PyData.int ++ [.int v] = (ws ++ [v]).map PyData.int := by rw [List.map_append]; rfl
        rw [em]
        show Sd K _ _ _ [RdS K A.Reader x dx p t m' ys, .val (.int (deep : Int)), .val (.str w), .own ((ws ++ [v]).map PyData.int), .own (ks.map Cu.d), .val (.bool true)] _
        refine sd_dropG (eMust " " m' ys _ _ rfl ev_str v2 (by decide +kernel) a4) (fun ρ' h => ⟨_, _, h.2, rfl, ?_⟩) (fun c ρ' h => ?_)
        · have hm := h.1
          have hmt := meets_at hm v2
          rw [blank_len] at hmt ⊢
          rw [if_pos hm] at hw1
          exact ⟨v, m' + 1, hw1, by omega, hmt, by rw [if_pos y]; rfl⟩
        · obtain ⟨hm, rfl, rfl⟩ := h
          rw [hw1, if_neg (by rw [hm]; decide)] at hun
          exact fail hun _ in0 m' ys
      · rw [if_neg (by rw [y]; decide)]
        exact sd_next ⟨0, n1, rfl, Nat.le_refl _, hn1, by rw [if_neg (by rw [y]; decide)]⟩
      rintro ρ ⟨v, m1, hw1, hm1, hm1t, rfl⟩
      rw [hw1] at hun
      have hun : parse t (d' + 1) n zs = match parse t d' m1 ys with
            | none => none
            | some (k, m2, zs2) => if meetsB t ", " m2 then parseK (parse t d') t w f' (m2 + 2) zs2 (if WEIGHEDL.contains w then ws ++ [v] else ws) (ks ++ [k]) else
              if meetsB t ")" m2 then knotR w (if WEIGHEDL.contains w then ws ++ [v] else ws) (ks ++ [k]) (m2 + 1) zs2 else none := by
        rw [hun]
      have hwl : (if WEIGHEDL.contains w then ws ++ [v] else ws).length ≤ n1 + 1 := by
        split
        · rw [List.length_append]; show ws.length + 1 ≤ _; omega
        · omega
      generalize (if WEIGHEDL.contains w then ws ++ [v] else ws) = ws2 at hun hwl ⊢
      refine sd_seq (sd_appendG (i := 4) rfl (by rw [List.length_map]; omega) (evg_meth (c := cHere K A.Reader [A.NoText, A.BadClaim, A.BadWay, A.BadWeights, A.TooMany] dd) (k := ⟨fun f s' => ∃ (u : Cu) (m : Nat) (zs2 : List Str), parse t d' m1 ys = some (u, m, zs2) ∧ f = RdS K A.Reader x dx p t m zs2 ∧ s' = .val u.d, fun c f => parse t d' m1 ys = none ∧ c ∈ ([A.NoText, A.BadClaim, A.BadWay, A.BadWeights, A.TooMany].map Value.ref) ∧ ∃ m zs2, f = RdS K A.Reader x dx p t m zs2⟩) (i := 0) rfl (objP_meth (rdF_no (by decide +kernel) (by decide +kernel) (by decide +kernel))) (ea_cons (d := .int ((deep + 1 : Nat) : Int)) (Ev.is (a_add (ev_var rfl) ev_int) (by congr 1)) ea_nil) ⟨x, dx, p, t, m1, d', deep + 1, ys, rfl, by omega, by omega, hm1t, hl, hta, by omega, fun u m zs2 h => ⟨u, m, zs2, h, rfl, rfl⟩, fun h C hC m zs2 => ⟨h, List.mem_map.mpr ⟨C, hC, rfl⟩, m, zs2, rfl⟩⟩ (fun f s h => by
        obtain ⟨_, _, _, _, h, _⟩ := h
        exact .inr ⟨_, _, h⟩) (fun y f h => by
        obtain ⟨_, _, _, _, h⟩ := h
        exact .inr ⟨_, _, h⟩)) (fun ρ' h => ?_) (fun c ρ' h => ?_))
      rotate_left
      · obtain ⟨f, ⟨hn0, hc, m, zs2, rfl⟩, rfl⟩ := h
        obtain ⟨C, hC, rfl⟩ := List.mem_map.mp hc
        rw [hn0] at hun
        exact fail hun C hC m zs2
      obtain ⟨f, s', ⟨u, m2, zs2, hp2, rfl, rfl⟩, rfl⟩ := h
      obtain ⟨b1, b2, b3, b4⟩ := parse_ok t d' m1 ys u m2 zs2 hm1t hp2
      rw [hp2] at hun
      have hun : parse t (d' + 1) n zs = if meetsB t ", " m2 then parseK (parse t d') t w f' (m2 + 2) zs2 ws2 (ks ++ [u]) else if meetsB t ")" m2 then knotR w ws2 (ks ++ [u]) (m2 + 1) zs2 else none := hun
      refine ⟨_, u.d, rfl, rfl, rfl, ?_⟩
      have em : ks.map Cu.d ++ [u.d] = (ks ++ [u]).map Cu.d := by rw [List.map_append]; rfl
      rw [em]
      have hks2 : ∀ k ∈ ks ++ [u], k.Ok := fun k hk => by
        rcases List.mem_append.mp hk with hk | hk
        · exact hok k hk
        · obtain rfl := List.mem_singleton.mp hk
          exact b4
      have hkl : (ks ++ [u]).length ≤ n1 + 1 := by rw [List.length_append]; show ks.length + 1 ≤ _; omega
      generalize ks ++ [u] = ks2 at hun hks2 hkl ⊢
      show Sd K _ _ _ [RdS K A.Reader x dx p t m2 zs2, .val (.int (deep : Int)), .val (.str w), .own (ws2.map PyData.int), .own (ks2.map Cu.d), .val (.bool true)] _
      refine sd_setG (j := 5) (eMeets ", " m2 zs2 _ _ rfl ev_str b2 (by decide +kernel) a5) (by exact Nat.le_of_ble_eq_true rfl) (fun ρ' h => ⟨_, _, h, rfl, ?_⟩) (fun c ρ' h => h.elim)
      rw [comma_len]
      cases hc : meetsB t ", " m2 with
      | true =>
        have hct := meets_at hc b2
        rw [comma_len] at hct
        rw [hc, if_pos rfl] at hun
        rw [if_pos rfl]
        exact ⟨_, by rw [if_pos rfl]; omega, m2 + 2, f', zs2, ws2, ks2, true, rfl, hct, by omega, by omega, by omega, hks2, rfl, fun _ => ⟨by omega, hun⟩, fun y => nomatch y⟩
      | false =>
        rw [hc, if_neg Bool.false_ne_true] at hun
        rw [if_neg Bool.false_ne_true]
        exact ⟨0, by rw [if_pos rfl]; omega, m2, f', zs2, ws2, ks2, false, rfl, b2, by omega, by omega, by omega, hks2, rfl, (fun y => nomatch y), fun _ => hun⟩
    · subst y
      have hun := hbf rfl
      refine sd_seq (sd_dropG (eMust ")" n1 ys _ _ rfl ev_str hn1 (by decide +kernel) a3) (fun ρ' h => ⟨_, _, h.2, rfl, ?_⟩) (fun c ρ' h => ?_))
      rotate_left
      · obtain ⟨hm, rfl, rfl⟩ := h
        rw [if_neg (by rw [hm]; decide)] at hun
        exact fail hun _ in0 n1 ys
      have hm := h.1
      rw [if_pos hm] at hun
      rw [close_len]
      show Sd K _ _ _ [RdS K A.Reader x dx p t (n1 + 1) ys, .val (.int (deep : Int)), .val (.str w), .own (ws.map PyData.int), .own (ks.map Cu.d), .val (.bool false)] _
      refine sd_freeze 3 rfl ?_
      refine sd_freeze 4 rfl ?_
      have hx : ∀ C : Addr, C ∈ [A.NoText, A.BadClaim, A.BadWay, A.BadWeights, A.TooMany] → knotC w ws ks ≠ 4 → k.ex (.ref C) (RdS K A.Reader x dx p t (n1 + 1) ys) := fun C hC h4 => by
        unfold knotR at hun
        rw [if_neg h4] at hun
        exact fail hun C hC (n1 + 1) ys
      have hwl : ws.length ≤ 100000 := by omega
      have i2 : A.BadWay ∈ [A.NoText, A.BadClaim, A.BadWay, A.BadWeights, A.TooMany] := by simp
      have i3 : A.BadWeights ∈ [A.NoText, A.BadClaim, A.BadWay, A.BadWeights, A.TooMany] := by simp
      have i4 : A.TooMany ∈ [A.NoText, A.BadClaim, A.BadWay, A.BadWeights, A.TooMany] := by simp
      have hcv : knotC w ws ks = 0 ∨ knotC w ws ks = 1 ∨ knotC w ws ks = 2 ∨ knotC w ws ks = 4 := by
        unfold knotC
        split
        · split
          · split
            · exact .inr (.inr (.inl rfl))
            · exact .inr (.inr (.inr rfl))
          · exact .inr (.inl rfl)
        · exact .inl rfl
      have hargs : ∀ ρ : En, ρ[2]? = some (.val (.str w)) → ρ[3]? = some (.val (.list (ws.map PyData.int))) → ρ[4]? = some (.val (.list (ks.map Cu.d))) → EvA K (tCons (tVar 2) (tCons (tVar 3) (tCons (tVar 4) tNil))) ρ [.str w, .list (ws.map PyData.int), .list (ks.map Cu.d)] := fun ρ a b c => ea_cons (ev_var a) (ea_cons (ev_var b) (ea_cons (ev_var c) ea_nil))
      rcases hcv with e0 | e0 | e0 | e0
      · refine sd_retx (evx_call (hargs _ rfl rfl rfl) (x := .ref A.BadWay) (c := cKnot A.BadWay A.BadWeights A.TooMany) ⟨w, _, _, ws, ks, rfl, .inl rfl, .inl rfl, hwl, hok, fun _ => rfl, fun z => ?_, fun z => ?_, fun z => ?_⟩) (hx _ i2 (by omega)) <;> (rw [e0] at z; cases z)
      · refine sd_retx (evx_call (hargs _ rfl rfl rfl) (x := .ref A.BadWeights) (c := cKnot A.BadWay A.BadWeights A.TooMany) ⟨w, _, _, ws, ks, rfl, .inl rfl, .inl rfl, hwl, hok, fun z => ?_, fun _ => rfl, fun z => ?_, fun z => ?_⟩) (hx _ i3 (by omega)) <;> (rw [e0] at z; cases z)
      · refine sd_retx (evx_call (hargs _ rfl rfl rfl) (x := .ref A.TooMany) (c := cKnot A.BadWay A.BadWeights A.TooMany) ⟨w, _, _, ws, ks, rfl, .inl rfl, .inl rfl, hwl, hok, fun z => ?_, fun z => ?_, fun _ => rfl, fun z => ?_⟩) (hx _ i4 (by omega)) <;> (rw [e0] at z; cases z)
      · have hv : cKnot A.BadWay A.BadWeights A.TooMany [.str w, .list (ws.map PyData.int), .list (ks.map Cu.d)] (kv (Cu.knot (wyOf w) ws ks).d) := by
          refine ⟨w, _, _, ws, ks, rfl, .inl rfl, .inl rfl, hwl, hok, fun z => ?_, fun z => ?_, fun z => ?_, fun _ => rfl⟩ <;> (rw [e0] at z; cases z)
        unfold knotR at hun
        rw [if_pos e0] at hun
        exact sd_retD (ev_call (hargs _ rfl rfl rfl) hv) ⟨_, _, rfl, rfl, h1 _ _ _ hun⟩
theorem gr_Reader_custom_here (T : Txt K mg A) : OkMN P w K mg base (24 + 0) A.Reader "custom_here" ["self", "deep"] (spG K ((cHere K A.Reader [A.NoText, A.BadClaim, A.BadWay, A.BadWeights, A.TooMany]) 0)) := T.f_Reader_custom_here.okGN (k := 23) sc_Reader_custom_here _ (spG_len (n := 2) fun ρ k hc => (no_Reader_custom_here hc).elim) (fun cdv A' outer s H vs Q E hr h => (spG_no h fun ρ k hc => no_Reader_custom_here hc).elim)
theorem ok_Reader_custom_here (T : Txt K mg A) (hN : base.NoSeer) (hT : P.given.tree = none) (fnN_Reader_run_of : OkMN P w K mg base 1 A.Reader "run_of" ["self", "signs"] (spG K (cRunOf K A.Reader))) (fnN_Reader_meets : OkMN P w K mg base 1 A.Reader "meets" ["self", "signs"] (spG K (cMeets K A.Reader))) (fnN_boat : OkN P w K mg base 1 "boat" ["claim"] (spc K (cBoat A.BadClaim))) (fnN_number_in : OkN P w K mg base 1 "number_in" ["word"] (spc K (cNumIn A.NoText))) (fnN_Reader_must_meet : OkMN P w K mg base 2 A.Reader "must_meet" ["self", "signs"] (spG K (cMust K A.Reader A.NoText))) (fnN_knot : OkN P w K mg base 23 "knot" ["way", "weights", "kids"] (spc K (cKnot A.BadWay A.BadWeights A.TooMany))) : OkMN P w K mg base 33 A.Reader "custom_here" ["self", "deep"] (spG K ((cHere K A.Reader [A.NoText, A.BadClaim, A.BadWay, A.BadWeights, A.TooMany]) 9)) := by
  have all : ∀ dd : Nat, OkMN P w K mg base (24 + dd) A.Reader "custom_here" ["self", "deep"] (spG K ((cHere K A.Reader [A.NoText, A.BadClaim, A.BadWay, A.BadWeights, A.TooMany]) dd)) := fun dd => by
    induction dd with
    | zero => exact gr_Reader_custom_here T
    | succ dd ih => exact st_Reader_custom_here dd T hN hT fnN_Reader_run_of fnN_Reader_meets fnN_boat fnN_number_in fnN_Reader_must_meet fnN_knot ih
  exact all 9
theorem sc_read : FnScope ["text", "reader", "custom"] ["text"] (defScope s_read) := ⟨rfl, rfl, rfl, by decide +kernel, rfl, by decide +kernel, by decide +kernel⟩
theorem ok_read (T : Txt K mg A) (hN : base.NoSeer) (hT : P.given.tree = none) (fn_Reader___init__ : OkI P w K mg base 1 A.Reader ["self", "text"] (spG K (cInitR K A.Reader))) (fn_look_at_names : Ok P w K mg base 23 "look_at_names" ["custom", "names"] (spc K (cLookN A.Unlike A.NoText))) (fnN_Reader_custom_here : OkMN P w K mg base 33 A.Reader "custom_here" ["self", "deep"] (spG K ((cHere K A.Reader [A.NoText, A.BadClaim, A.BadWay, A.BadWeights, A.TooMany]) 9))) : Ok P w K mg base 34 "read" ["text"] (spG K (cRead K A.NoText)) := by
  refine T.f_read.okG sc_read _ (spG_len (n := 1) fun ρ k hc => by obtain ⟨_, rfl, _⟩ := hc; rfl) (fun cdv A' outer s H vs Q E hr h => ⟨_, (pss_cons (ps_set (i := 1) sc_read.nd rfl (by first | exact Or.inl rfl | exact Or.inr rfl) (pe_mk fn_Reader___init__ (hr.mono (by decide)) (takes_of rfl rfl rfl rfl) rfl T.g_Reader (pa_cons (pv 0) pa_nil)))
  (pss_cons (t_tryX (K := K) rfl rfl ⟨rfl, by decide, .inl T.c_CatchError.g⟩ (L2H.passesAt_of rfl) (takes_of rfl rfl rfl rfl)
    (fun W pn xe tk po => (pss_one (ps_set (i := 2) sc_read.nd rfl (by first | exact Or.inl rfl | exact Or.inr rfl) (pe_mthN fnN_Reader_custom_here T.cls_Reader (hr.mono (by decide)) tk (pv 1) (pa_cons pe_int pa_nil)))))
    (fun a oe cls d pn hz hf tk hot => (pss_one (ps_raiseCH hot tk T.c_NoText.x T.c_NoText.g T.c_NoText.k T.c_NoText.b T.c_NoText.t rfl))))
  (pss_cons (ps_if (pt_cmpR (o_ne (K := K) hr.units) (b_fld (K := K) (pv 1) rfl) (pe_callB (c_lenA (K := K)) (by rfl) T.z_len (by decide +kernel) (pa_cons (pv 0) pa_nil)) (nomark _)) (pss_one (ps_raiseC rfl (takes_of rfl rfl rfl rfl) T.c_NoText.x T.c_NoText.g T.c_NoText.k T.c_NoText.b T.c_NoText.t rfl)) pss_nil)
  (pss_cons (ps_expr (pe_fn fn_look_at_names (hr.mono (by decide)) (takes_of rfl rfl rfl rfl) rfl (pa_cons (pv 2) (pa_cons (b_fld (K := K) (pv 1) rfl) pa_nil))))
  (pss_one (ps_ret (pe_tup (pa_cons (pv 2) (pa_cons (pe_callTy (c_listA (K := K)) (by rfl) T.z_list (by decide +kernel) (pa_cons (b_fld (K := K) (pv 1) rfl) pa_nil)) pa_nil))))))))), body_ofG 1 100 (by decide) (fun ρ k hc => by obtain ⟨_, rfl, _⟩ := hc; rfl) h fun ρ k hc => ?_⟩)
  obtain ⟨t, rfl, hl, hta, h1, h2⟩ := hc
  show Sd K _ _ _ [.val (.str t), .un, .un] _
  refine sd_seq (sd_setG (j := 1) (evg_make (c := cInitR K A.Reader) (k := fun x dx => ⟨fun f s => (∃ p, f = RdS K A.Reader x dx p t 0 []) ∧ s = .val .none, fun _ _ => False⟩) (ea_cons (ev_var rfl) ea_nil) (fun x dx => ⟨x, dx, t, rfl, fun p => ⟨⟨p, rfl⟩, rfl⟩⟩) (fun x dx f s h => by
    obtain ⟨⟨p, rfl⟩, rfl⟩ := h
    exact ⟨.inr ⟨_, _, rfl⟩, rfl⟩) (fun x dx y f h => h.elim)) (by exact Nat.le_of_ble_eq_true rfl) (fun ρ' h => ?_) (fun c ρ' h => ?_))
  rotate_left
  · obtain ⟨⟨_, _, _, h⟩, _⟩ := h
    exact h.elim
  obtain ⟨x, dx, f, ⟨⟨p, rfl⟩, _⟩, rfl⟩ := h
  refine ⟨_, _, rfl, rfl, ?_⟩
  show Sd K _ _ _ [.val (.str t), RdS K A.Reader x dx p t 0 [], .un] _
  have hR : readR t = match parse t 7 0 [] with
    | none => none
    | some (u, m, ys) => if m = t.length ∧ lookN u ys = 2 then some (u, ys) else none := rfl
  refine sd_seq (sd_try fun W' => ?_)
  refine sd_setG (j := 2) (evg_meth (c := cHere K A.Reader [A.NoText, A.BadClaim, A.BadWay, A.BadWeights, A.TooMany] 9) (k := ⟨fun f s' => ∃ (u : Cu) (m : Nat) (zs2 : List Str), parse t 7 0 [] = some (u, m, zs2) ∧ f = RdS K A.Reader x dx p t m zs2 ∧ s' = .val u.d, fun c f => parse t 7 0 [] = none ∧ c ∈ ([A.NoText, A.BadClaim, A.BadWay, A.BadWeights, A.TooMany].map Value.ref) ∧ ∃ m zs2, f = RdS K A.Reader x dx p t m zs2⟩) (i := 1) rfl (objP_meth (rdF_no (by decide +kernel) (by decide +kernel) (by decide +kernel))) (ea_cons ev_int ea_nil) ⟨x, dx, p, t, 0, 7, 1, [], rfl, rfl, by decide, Nat.zero_le _, hl, hta, Nat.le_refl _, fun u m zs2 h => ⟨u, m, zs2, h, rfl, rfl⟩, fun h C hC m zs2 => ⟨h, List.mem_map.mpr ⟨C, hC, rfl⟩, m, zs2, rfl⟩⟩ (fun f s h => by
    obtain ⟨_, _, _, _, h, _⟩ := h
    exact .inr ⟨_, _, h⟩) (fun y f h => by
    obtain ⟨_, _, _, _, h⟩ := h
    exact .inr ⟨_, _, h⟩)) (by exact Nat.le_of_ble_eq_true rfl) (fun ρ' h => ?_) (fun c ρ' h => ?_)
  rotate_left
  · obtain ⟨f, ⟨hn, hc, m, zs2, rfl⟩, rfl⟩ := h
    rw [hn] at hR
    have hx := h2 hR
    simp only [List.map_cons, List.map_nil, List.mem_cons, List.not_mem_nil, or_false] at hc
    rcases hc with rfl | rfl | rfl | rfl | rfl
    · exact ⟨true, T.h_NoText_CatchError, fun _ a => sd_raise hx, fun e => nomatch e⟩
    · exact ⟨true, T.h_BadClaim_CatchError, fun _ a => sd_raise hx, fun e => nomatch e⟩
    · exact ⟨true, T.h_BadWay_CatchError, fun _ a => sd_raise hx, fun e => nomatch e⟩
    · exact ⟨true, T.h_BadWeights_CatchError, fun _ a => sd_raise hx, fun e => nomatch e⟩
    · exact ⟨true, T.h_TooMany_CatchError, fun _ a => sd_raise hx, fun e => nomatch e⟩
  obtain ⟨f, s, ⟨u, m, ys, hp, rfl, rfl⟩, rfl⟩ := h
  refine ⟨_, _, rfl, rfl, ?_⟩
  show Sd K _ _ _ [.val (.str t), RdS K A.Reader x dx p t m ys, .val u.d] _
  rw [hp] at hR
  obtain ⟨b1, b2, b3, b4⟩ := parse_ok t 7 0 [] u m ys (Nat.zero_le _) hp
  obtain ⟨xs, hxe, hxl⟩ := parse_names t 7 0 [] u m ys hp
  rw [List.nil_append] at hxe
  obtain rfl : ys = xs := hxe
  have hR : readR t = if m = t.length ∧ lookN u ys = 2 then some (u, ys) else none := hR
  refine sd_seq (sd_ifS (b := !decide (m = t.length)) (EvT.is (et_test (ev_neD (d1 := .int (m : Int)) (d2 := .int (t.length : Int)) (ev_fld rfl rdF_spot T.cls_Reader T.na_Reader_spot) (a_lenS (ev_var rfl) (by omega)) rfl rfl)) (by rw [eqv_int]; exact congrArg not (decide_eq_decide.mpr (by omega)))) (fun z => ?_) (fun z => sd_next ?_))
  · rw [Bool.not_eq_true', decide_eq_false_iff_not] at z
    exact sd_raise (h2 (by rw [hR, if_neg fun y => z y.1]))
  rw [Bool.not_eq_false', decide_eq_true_eq] at z
  have hfew := b4.few
  have hz : ∀ w ∈ ys, w.length ≤ 90000 := parse_short hp hl
  rcases lookN_is u ys with e | e | e
  · exfalso
    unfold lookN at e
    rw [if_pos hxl] at e
    split at e <;> cases e
  · refine sd_seq (sd_dropG (evg_callFld (c := cLookN A.Unlike A.NoText) (kk := kx (.ref A.NoText)) rfl rdF_called T.cls_Reader T.na_Reader_called (ev_var rfl) (lookN_x1 (.inl rfl) b4 (by omega) hz e) (fun d' h => h.elim) (fun es h => h)) (fun ρ' h => ?_) (fun c ρ' h => ?_))
    · obtain ⟨d', h, _⟩ := h
      exact h.elim
    · obtain ⟨h, rfl⟩ := h
      obtain rfl : c = .ref A.NoText := h
      exact h2 (by rw [hR, if_neg fun y => by rw [e] at y; cases y.2])
  · refine sd_seq (sd_dropG (evg_callFld (c := cLookN A.Unlike A.NoText) (kk := kv .none) rfl rdF_called T.cls_Reader T.na_Reader_called (ev_var rfl) (lookN_v (.inl rfl) b4 (by omega) hz e) (fun d' h => by
      obtain rfl : d' = .none := h
      rfl) (fun es h => h)) (fun ρ' h => ?_) (fun c ρ' h => h.1.elim))
    obtain ⟨d', h, rfl⟩ := h
    obtain rfl : d' = .none := h
    refine ⟨_, _, rfl, rfl, ?_⟩
    exact sd_retT2 (ev_var rfl) (f_listL (evl_fld rfl rdF_called T.cls_Reader T.na_Reader_called)) fun tt q => ⟨_, _, rfl, rfl, h1 u ys (by rw [hR, if_pos ⟨z, e⟩]) tt q⟩
theorem sc__law_found : FnScope ["text", "found", "e"] ["text"] (defScope s__law_found) := ⟨rfl, rfl, rfl, by decide +kernel, rfl, by decide +kernel, by decide +kernel⟩
theorem ok__law_found (T : Txt K mg A) (hN : base.NoSeer) (hT : P.given.tree = none) (fn_read : Ok P w K mg base 34 "read" ["text"] (spG K (cRead K A.NoText))) : Ok P w K mg base 35 "_law_found" ["text"] (spc K cLFound) := by
  refine T.f__law_found.ok sc__law_found _ (fun ds k hc => by obtain ⟨_, rfl, _⟩ := hc; rfl) (fun cdv A' outer s H vs Q E hr h => ⟨_, (pss_cons (ps_set (i := 1) sc__law_found.nd rfl (by first | exact Or.inl rfl | exact Or.inr rfl) pe_non)
  (pss_cons (t_tryAs (K := K) (i := 2) rfl rfl sc__law_found.nd rfl rfl ⟨rfl, by decide, .inl T.c_CatchError.g⟩ (takes_of rfl rfl rfl rfl)
    (fun W pn xe tk po => (pss_one (ps_set (i := 1) sc__law_found.nd rfl (by first | exact Or.inl rfl | exact Or.inr rfl) (pe_fn fn_read (hr.mono (by decide)) tk rfl (pa_cons (pv 0) pa_nil)))))
    (fun a oe cls d pn hz hf => (pss_cons (ps_set (i := 1) sc__law_found.nd rfl (by first | exact Or.inl rfl | exact Or.inr rfl) (pe_lst (pa_cons (pe_callB (c_isX (K := K) hz hf) (by rfl) T.z_isinstance (by decide +kernel) (pa_cons (pv 2) (pa_cons (pe_glob (v := .ref A.NoText) rfl T.c_NoText.g rfl) pa_nil))) (pa_cons (pe_callB (c_isX (K := K) hz hf) (by rfl) T.z_isinstance (by decide +kernel) (pa_cons (pv 2) (pa_cons (pe_bltn (v := .ty "ValueError") (by rfl) T.z_ValueError (by decide +kernel) rfl) pa_nil))) pa_nil))))
  (pss_cons (ps_expr (b_m (K := K) PySem.F.plainAttrs_list PySem.F.slot_list_append PySem.F.type_list_append mt_append (pv 1) (pa_cons (pe_not (pe_callB (c_isX (K := K) hz hf) (by rfl) T.z_isinstance (by decide +kernel) (pa_cons (pv 2) (pa_cons (pe_tup (pa_cons (pe_glob (v := .ref A.BadCatch) rfl T.c_BadCatch.g rfl) (pa_cons (pe_glob (v := .ref A.BadClaim) rfl T.c_BadClaim.g rfl) (pa_cons (pe_glob (v := .ref A.BadLine) rfl T.c_BadLine.g rfl) (pa_cons (pe_glob (v := .ref A.BadWay) rfl T.c_BadWay.g rfl) (pa_cons (pe_glob (v := .ref A.BadWeights) rfl T.c_BadWeights.g rfl) (pa_cons (pe_glob (v := .ref A.NoBoat) rfl T.c_NoBoat.g rfl) (pa_cons (pe_glob (v := .ref A.NoFraction) rfl T.c_NoFraction.g rfl) pa_nil)))))))) pa_nil)))) pa_nil)))
  (pss_one (ps_if (pt_val (pe_callB (c_isX (K := K) hz hf) (by rfl) T.z_isinstance (by decide +kernel) (pa_cons (pv 2) (pa_cons (pe_tup (pa_cons (pe_glob (v := .ref A.Outside) rfl T.c_Outside.g rfl) (pa_cons (pe_glob (v := .ref A.TooMany) rfl T.c_TooMany.g rfl) (pa_cons (pe_glob (v := .ref A.Unlike) rfl T.c_Unlike.g rfl) pa_nil)))) pa_nil)))) (pss_one (ps_set (i := 1) sc__law_found.nd rfl (by first | exact Or.inl rfl | exact Or.inr rfl) (pe_lst (pa_cons pe_bl pa_nil)))) pss_nil))))))
  (pss_one (ps_ret (pv 1))))), body_of h fun ds k hc => ?_⟩)
  obtain ⟨t, rfl, hl, ha, hk⟩ := hc
  show Sd K _ _ _ [.val (.str t), .un, .un] _
  refine sd_seq (sd_set ev_non ?_)
  unfold foundL at hk
  refine sd_seq (sd_tryAs fun W' => ?_)
  cases hR : readR t with
  | none =>
    rw [hR] at hk
    have no1 : PySem.W.kitAny K (.ref A.NoText) ([A.BadCatch, A.BadClaim, A.BadLine, A.BadWay, A.BadWeights, A.NoBoat, A.NoFraction].map Value.ref) = some false := kitAny_no fun c m => by
      simp only [List.map_cons, List.map_nil, List.mem_cons, List.not_mem_nil, or_false] at m
      rcases m with rfl | rfl | rfl | rfl | rfl | rfl | rfl
      · exact T.n_NoText_BadCatch
      · exact T.n_NoText_BadClaim
      · exact T.n_NoText_BadLine
      · exact T.n_NoText_BadWay
      · exact T.n_NoText_BadWeights
      · exact T.n_NoText_NoBoat
      · exact T.n_NoText_NoFraction
    have no2 : PySem.W.kitAny K (.ref A.NoText) ([A.Outside, A.TooMany, A.Unlike].map Value.ref) = some false := kitAny_no fun c m => by
      simp only [List.map_cons, List.map_nil, List.mem_cons, List.not_mem_nil, or_false] at m
      rcases m with rfl | rfl | rfl
      · exact T.n_NoText_Outside
      · exact T.n_NoText_TooMany
      · exact T.n_NoText_Unlike
    refine sd_setG (j := 1) (evg_call0 (c := cRead K A.NoText) (ds := [.str t]) (k := ⟨fun f s => False, fun y f => y = .ref A.NoText ∧ f = .un⟩) (ea_cons (ev_var rfl) ea_nil) ⟨t, rfl, hl, ha, (fun u ys h => by rw [hR] at h; cases h), fun _ => ⟨rfl, rfl⟩⟩ (fun f s h => h.elim) (fun x f h => h.2)) (by exact Nat.le_of_ble_eq_true rfl) (fun ρ' h => ?_) (fun c ρ' h => ?_)
    · obtain ⟨s, h, _⟩ := h
      exact h.elim
    · obtain ⟨⟨rfl, _⟩, rfl⟩ := h
      refine ⟨true, T.h_NoText_CatchError, fun _ a => ?_, fun e => nomatch e⟩
      refine sd_seq (sd_own (ds := [.bool true, .bool true]) (evf_lst (ea_cons (a_isX rfl T.c_NoText.e (fun u h => h) T.y_NoText_NoText rfl) (ea_cons (a_isX rfl T.c_NoText.e (fun u h => h) T.y_NoText_ValueError rfl) ea_nil)) (by exact Nat.le_of_ble_eq_true rfl)) ?_)
      refine sd_seq (sd_append (d := .bool (!false)) rfl (ev_notV (x := false) (a_isXT (cs := [A.BadCatch, A.BadClaim, A.BadLine, A.BadWay, A.BadWeights, A.NoBoat, A.NoFraction]) rfl rfl T.c_NoText.e no1 (Nat.le_of_ble_eq_true rfl) rfl)) (by show 2 ≤ 100000; decide) ?_)
      refine sd_ifS (b := false) (et_B (a_isXT (cs := [A.Outside, A.TooMany, A.Unlike]) rfl rfl T.c_NoText.e no2 (Nat.le_of_ble_eq_true rfl) rfl)) (fun z => nomatch z) (fun _ => sd_next ?_)
      refine sd_freeze 1 rfl ?_
      exact sd_ret (ev_var rfl) hk
  | some q =>
    obtain ⟨u, ns⟩ := q
    rw [hR] at hk
    refine sd_set (ev_callT2 (c := cRead K A.NoText) (ds := [.str t]) (d0 := u.d) (es := ns.map PyData.str) (k := ⟨fun f s => ∃ tt p, s = .fact (.ref tt) [p] (Tup2P K tt u.d p (ns.map PyData.str)), fun _ _ => False⟩) (ea_cons (ev_var rfl) ea_nil) ⟨t, rfl, hl, ha, (fun u' ys h tt p => by
      rw [hR] at h
      cases h
      exact ⟨tt, p, rfl⟩), fun h => by rw [hR] at h; cases h⟩ (fun f s h => h) (fun x f h => h)) ?_
    exact sd_ret (ev_var rfl) hk
theorem sc_law : FnScope ["script", "custom", "text", "cell", "once", "told_text", "due", "found"] ["script"] (defScope s_law) := ⟨rfl, rfl, rfl, by decide +kernel, rfl, by decide +kernel, by decide +kernel⟩
def isSp (d : D) : Prop := ∃ y : Str, d = .str y ∧ asc y ∧ meas y ≤ 90000
theorem ok_law {f : Addr} {fd : FuncData} (F : Fun K "law" "law" s_law f fd) (T : Txt K mg A) (hN : base.NoSeer) (hT : P.given.tree = none) (fn__law_custom : Ok P w K mg base 25 "_law_custom" ["script"] (spc K cCusF)) (fn__law_text : Ok P w K mg base 42 "_law_text" ["custom", "names", "at"] (spc K (cLText 20))) (fn__law_names : Ok P w K mg base 2 "_law_names" ["script", "many"] (spc K cNames)) (fn__law_claims : Ok P w K mg base 21 "_law_claims" ["custom"] (spc K (cClaimsOf 20))) (fn__law_spoiled : Ok P w K mg base 1 "_law_spoiled" ["text", "cell"] (spc K cSpoiled)) (fn__law_read : Ok P w K mg base 20 "_law_read" ["text"] (spc K cLRead)) (fn__law_found : Ok P w K mg base 35 "_law_found" ["text"] (spc K cLFound)) (fn__law_alike : Ok P w K mg base 22 "_law_alike" ["found", "due"] (spc K (cAlikeL 20))) : FnOk P w K mg base CX0 43 f fd ["script"] (spc K cLaw) := by
  refine FnAt.law F sc_law _ cLaw_len (fun cdv A' outer s H vs Q E hr h => ⟨_, (pss_cons (ps_set (i := 1) sc_law.nd rfl (by first | exact Or.inl rfl | exact Or.inr rfl) (pe_fn fn__law_custom (hr.mono (by decide)) takes0 rfl (pa_cons (pv 0) pa_nil)))
  (pss_cons (ps_set (i := 2) sc_law.nd rfl (by first | exact Or.inl rfl | exact Or.inr rfl) (pe_fn fn__law_text (hr.mono (by decide)) takes0 rfl (pa_cons (pv 1) (pa_cons (pe_fn fn__law_names (hr.mono (by decide)) takes0 rfl (pa_cons (pv 0) (pa_cons (pe_callB (c_lenA (K := K)) (by rfl) T.z_len (by decide +kernel) (pa_cons (pe_fn fn__law_claims (hr.mono (by decide)) takes0 rfl (pa_cons (pv 1) pa_nil)) pa_nil)) pa_nil))) (pa_cons pe_int pa_nil)))))
  (pss_cons (ps_for PassesOwn.never rfl (w_seq (K := K) (pe_op (o_plus (K := K)) (pe_lst (pa_cons pe_int pa_nil)) (pe_slice (s_any (K := K)) (pv 0) (po_some pe_int) (po_some pe_int)))) (pg_name (i := 3) sc_law.nd rfl (by first | exact Or.inl rfl | exact Or.inr rfl)) (pss_cons (ps_set (i := 4) sc_law.nd rfl (by first | exact Or.inl rfl | exact Or.inr rfl) (pe_fn fn__law_spoiled (hr.mono (by decide)) takes0 rfl (pa_cons (pv 2) (pa_cons (pv 3) pa_nil))))
  (pss_one (ps_for PassesOwn.never rfl (w_seq (K := K) (pe_lst (pa_cons (pv 4) (pa_cons (pe_fn fn__law_spoiled (hr.mono (by decide)) takes0 rfl (pa_cons (pv 4) (pa_cons (pe_op o_fdiv (pv 3) pe_int) pa_nil))) pa_nil)))) (pg_name (i := 5) sc_law.nd rfl (by first | exact Or.inl rfl | exact Or.inr rfl)) (pss_cons (ps_set (i := 6) sc_law.nd rfl (by first | exact Or.inl rfl | exact Or.inr rfl) (pe_fn fn__law_read (hr.mono (by decide)) takes0 rfl (pa_cons (pv 5) pa_nil)))
  (pss_cons (ps_set (i := 7) sc_law.nd rfl (by first | exact Or.inl rfl | exact Or.inr rfl) (pe_fn fn__law_found (hr.mono (by decide)) takes0 rfl (pa_cons (pv 5) pa_nil)))
  (pss_cons (ps_if (PW.pt (pw_and (pt_cmpR o_isN (pv 6) pe_non (nomark _)) (pw_and1 (pt_cmpR (o_ne (K := K) hr.units) (pv 7) (pe_lst (pa_cons pe_bl (pa_cons pe_bl (pa_cons pe_bl pa_nil)))) (nomark _))))) (pss_one (ps_ret pe_bl)) pss_nil)
  (pss_one (ps_if (PW.pt (pw_and (pt_cmpR o_notN (pv 6) pe_non (nomark _)) (pw_and1 (pt_not (pt_val (pe_fn fn__law_alike (hr.mono (by decide)) takes0 rfl (pa_cons (pv 7) (pa_cons (pv 6) pa_nil)))))))) (pss_one (ps_ret pe_bl)) pss_nil)))))))))
  (pss_one (ps_ret pe_bl))))), body_law h fun ds k hc => ?_⟩)
  obtain ⟨ns, rfl, h63, hbits, hk⟩ := hc
  show Sd K _ _ _ [.val (.list (ns.map PyData.int)), .un, .un, .un, .un, .un, .un, .un] _
  refine sd_seq (sd_setP isCu (ea_cons (ev_var rfl) ea_nil) (cusF_v h63) ?_)
  rintro _ ⟨u, hu, rfl⟩
  have hcl := hu.few
  have hlow := hu.low
  refine sd_seq (sd_setPA (fun d => ∃ x : Str, d = .str x ∧ asc x ∧ meas x ≤ 5100) (eap_cons (ep_ev (ev_var rfl)) (eap_cons (ep_callL (isNames u.claims.length) (ds := [.list (ns.map PyData.int), .int (u.claims.length : Int)]) (ea_cons (ev_var rfl) (ea_cons ((a_lenL (EvF.l (evf_call (ea_cons (ev_var rfl) ea_nil) (claimsOf_v (by omega) (by omega))))).is (by rw [List.length_map])) ea_nil)) (names_v (by omega))) (eap_cons (ep_ev ev_int) eap_nil))) ?_ ?_)
  · rintro _ ⟨_, _, rfl, ⟨_, _, ⟨_, ⟨zs, rfl, hzl, hzs⟩, rfl⟩, ⟨_, _, rfl, rfl, rfl⟩, rfl⟩, rfl⟩
    exact ⟨u, zs, 0, rfl, hu, by omega, by omega, by omega, fun z hz => (isNm_low (hzs z hz)).2.1, by
      rw [List.drop_zero]
      exact ⟨_, rfl, text_asc u hu.ok zs fun z hz => isNm_asc (hzs z hz), text_meas hu hzl hzs⟩⟩
  rintro _ ⟨x, rfl, hxa, hxm⟩
  have hc44 := cut_ints ns 14 44
  have hl44 := cut_intsL ns 14 44
  obtain ⟨ms, hms⟩ : ∃ ms, ms = [0] ++ (ns.take 44).drop 14 := ⟨_, rfl⟩
  refine sd_seq (sd_for (ds := ms.map PyData.int) (fun i ρ => ∃ z3 z4 z5 z6 z7 : Sl, ρ = [.val (.list (ns.map PyData.int)), .val u.d, .val (.str x), z3, z4, z5, z6, z7]) (by
    rw [hms, List.map_append, ← hc44]
    exact w_list (EvF.v (a_cat (EvF.m (evf_lst (ea_cons ev_int ea_nil) (by exact Nat.le_of_ble_eq_true rfl))) (EvF.m (a_slL (ev_var rfl).l (o_some ev_int) (o_some ev_int))) (by rw [hc44]; show 1 + (((ns.take 44).drop 14).map PyData.int).length ≤ 100000; rw [List.length_map]; omega)))) ⟨_, _, _, _, _, rfl⟩ ?_ ?_)
  · rintro i d ρ' hd ⟨z3, z4, z5, z6, z7, rfl⟩
    obtain ⟨c, hc, rfl⟩ : ∃ c : Int, ms[i]? = some c ∧ d = .int c := by
      rw [List.getElem?_map] at hd
      cases e : ms[i]? with
      | none => rw [e] at hd; cases hd
      | some c => rw [e] at hd; exact ⟨c, rfl, (Option.some.inj hd).symm⟩
    refine ⟨_, gd_name, ?_⟩
    refine sd_seq (sd_setP (isSpoil x) (ea_cons (ev_var rfl) (ea_cons (ev_var rfl) ea_nil)) ⟨x, c, rfl, hxa, by omega, fun _ h => h⟩ ?_)
    rintro _ ⟨y, rfl, hya, hym⟩
    refine sd_forP (fun ds => ∃ d es, d = PyData.str y ∧ (∃ d es', isSpoil y d ∧ es' = [] ∧ es = d :: es') ∧ ds = d :: es) (w_listP (eap_cons (ep_ev (ev_var rfl)) (eap_cons (ep_call (isSpoil y) (ds := [.str y, .int (c / 5003)]) (ea_cons (ev_var rfl) (ea_cons (by walk_at "ev") ea_nil)) ⟨y, c / 5003, rfl, hya, by omega, fun _ h => h⟩) eap_nil)) ?_) ?_
    · rintro _ ⟨_, _, rfl, ⟨_, _, _, rfl, rfl⟩, rfl⟩
      show 2 ≤ 100000
      decide
    rintro _ ⟨_, _, rfl, ⟨_, _, ⟨y2, rfl, hy2a, hy2m⟩, rfl, rfl⟩, rfl⟩
    refine ⟨fun i ρ => ∃ z5 z6 z7 : Sl, ρ = [.val (.list (ns.map PyData.int)), .val u.d, .val (.str x), .val (.int c), .val (.str y), z5, z6, z7], ⟨_, _, _, rfl⟩, ?_, ?_⟩
    · rintro i d ρ' hd ⟨z5, z6, z7, rfl⟩
      obtain ⟨w, rfl, hwa, hwm⟩ : isSp d := by
        match i, hd with
        | 0, hd => cases hd; exact ⟨y, rfl, hya, by omega⟩
        | 1, hd => cases hd; exact ⟨y2, rfl, hy2a, by omega⟩
        | i + 2, hd => simp at hd
      have hwl := meas_len w
      have sT : SeqAt.shaped (.list [.bool true, .bool true, .bool true]) = true := by decide +kernel
      refine ⟨_, gd_name, ?_⟩
      refine sd_seq (sd_set (d := readL w) (ev_call (ea_cons (ev_var rfl) ea_nil) ⟨w, rfl, by omega, hwa, rfl⟩) ?_)
      refine sd_seq (sd_set (d := foundL w) (ev_call (ea_cons (ev_var rfl) ea_nil) ⟨w, rfl, by omega, hwa, rfl⟩) ?_)
      unfold readL foundL
      cases hR : readR w with
      | none =>
        refine sd_seq (sd_ifS (b := false) (EvT.is (et_and (et_test (v_isN (ev_var rfl))) fun _ => et_test (ev_neD (d1 := .list [.bool true, .bool true, .bool true]) (d2 := .list [.bool true, .bool true, .bool true]) (ev_var rfl) (EvF.v (evf_lst (ea_cons ev_bl (ea_cons ev_bl (ea_cons ev_bl ea_nil))) (by exact Nat.le_of_ble_eq_true rfl))) sT sT)) (by decide +kernel)) (fun z => nomatch z) (fun _ => sd_next ?_))
        exact sd_ifS (b := false && true) (et_and (x := false) (EvT.is (et_test (v_notN (ev_var rfl))) rfl) fun z => nomatch z) (fun z => nomatch z) (fun _ => sd_next ⟨_, _, _, rfl⟩)
      | some q =>
        obtain ⟨u', zs⟩ := q
        obtain ⟨hu', hL⟩ := readR_ok hR
        have hnm := nms hL
        have hfew := hu'.few
        have hzl : zs.length = u'.claims.length := (lookN_2 hL).1
        have hal : alL 20 (.tuple [u'.d, .list (zs.map PyData.str)]) := ⟨by show 2 ≤ 10000; decide, fun d hd => by
          rcases List.mem_cons.mp hd with rfl | hd
          · exact alL_mono (alL_cu' hu') (by decide)
          · obtain rfl := List.mem_singleton.mp hd
            exact alL_strs (n := 17) (fun z hz => isNm_asc (hnm z hz)) (by omega)⟩
        refine sd_seq (sd_ifS (b := false && true) (et_and (x := false) (EvT.is (et_test (v_isN (ev_var rfl))) rfl) fun z => nomatch z) (fun z => nomatch z) (fun _ => sd_next ?_))
        exact sd_ifS (b := true && !true) (et_and (x := true) (EvT.is (et_test (v_notN (ev_var rfl))) rfl) fun _ => et_not (et_B (ev_call (ea_cons (ev_var rfl) (ea_cons (ev_var rfl) ea_nil)) (alikeL_v (n := 20) hal)))) (fun z => nomatch z) (fun _ => sd_next ⟨_, _, _, rfl⟩)
    · rintro ρ ⟨z5, z6, z7, rfl⟩
      exact ⟨_, _, _, _, _, rfl⟩
  · rintro ρ ⟨z3, z4, z5, z6, z7, rfl⟩
    exact sd_ret ev_bl hk
end
theorem all_mk {l : PySem.W.OpenLaw} {w : World} {K : Frag} {h : Heap} {mg : Str → Option Value} {f0 f1 f2 f3 f4 f5 f6 f7 f8 f9 f10 f11 f12 f13 f14 f15 f16 f17 f18 f19 f20 f21 f22 f23 f24 f25 f26 f27 f28 f29 f30 f31 C0 C1 C2 C3 C4 C5 C6 C7 C8 C9 C10 C11 O0 N_WAYS N_WEIGHED_ways N_WEIGHED_written fa : Addr} {od0 an0 od1 an1 od2 an2 od3 an3 od4 an4 od5 an5 od6 an6 od7 an7 od8 an8 od9 an9 od10 an10 od11 an11 od12 an12 od13 an13 od14 an14 od15 an15 od16 an16 od17 an17 od18 an18 od19 an19 od20 an20 od21 an21 od22 an22 od23 an23 od24 an24 od25 an25 od26 an26 od27 an27 od28 an28 od29 an29 od30 an30 od31 an31 : Option Addr} {sl0 sl1 sl2 sl3 sl4 sl5 sl6 sl7 sl8 sl9 sl10 sl11 sl12 sl13 sl14 sl15 sl16 sl17 sl18 sl19 sl20 sl21 sl22 sl23 sl24 sl25 sl26 sl27 sl28 sl29 sl30 sl31 : Array (Option Value)} {oc0 kV0 dc0 pm0 cd0 ct0 oc1 kV1 dc1 pm1 cd1 ct1 oc2 kV2 dc2 pm2 cd2 ct2 oc3 kV3 dc3 pm3 cd3 ct3 oc4 kV4 dc4 pm4 cd4 ct4 oc5 kV5 dc5 pm5 cd5 ct5 oc6 kV6 dc6 pm6 cd6 ct6 oc7 kV7 dc7 pm7 cd7 ct7 oc8 kV8 dc8 pm8 cd8 ct8 oc9 kV9 dc9 pm9 cd9 ct9 oc10 kV10 dc10 pm10 cd10 ct10 oc11 kV11 dc11 pm11 cd11 ct11 oc12 kV12 dc12 pm12 cd12 ct12 oc13 kV13 dc13 pm13 cd13 ct13 oc14 kV14 dc14 pm14 cd14 ct14 oc15 kV15 dc15 pm15 cd15 ct15 oc16 kV16 dc16 pm16 cd16 ct16 oc17 kV17 dc17 pm17 cd17 ct17 oc18 kV18 dc18 pm18 cd18 ct18 oc19 kV19 dc19 pm19 cd19 ct19 oc20 kV20 dc20 pm20 cd20 ct20 oc21 kV21 dc21 pm21 cd21 ct21 oc22 kV22 dc22 pm22 cd22 ct22 oc23 kV23 dc23 pm23 cd23 ct23 oc24 kV24 dc24 pm24 cd24 ct24 oc25 kV25 dc25 pm25 cd25 ct25 oc26 kV26 dc26 pm26 cd26 ct26 oc27 kV27 dc27 pm27 cd27 ct27 oc28 kV28 dc28 pm28 cd28 ct28 oc29 kV29 dc29 pm29 cd29 ct29 oc30 kV30 dc30 pm30 cd30 ct30 oc31 kV31 dc31 pm31 cd31 ct31 : Value} {t_BOAT t_FIGURES t_LETTERS t_LONGEST_NAME t_MOST_BOATS t_MOST_CLAIM t_MOST_DEEP_customs t_MOST_DEEP_written t_MOST_FIGURES t_MOST_KIDS t_MOST_WEIGHT t_WAYS_0 t_WAYS_1 t_WAYS_2 t_WAYS_3 t_WAYS_4 t_WAYS_5 t_WEIGHED_ways_0 t_WEIGHED_ways_1 t_WEIGHED_written_0 t_WEIGHED_written_1 : Tok} {n_WAYS : Nat} {sl_WAYS : Array (Option Value)} {n_WEIGHED_ways : Nat} {sl_WEIGHED_ways : Array (Option Value)} {n_WEIGHED_written : Nat} {sl_WEIGHED_written : Array (Option Value)} (X : K.In h) (G : h.Ns mainGlobals mg) (hfa : mg "law" = some (.ref fa)) (hT : l.prog.given.tree = none)
    (aO0 : PySem.W.nsIn K mainGlobals "Reader" = some (some (.ref O0)))
    (pg0 : PySem.W.plainGet K O0 Str.empty = true)
    (hd_0 : PySem.W.hasDictIn K O0 = true)
    (po0 : PySem.W.plainOver K O0 = true)
    (sa0 : PySem.W.findIn K (.ref O0) "__setattr__" = some (some (.builtin "object.__setattr__")))
    (mkO0 : PySem.W.makesIn K O0 = true)
    (kO0 : PySem.W.keepIn K (.ref O0) = true)
    (na0_text : PySem.W.findIn K (.ref O0) "text" = some none)
    (na0_spot : PySem.W.findIn K (.ref O0) "spot" = some none)
    (na0_called : PySem.W.findIn K (.ref O0) "called" = some none)
    (a0 : PySem.W.nsIn K mainGlobals "boat" = some (some (.ref f0)))
    (l0 : K.lookup f0 = some ⟨oc0, od0, .func (PySem.W.fnOf "boat" "boat" (defArgs s_boat) (defBody s_boat) (defScope s_boat) .none kV0 dc0 pm0 an0 cd0 ct0), sl0⟩)
    (c0 : PySem.W.codeIn K cd0 "boat" = true)
    (k0 : PySem.W.keepIn K (.ref f0) = true)
    (a1 : PySem.W.nsIn K mainGlobals "_law_cell_at" = some (some (.ref f1)))
    (l1 : K.lookup f1 = some ⟨oc1, od1, .func (PySem.W.fnOf "_law_cell_at" "_law_cell_at" (defArgs s__law_cell_at) (defBody s__law_cell_at) (defScope s__law_cell_at) .none kV1 dc1 pm1 an1 cd1 ct1), sl1⟩)
    (c1 : PySem.W.codeIn K cd1 "_law_cell_at" = true)
    (k1 : PySem.W.keepIn K (.ref f1) = true)
    (a2 : PySem.W.nsIn K mainGlobals "_law_claim" = some (some (.ref f2)))
    (l2 : K.lookup f2 = some ⟨oc2, od2, .func (PySem.W.fnOf "_law_claim" "_law_claim" (defArgs s__law_claim) (defBody s__law_claim) (defScope s__law_claim) .none kV2 dc2 pm2 an2 cd2 ct2), sl2⟩)
    (c2 : PySem.W.codeIn K cd2 "_law_claim" = true)
    (k2 : PySem.W.keepIn K (.ref f2) = true)
    (a3 : PySem.W.nsIn K mainGlobals "look_at_weights" = some (some (.ref f3)))
    (l3 : K.lookup f3 = some ⟨oc3, od3, .func (PySem.W.fnOf "look_at_weights" "look_at_weights" (defArgs s_look_at_weights) (defBody s_look_at_weights) (defScope s_look_at_weights) .none kV3 dc3 pm3 an3 cd3 ct3), sl3⟩)
    (c3 : PySem.W.codeIn K cd3 "look_at_weights" = true)
    (k3 : PySem.W.keepIn K (.ref f3) = true)
    (a4 : PySem.W.nsIn K mainGlobals "is_boat" = some (some (.ref f4)))
    (l4 : K.lookup f4 = some ⟨oc4, od4, .func (PySem.W.fnOf "is_boat" "is_boat" (defArgs s_is_boat) (defBody s_is_boat) (defScope s_is_boat) .none kV4 dc4 pm4 an4 cd4 ct4), sl4⟩)
    (c4 : PySem.W.codeIn K cd4 "is_boat" = true)
    (k4 : PySem.W.keepIn K (.ref f4) = true)
    (a5 : PySem.W.nsIn K mainGlobals "claims_of" = some (some (.ref f5)))
    (l5 : K.lookup f5 = some ⟨oc5, od5, .func (PySem.W.fnOf "claims_of" "claims_of" (defArgs s_claims_of) (defBody s_claims_of) (defScope s_claims_of) .none kV5 dc5 pm5 an5 cd5 ct5), sl5⟩)
    (c5 : PySem.W.codeIn K cd5 "claims_of" = true)
    (k5 : PySem.W.keepIn K (.ref f5) = true)
    (a6 : PySem.W.nsIn K mainGlobals "deep_of" = some (some (.ref f6)))
    (l6 : K.lookup f6 = some ⟨oc6, od6, .func (PySem.W.fnOf "deep_of" "deep_of" (defArgs s_deep_of) (defBody s_deep_of) (defScope s_deep_of) .none kV6 dc6 pm6 an6 cd6 ct6), sl6⟩)
    (c6 : PySem.W.codeIn K cd6 "deep_of" = true)
    (k6 : PySem.W.keepIn K (.ref f6) = true)
    (a7 : PySem.W.nsIn K mainGlobals "knot" = some (some (.ref f7)))
    (l7 : K.lookup f7 = some ⟨oc7, od7, .func (PySem.W.fnOf "knot" "knot" (defArgs s_knot) (defBody s_knot) (defScope s_knot) .none kV7 dc7 pm7 an7 cd7 ct7), sl7⟩)
    (c7 : PySem.W.codeIn K cd7 "knot" = true)
    (k7 : PySem.W.keepIn K (.ref f7) = true)
    (a8 : PySem.W.nsIn K mainGlobals "_law_knot" = some (some (.ref f8)))
    (l8 : K.lookup f8 = some ⟨oc8, od8, .func (PySem.W.fnOf "_law_knot" "_law_knot" (defArgs s__law_knot) (defBody s__law_knot) (defScope s__law_knot) .none kV8 dc8 pm8 an8 cd8 ct8), sl8⟩)
    (c8 : PySem.W.codeIn K cd8 "_law_knot" = true)
    (k8 : PySem.W.keepIn K (.ref f8) = true)
    (a9 : PySem.W.nsIn K mainGlobals "_law_custom" = some (some (.ref f9)))
    (l9 : K.lookup f9 = some ⟨oc9, od9, .func (PySem.W.fnOf "_law_custom" "_law_custom" (defArgs s__law_custom) (defBody s__law_custom) (defScope s__law_custom) .none kV9 dc9 pm9 an9 cd9 ct9), sl9⟩)
    (c9 : PySem.W.codeIn K cd9 "_law_custom" = true)
    (k9 : PySem.W.keepIn K (.ref f9) = true)
    (a10 : PySem.W.nsIn K mainGlobals "_law_claims" = some (some (.ref f10)))
    (l10 : K.lookup f10 = some ⟨oc10, od10, .func (PySem.W.fnOf "_law_claims" "_law_claims" (defArgs s__law_claims) (defBody s__law_claims) (defScope s__law_claims) .none kV10 dc10 pm10 an10 cd10 ct10), sl10⟩)
    (c10 : PySem.W.codeIn K cd10 "_law_claims" = true)
    (k10 : PySem.W.keepIn K (.ref f10) = true)
    (a11 : PySem.W.nsIn K mainGlobals "_law_names" = some (some (.ref f11)))
    (l11 : K.lookup f11 = some ⟨oc11, od11, .func (PySem.W.fnOf "_law_names" "_law_names" (defArgs s__law_names) (defBody s__law_names) (defScope s__law_names) .none kV11 dc11 pm11 an11 cd11 ct11), sl11⟩)
    (c11 : PySem.W.codeIn K cd11 "_law_names" = true)
    (k11 : PySem.W.keepIn K (.ref f11) = true)
    (a12 : PySem.W.nsIn K mainGlobals "_law_text" = some (some (.ref f12)))
    (l12 : K.lookup f12 = some ⟨oc12, od12, .func (PySem.W.fnOf "_law_text" "_law_text" (defArgs s__law_text) (defBody s__law_text) (defScope s__law_text) .none kV12 dc12 pm12 an12 cd12 ct12), sl12⟩)
    (c12 : PySem.W.codeIn K cd12 "_law_text" = true)
    (k12 : PySem.W.keepIn K (.ref f12) = true)
    (a13 : PySem.W.nsIn K mainGlobals "_law_whole" = some (some (.ref f13)))
    (l13 : K.lookup f13 = some ⟨oc13, od13, .func (PySem.W.fnOf "_law_whole" "_law_whole" (defArgs s__law_whole) (defBody s__law_whole) (defScope s__law_whole) .none kV13 dc13 pm13 an13 cd13 ct13), sl13⟩)
    (c13 : PySem.W.codeIn K cd13 "_law_whole" = true)
    (k13 : PySem.W.keepIn K (.ref f13) = true)
    (a14 : PySem.W.nsIn K mainGlobals "_law_alike" = some (some (.ref f14)))
    (l14 : K.lookup f14 = some ⟨oc14, od14, .func (PySem.W.fnOf "_law_alike" "_law_alike" (defArgs s__law_alike) (defBody s__law_alike) (defScope s__law_alike) .none kV14 dc14 pm14 an14 cd14 ct14), sl14⟩)
    (c14 : PySem.W.codeIn K cd14 "_law_alike" = true)
    (k14 : PySem.W.keepIn K (.ref f14) = true)
    (a15 : PySem.W.nsIn K mainGlobals "_law_run" = some (some (.ref f15)))
    (l15 : K.lookup f15 = some ⟨oc15, od15, .func (PySem.W.fnOf "_law_run" "_law_run" (defArgs s__law_run) (defBody s__law_run) (defScope s__law_run) .none kV15 dc15 pm15 an15 cd15 ct15), sl15⟩)
    (c15 : PySem.W.codeIn K cd15 "_law_run" = true)
    (k15 : PySem.W.keepIn K (.ref f15) = true)
    (a16 : PySem.W.nsIn K mainGlobals "_law_read_number" = some (some (.ref f16)))
    (l16 : K.lookup f16 = some ⟨oc16, od16, .func (PySem.W.fnOf "_law_read_number" "_law_read_number" (defArgs s__law_read_number) (defBody s__law_read_number) (defScope s__law_read_number) .none kV16 dc16 pm16 an16 cd16 ct16), sl16⟩)
    (c16 : PySem.W.codeIn K cd16 "_law_read_number" = true)
    (k16 : PySem.W.keepIn K (.ref f16) = true)
    (a17 : PySem.W.nsIn K mainGlobals "_law_read_kids" = some (some (.ref f17)))
    (l17 : K.lookup f17 = some ⟨oc17, od17, .func (PySem.W.fnOf "_law_read_kids" "_law_read_kids" (defArgs s__law_read_kids) (defBody s__law_read_kids) (defScope s__law_read_kids) .none kV17 dc17 pm17 an17 cd17 ct17), sl17⟩)
    (c17 : PySem.W.codeIn K cd17 "_law_read_kids" = true)
    (k17 : PySem.W.keepIn K (.ref f17) = true)
    (a18 : PySem.W.nsIn K mainGlobals "_law_read_custom" = some (some (.ref f18)))
    (l18 : K.lookup f18 = some ⟨oc18, od18, .func (PySem.W.fnOf "_law_read_custom" "_law_read_custom" (defArgs s__law_read_custom) (defBody s__law_read_custom) (defScope s__law_read_custom) .none kV18 dc18 pm18 an18 cd18 ct18), sl18⟩)
    (c18 : PySem.W.codeIn K cd18 "_law_read_custom" = true)
    (k18 : PySem.W.keepIn K (.ref f18) = true)
    (a19 : PySem.W.nsIn K mainGlobals "_law_read" = some (some (.ref f19)))
    (l19 : K.lookup f19 = some ⟨oc19, od19, .func (PySem.W.fnOf "_law_read" "_law_read" (defArgs s__law_read) (defBody s__law_read) (defScope s__law_read) .none kV19 dc19 pm19 an19 cd19 ct19), sl19⟩)
    (c19 : PySem.W.codeIn K cd19 "_law_read" = true)
    (k19 : PySem.W.keepIn K (.ref f19) = true)
    (a20 : PySem.W.nsIn K mainGlobals "_law_spoiled" = some (some (.ref f20)))
    (l20 : K.lookup f20 = some ⟨oc20, od20, .func (PySem.W.fnOf "_law_spoiled" "_law_spoiled" (defArgs s__law_spoiled) (defBody s__law_spoiled) (defScope s__law_spoiled) .none kV20 dc20 pm20 an20 cd20 ct20), sl20⟩)
    (c20 : PySem.W.codeIn K cd20 "_law_spoiled" = true)
    (k20 : PySem.W.keepIn K (.ref f20) = true)
    (a21 : PySem.W.nsIn K mainGlobals "is_name" = some (some (.ref f21)))
    (l21 : K.lookup f21 = some ⟨oc21, od21, .func (PySem.W.fnOf "is_name" "is_name" (defArgs s_is_name) (defBody s_is_name) (defScope s_is_name) .none kV21 dc21 pm21 an21 cd21 ct21), sl21⟩)
    (c21 : PySem.W.codeIn K cd21 "is_name" = true)
    (k21 : PySem.W.keepIn K (.ref f21) = true)
    (a22 : PySem.W.nsIn K mainGlobals "look_at_names" = some (some (.ref f22)))
    (l22 : K.lookup f22 = some ⟨oc22, od22, .func (PySem.W.fnOf "look_at_names" "look_at_names" (defArgs s_look_at_names) (defBody s_look_at_names) (defScope s_look_at_names) .none kV22 dc22 pm22 an22 cd22 ct22), sl22⟩)
    (c22 : PySem.W.codeIn K cd22 "look_at_names" = true)
    (k22 : PySem.W.keepIn K (.ref f22) = true)
    (a23 : PySem.W.findIn K (.ref O0) "__init__" = some (some (.ref f23)))
    (i23 : PySem.W.isFn K (.ref f23) = true)
    (l23 : K.lookup f23 = some ⟨oc23, od23, .func (PySem.W.fnOf "__init__" "Reader.__init__" (defArgs s_Reader___init__) (defBody s_Reader___init__) (defScope s_Reader___init__) .none kV23 dc23 pm23 an23 cd23 ct23), sl23⟩)
    (c23 : PySem.W.codeIn K cd23 "Reader.__init__" = true)
    (k23 : PySem.W.keepIn K (.ref f23) = true)
    (a24 : PySem.W.nsIn K mainGlobals "number_in" = some (some (.ref f24)))
    (l24 : K.lookup f24 = some ⟨oc24, od24, .func (PySem.W.fnOf "number_in" "number_in" (defArgs s_number_in) (defBody s_number_in) (defScope s_number_in) .none kV24 dc24 pm24 an24 cd24 ct24), sl24⟩)
    (c24 : PySem.W.codeIn K cd24 "number_in" = true)
    (k24 : PySem.W.keepIn K (.ref f24) = true)
    (a25 : PySem.W.findIn K (.ref O0) "run_of" = some (some (.ref f25)))
    (i25 : PySem.W.isFn K (.ref f25) = true)
    (l25 : K.lookup f25 = some ⟨oc25, od25, .func (PySem.W.fnOf "run_of" "Reader.run_of" (defArgs s_Reader_run_of) (defBody s_Reader_run_of) (defScope s_Reader_run_of) .none kV25 dc25 pm25 an25 cd25 ct25), sl25⟩)
    (c25 : PySem.W.codeIn K cd25 "Reader.run_of" = true)
    (k25 : PySem.W.keepIn K (.ref f25) = true)
    (a26 : PySem.W.findIn K (.ref O0) "meets" = some (some (.ref f26)))
    (i26 : PySem.W.isFn K (.ref f26) = true)
    (l26 : K.lookup f26 = some ⟨oc26, od26, .func (PySem.W.fnOf "meets" "Reader.meets" (defArgs s_Reader_meets) (defBody s_Reader_meets) (defScope s_Reader_meets) .none kV26 dc26 pm26 an26 cd26 ct26), sl26⟩)
    (c26 : PySem.W.codeIn K cd26 "Reader.meets" = true)
    (k26 : PySem.W.keepIn K (.ref f26) = true)
    (a27 : PySem.W.findIn K (.ref O0) "must_meet" = some (some (.ref f27)))
    (i27 : PySem.W.isFn K (.ref f27) = true)
    (l27 : K.lookup f27 = some ⟨oc27, od27, .func (PySem.W.fnOf "must_meet" "Reader.must_meet" (defArgs s_Reader_must_meet) (defBody s_Reader_must_meet) (defScope s_Reader_must_meet) .none kV27 dc27 pm27 an27 cd27 ct27), sl27⟩)
    (c27 : PySem.W.codeIn K cd27 "Reader.must_meet" = true)
    (k27 : PySem.W.keepIn K (.ref f27) = true)
    (a28 : PySem.W.findIn K (.ref O0) "custom_here" = some (some (.ref f28)))
    (i28 : PySem.W.isFn K (.ref f28) = true)
    (l28 : K.lookup f28 = some ⟨oc28, od28, .func (PySem.W.fnOf "custom_here" "Reader.custom_here" (defArgs s_Reader_custom_here) (defBody s_Reader_custom_here) (defScope s_Reader_custom_here) .none kV28 dc28 pm28 an28 cd28 ct28), sl28⟩)
    (c28 : PySem.W.codeIn K cd28 "Reader.custom_here" = true)
    (k28 : PySem.W.keepIn K (.ref f28) = true)
    (a29 : PySem.W.nsIn K mainGlobals "read" = some (some (.ref f29)))
    (l29 : K.lookup f29 = some ⟨oc29, od29, .func (PySem.W.fnOf "read" "read" (defArgs s_read) (defBody s_read) (defScope s_read) .none kV29 dc29 pm29 an29 cd29 ct29), sl29⟩)
    (c29 : PySem.W.codeIn K cd29 "read" = true)
    (k29 : PySem.W.keepIn K (.ref f29) = true)
    (a30 : PySem.W.nsIn K mainGlobals "_law_found" = some (some (.ref f30)))
    (l30 : K.lookup f30 = some ⟨oc30, od30, .func (PySem.W.fnOf "_law_found" "_law_found" (defArgs s__law_found) (defBody s__law_found) (defScope s__law_found) .none kV30 dc30 pm30 an30 cd30 ct30), sl30⟩)
    (c30 : PySem.W.codeIn K cd30 "_law_found" = true)
    (k30 : PySem.W.keepIn K (.ref f30) = true)
    (a31 : PySem.W.nsIn K mainGlobals "law" = some (some (.ref f31)))
    (l31 : K.lookup f31 = some ⟨oc31, od31, .func (PySem.W.fnOf "law" "law" (defArgs s_law) (defBody s_law) (defScope s_law) .none kV31 dc31 pm31 an31 cd31 ct31), sl31⟩)
    (c31 : PySem.W.codeIn K cd31 "law" = true)
    (k31 : PySem.W.keepIn K (.ref f31) = true)
    (aC0 : PySem.W.nsIn K mainGlobals "CatchError" = some (some (.ref C0)))
    (xC0 : PySem.W.excIn K C0 [.type "ValueError", .type "Exception", .type "BaseException", .type "object"] "ValueError.__new__" = true)
    (kC0 : PySem.W.keepIn K (.ref C0) = true)
    (bC0 : PySem.W.subIn K (.ref C0) (.type "BaseException") = some true)
    (tC0 : PySem.W.typeIn K (.ref C0) = some (.type "type"))
    (hg0 : PySem.W.findIn K (.ref C0) "__getattribute__" = some (some (.builtin "BaseException.__getattribute__")))
    (hk0 : PySem.W.findIn K (.ref C0) "__getattr__" = some none)
    (hd0 : PySem.W.hasDictIn K C0 = true)
    (ha0 : PySem.W.findIn K (.ref C0) "__class__" = some (some (.builtin "object.__class__")))
    (hm0 : PySem.W.mroIn K C0 (.type "object") = some true)
    (aC1 : PySem.W.nsIn K mainGlobals "NoFraction" = some (some (.ref C1)))
    (xC1 : PySem.W.excIn K C1 [.type "ValueError", .type "Exception", .type "BaseException", .type "object"] "ValueError.__new__" = true)
    (kC1 : PySem.W.keepIn K (.ref C1) = true)
    (bC1 : PySem.W.subIn K (.ref C1) (.type "BaseException") = some true)
    (tC1 : PySem.W.typeIn K (.ref C1) = some (.type "type"))
    (hg1 : PySem.W.findIn K (.ref C1) "__getattribute__" = some (some (.builtin "BaseException.__getattribute__")))
    (hk1 : PySem.W.findIn K (.ref C1) "__getattr__" = some none)
    (hd1 : PySem.W.hasDictIn K C1 = true)
    (ha1 : PySem.W.findIn K (.ref C1) "__class__" = some (some (.builtin "object.__class__")))
    (hm1 : PySem.W.mroIn K C1 (.type "object") = some true)
    (aC2 : PySem.W.nsIn K mainGlobals "BadLine" = some (some (.ref C2)))
    (xC2 : PySem.W.excIn K C2 [.type "ValueError", .type "Exception", .type "BaseException", .type "object"] "ValueError.__new__" = true)
    (kC2 : PySem.W.keepIn K (.ref C2) = true)
    (bC2 : PySem.W.subIn K (.ref C2) (.type "BaseException") = some true)
    (tC2 : PySem.W.typeIn K (.ref C2) = some (.type "type"))
    (hg2 : PySem.W.findIn K (.ref C2) "__getattribute__" = some (some (.builtin "BaseException.__getattribute__")))
    (hk2 : PySem.W.findIn K (.ref C2) "__getattr__" = some none)
    (hd2 : PySem.W.hasDictIn K C2 = true)
    (ha2 : PySem.W.findIn K (.ref C2) "__class__" = some (some (.builtin "object.__class__")))
    (hm2 : PySem.W.mroIn K C2 (.type "object") = some true)
    (aC3 : PySem.W.nsIn K mainGlobals "Outside" = some (some (.ref C3)))
    (xC3 : PySem.W.excIn K C3 [.type "ValueError", .type "Exception", .type "BaseException", .type "object"] "ValueError.__new__" = true)
    (kC3 : PySem.W.keepIn K (.ref C3) = true)
    (bC3 : PySem.W.subIn K (.ref C3) (.type "BaseException") = some true)
    (tC3 : PySem.W.typeIn K (.ref C3) = some (.type "type"))
    (hg3 : PySem.W.findIn K (.ref C3) "__getattribute__" = some (some (.builtin "BaseException.__getattribute__")))
    (hk3 : PySem.W.findIn K (.ref C3) "__getattr__" = some none)
    (hd3 : PySem.W.hasDictIn K C3 = true)
    (ha3 : PySem.W.findIn K (.ref C3) "__class__" = some (some (.builtin "object.__class__")))
    (hm3 : PySem.W.mroIn K C3 (.type "object") = some true)
    (aC4 : PySem.W.nsIn K mainGlobals "Unlike" = some (some (.ref C4)))
    (xC4 : PySem.W.excIn K C4 [.type "ValueError", .type "Exception", .type "BaseException", .type "object"] "ValueError.__new__" = true)
    (kC4 : PySem.W.keepIn K (.ref C4) = true)
    (bC4 : PySem.W.subIn K (.ref C4) (.type "BaseException") = some true)
    (tC4 : PySem.W.typeIn K (.ref C4) = some (.type "type"))
    (hg4 : PySem.W.findIn K (.ref C4) "__getattribute__" = some (some (.builtin "BaseException.__getattribute__")))
    (hk4 : PySem.W.findIn K (.ref C4) "__getattr__" = some none)
    (hd4 : PySem.W.hasDictIn K C4 = true)
    (ha4 : PySem.W.findIn K (.ref C4) "__class__" = some (some (.builtin "object.__class__")))
    (hm4 : PySem.W.mroIn K C4 (.type "object") = some true)
    (aC5 : PySem.W.nsIn K mainGlobals "BadWay" = some (some (.ref C5)))
    (xC5 : PySem.W.excIn K C5 [.type "ValueError", .type "Exception", .type "BaseException", .type "object"] "ValueError.__new__" = true)
    (kC5 : PySem.W.keepIn K (.ref C5) = true)
    (bC5 : PySem.W.subIn K (.ref C5) (.type "BaseException") = some true)
    (tC5 : PySem.W.typeIn K (.ref C5) = some (.type "type"))
    (hg5 : PySem.W.findIn K (.ref C5) "__getattribute__" = some (some (.builtin "BaseException.__getattribute__")))
    (hk5 : PySem.W.findIn K (.ref C5) "__getattr__" = some none)
    (hd5 : PySem.W.hasDictIn K C5 = true)
    (ha5 : PySem.W.findIn K (.ref C5) "__class__" = some (some (.builtin "object.__class__")))
    (hm5 : PySem.W.mroIn K C5 (.type "object") = some true)
    (aC6 : PySem.W.nsIn K mainGlobals "BadWeights" = some (some (.ref C6)))
    (xC6 : PySem.W.excIn K C6 [.type "ValueError", .type "Exception", .type "BaseException", .type "object"] "ValueError.__new__" = true)
    (kC6 : PySem.W.keepIn K (.ref C6) = true)
    (bC6 : PySem.W.subIn K (.ref C6) (.type "BaseException") = some true)
    (tC6 : PySem.W.typeIn K (.ref C6) = some (.type "type"))
    (hg6 : PySem.W.findIn K (.ref C6) "__getattribute__" = some (some (.builtin "BaseException.__getattribute__")))
    (hk6 : PySem.W.findIn K (.ref C6) "__getattr__" = some none)
    (hd6 : PySem.W.hasDictIn K C6 = true)
    (ha6 : PySem.W.findIn K (.ref C6) "__class__" = some (some (.builtin "object.__class__")))
    (hm6 : PySem.W.mroIn K C6 (.type "object") = some true)
    (aC7 : PySem.W.nsIn K mainGlobals "BadClaim" = some (some (.ref C7)))
    (xC7 : PySem.W.excIn K C7 [.type "ValueError", .type "Exception", .type "BaseException", .type "object"] "ValueError.__new__" = true)
    (kC7 : PySem.W.keepIn K (.ref C7) = true)
    (bC7 : PySem.W.subIn K (.ref C7) (.type "BaseException") = some true)
    (tC7 : PySem.W.typeIn K (.ref C7) = some (.type "type"))
    (hg7 : PySem.W.findIn K (.ref C7) "__getattribute__" = some (some (.builtin "BaseException.__getattribute__")))
    (hk7 : PySem.W.findIn K (.ref C7) "__getattr__" = some none)
    (hd7 : PySem.W.hasDictIn K C7 = true)
    (ha7 : PySem.W.findIn K (.ref C7) "__class__" = some (some (.builtin "object.__class__")))
    (hm7 : PySem.W.mroIn K C7 (.type "object") = some true)
    (aC8 : PySem.W.nsIn K mainGlobals "TooMany" = some (some (.ref C8)))
    (xC8 : PySem.W.excIn K C8 [.type "ValueError", .type "Exception", .type "BaseException", .type "object"] "ValueError.__new__" = true)
    (kC8 : PySem.W.keepIn K (.ref C8) = true)
    (bC8 : PySem.W.subIn K (.ref C8) (.type "BaseException") = some true)
    (tC8 : PySem.W.typeIn K (.ref C8) = some (.type "type"))
    (hg8 : PySem.W.findIn K (.ref C8) "__getattribute__" = some (some (.builtin "BaseException.__getattribute__")))
    (hk8 : PySem.W.findIn K (.ref C8) "__getattr__" = some none)
    (hd8 : PySem.W.hasDictIn K C8 = true)
    (ha8 : PySem.W.findIn K (.ref C8) "__class__" = some (some (.builtin "object.__class__")))
    (hm8 : PySem.W.mroIn K C8 (.type "object") = some true)
    (aC9 : PySem.W.nsIn K mainGlobals "NoBoat" = some (some (.ref C9)))
    (xC9 : PySem.W.excIn K C9 [.type "ValueError", .type "Exception", .type "BaseException", .type "object"] "ValueError.__new__" = true)
    (kC9 : PySem.W.keepIn K (.ref C9) = true)
    (bC9 : PySem.W.subIn K (.ref C9) (.type "BaseException") = some true)
    (tC9 : PySem.W.typeIn K (.ref C9) = some (.type "type"))
    (hg9 : PySem.W.findIn K (.ref C9) "__getattribute__" = some (some (.builtin "BaseException.__getattribute__")))
    (hk9 : PySem.W.findIn K (.ref C9) "__getattr__" = some none)
    (hd9 : PySem.W.hasDictIn K C9 = true)
    (ha9 : PySem.W.findIn K (.ref C9) "__class__" = some (some (.builtin "object.__class__")))
    (hm9 : PySem.W.mroIn K C9 (.type "object") = some true)
    (aC10 : PySem.W.nsIn K mainGlobals "BadCatch" = some (some (.ref C10)))
    (xC10 : PySem.W.excIn K C10 [.type "ValueError", .type "Exception", .type "BaseException", .type "object"] "ValueError.__new__" = true)
    (kC10 : PySem.W.keepIn K (.ref C10) = true)
    (bC10 : PySem.W.subIn K (.ref C10) (.type "BaseException") = some true)
    (tC10 : PySem.W.typeIn K (.ref C10) = some (.type "type"))
    (hg10 : PySem.W.findIn K (.ref C10) "__getattribute__" = some (some (.builtin "BaseException.__getattribute__")))
    (hk10 : PySem.W.findIn K (.ref C10) "__getattr__" = some none)
    (hd10 : PySem.W.hasDictIn K C10 = true)
    (ha10 : PySem.W.findIn K (.ref C10) "__class__" = some (some (.builtin "object.__class__")))
    (hm10 : PySem.W.mroIn K C10 (.type "object") = some true)
    (aC11 : PySem.W.nsIn K mainGlobals "NoText" = some (some (.ref C11)))
    (xC11 : PySem.W.excIn K C11 [.type "ValueError", .type "Exception", .type "BaseException", .type "object"] "ValueError.__new__" = true)
    (kC11 : PySem.W.keepIn K (.ref C11) = true)
    (bC11 : PySem.W.subIn K (.ref C11) (.type "BaseException") = some true)
    (tC11 : PySem.W.typeIn K (.ref C11) = some (.type "type"))
    (hg11 : PySem.W.findIn K (.ref C11) "__getattribute__" = some (some (.builtin "BaseException.__getattribute__")))
    (hk11 : PySem.W.findIn K (.ref C11) "__getattr__" = some none)
    (hd11 : PySem.W.hasDictIn K C11 = true)
    (ha11 : PySem.W.findIn K (.ref C11) "__class__" = some (some (.builtin "object.__class__")))
    (hm11 : PySem.W.mroIn K C11 (.type "object") = some true)
    (hn : PySem.W.specialIn K (.builtin "object.__class__") "__get__" = some (some (.builtin "getset_descriptor.__get__")))
    (ht : PySem.W.takesIn K (.builtin "object.__class__") = some true)
    (h_NoText_CatchError : PySem.W.exmOne K (.ref C11) (.ref C0) = some true)
    (h_BadClaim_CatchError : PySem.W.exmOne K (.ref C7) (.ref C0) = some true)
    (h_BadWay_CatchError : PySem.W.exmOne K (.ref C5) (.ref C0) = some true)
    (h_BadWeights_CatchError : PySem.W.exmOne K (.ref C6) (.ref C0) = some true)
    (h_TooMany_CatchError : PySem.W.exmOne K (.ref C8) (.ref C0) = some true)
    (y_NoText_NoText : PySem.W.kitOne K (.ref C11) (.ref C11) = some true)
    (y_NoText_ValueError : PySem.W.kitOne K (.ref C11) (.type "ValueError") = some true)
    (n_NoText_BadCatch : PySem.W.kitOne K (.ref C11) (.ref C10) = some false)
    (n_NoText_BadClaim : PySem.W.kitOne K (.ref C11) (.ref C7) = some false)
    (n_NoText_BadLine : PySem.W.kitOne K (.ref C11) (.ref C2) = some false)
    (n_NoText_BadWay : PySem.W.kitOne K (.ref C11) (.ref C5) = some false)
    (n_NoText_BadWeights : PySem.W.kitOne K (.ref C11) (.ref C6) = some false)
    (n_NoText_NoBoat : PySem.W.kitOne K (.ref C11) (.ref C9) = some false)
    (n_NoText_NoFraction : PySem.W.kitOne K (.ref C11) (.ref C1) = some false)
    (n_NoText_Outside : PySem.W.kitOne K (.ref C11) (.ref C3) = some false)
    (n_NoText_TooMany : PySem.W.kitOne K (.ref C11) (.ref C8) = some false)
    (n_NoText_Unlike : PySem.W.kitOne K (.ref C11) (.ref C4) = some false)
    (mk_BOAT : PySem.W.nsIn K mainGlobals "BOAT" = some (some (.str "boat" t_BOAT)))
    (mk_FIGURES : PySem.W.nsIn K mainGlobals "FIGURES" = some (some (.str "0123456789" t_FIGURES)))
    (mk_LETTERS : PySem.W.nsIn K mainGlobals "LETTERS" = some (some (.str "abcdefghijklmnopqrstuvwxyz" t_LETTERS)))
    (mk_LONGEST_NAME : PySem.W.nsIn K mainGlobals "LONGEST_NAME" = some (some (.int 12 t_LONGEST_NAME)))
    (mk_MOST_BOATS : PySem.W.nsIn K mainGlobals "MOST_BOATS" = some (some (.int 12 t_MOST_BOATS)))
    (mk_MOST_CLAIM : PySem.W.nsIn K mainGlobals "MOST_CLAIM" = some (some (.int 1000000000 t_MOST_CLAIM)))
    (mk_MOST_DEEP_customs : PySem.W.nsIn K mainGlobals "MOST_DEEP_customs" = some (some (.int 8 t_MOST_DEEP_customs)))
    (mk_MOST_DEEP_written : PySem.W.nsIn K mainGlobals "MOST_DEEP_written" = some (some (.int 8 t_MOST_DEEP_written)))
    (mk_MOST_FIGURES : PySem.W.nsIn K mainGlobals "MOST_FIGURES" = some (some (.int 13 t_MOST_FIGURES)))
    (mk_MOST_KIDS : PySem.W.nsIn K mainGlobals "MOST_KIDS" = some (some (.int 12 t_MOST_KIDS)))
    (mk_MOST_WEIGHT : PySem.W.nsIn K mainGlobals "MOST_WEIGHT" = some (some (.int 1000000 t_MOST_WEIGHT)))
    (mk_WAYS : PySem.W.nsIn K mainGlobals "WAYS" = some (some (.ref N_WAYS)))
    (lk_WAYS : K.lookup N_WAYS = some ⟨.type "tuple", none, .seq #[.str "row" t_WAYS_0, .str "back" t_WAYS_1, .str "even" t_WAYS_2, .str "lack" t_WAYS_3, .str "part" t_WAYS_4, .str "half" t_WAYS_5] n_WAYS, sl_WAYS⟩)
    (mk_WEIGHED_ways : PySem.W.nsIn K mainGlobals "WEIGHED_ways" = some (some (.ref N_WEIGHED_ways)))
    (lk_WEIGHED_ways : K.lookup N_WEIGHED_ways = some ⟨.type "tuple", none, .seq #[.str "even" t_WEIGHED_ways_0, .str "lack" t_WEIGHED_ways_1] n_WEIGHED_ways, sl_WEIGHED_ways⟩)
    (mk_WEIGHED_written : PySem.W.nsIn K mainGlobals "WEIGHED_written" = some (some (.ref N_WEIGHED_written)))
    (lk_WEIGHED_written : K.lookup N_WEIGHED_written = some ⟨.type "tuple", none, .seq #[.str "even" t_WEIGHED_written_0, .str "lack" t_WEIGHED_written_1] n_WEIGHED_written, sl_WEIGHED_written⟩)
    (z_ValueError : PySem.W.nsIn K mainGlobals "ValueError" = some none)
    (z_all : PySem.W.nsIn K mainGlobals "all" = some none)
    (z_bool : PySem.W.nsIn K mainGlobals "bool" = some none)
    (z_int : PySem.W.nsIn K mainGlobals "int" = some none)
    (z_isinstance : PySem.W.nsIn K mainGlobals "isinstance" = some none)
    (z_len : PySem.W.nsIn K mainGlobals "len" = some none)
    (z_list : PySem.W.nsIn K mainGlobals "list" = some none)
    (z_max : PySem.W.nsIn K mainGlobals "max" = some none)
    (z_min : PySem.W.nsIn K mainGlobals "min" = some none)
    (z_range : PySem.W.nsIn K mainGlobals "range" = some none)
    (z_set : PySem.W.nsIn K mainGlobals "set" = some none)
    (z_str : PySem.W.nsIn K mainGlobals "str" = some none)
    (z_tuple : PySem.W.nsIn K mainGlobals "tuple" = some none) :
    ∃ fd : FuncData, (∀ (s : Shared) (v : Value), BindsTo s fd ⟨[v], []⟩ [("script", v)]) ∧ ∀ base : Heap, K.In base → base.Ns mainGlobals mg → base.NoSeer → FnOk l.prog w K mg base CX0 43 fa fd ["script"] (spc K cLaw) := by
  have e := hfa.symm.trans (PySem.W.mg_of X G a31)
  cases e
  have F0 := fun_mk (st := s_boat) l0 c0 k0
  have b0 := F0.binds (ps := ["claim"]) fun _ _ _ _ _ _ us hl => match us, hl with | [_], _ => rfl
  have F1 := fun_mk (st := s__law_cell_at) l1 c1 k1
  have b1 := F1.binds (ps := ["script", "k"]) fun _ _ _ _ _ _ us hl => match us, hl with | [_, _], _ => rfl
  have F2 := fun_mk (st := s__law_claim) l2 c2 k2
  have b2 := F2.binds (ps := ["cell", "kind"]) fun _ _ _ _ _ _ us hl => match us, hl with | [_, _], _ => rfl
  have F3 := fun_mk (st := s_look_at_weights) l3 c3 k3
  have b3 := F3.binds (ps := ["way", "weights", "many"]) fun _ _ _ _ _ _ us hl => match us, hl with | [_, _, _], _ => rfl
  have F4 := fun_mk (st := s_is_boat) l4 c4 k4
  have b4 := F4.binds (ps := ["custom"]) fun _ _ _ _ _ _ us hl => match us, hl with | [_], _ => rfl
  have F5 := fun_mk (st := s_claims_of) l5 c5 k5
  have b5 := F5.binds (ps := ["custom"]) fun _ _ _ _ _ _ us hl => match us, hl with | [_], _ => rfl
  have F6 := fun_mk (st := s_deep_of) l6 c6 k6
  have b6 := F6.binds (ps := ["custom"]) fun _ _ _ _ _ _ us hl => match us, hl with | [_], _ => rfl
  have F7 := fun_mk (st := s_knot) l7 c7 k7
  have b7 := F7.binds (ps := ["way", "weights", "kids"]) fun _ _ _ _ _ _ us hl => match us, hl with | [_, _, _], _ => rfl
  have F8 := fun_mk (st := s__law_knot) l8 c8 k8
  have b8 := F8.binds (ps := ["cell", "kids"]) fun _ _ _ _ _ _ us hl => match us, hl with | [_, _], _ => rfl
  have F9 := fun_mk (st := s__law_custom) l9 c9 k9
  have b9 := F9.binds (ps := ["script"]) fun _ _ _ _ _ _ us hl => match us, hl with | [_], _ => rfl
  have F10 := fun_mk (st := s__law_claims) l10 c10 k10
  have b10 := F10.binds (ps := ["custom"]) fun _ _ _ _ _ _ us hl => match us, hl with | [_], _ => rfl
  have F11 := fun_mk (st := s__law_names) l11 c11 k11
  have b11 := F11.binds (ps := ["script", "many"]) fun _ _ _ _ _ _ us hl => match us, hl with | [_, _], _ => rfl
  have F12 := fun_mk (st := s__law_text) l12 c12 k12
  have b12 := F12.binds (ps := ["custom", "names", "at"]) fun _ _ _ _ _ _ us hl => match us, hl with | [_, _, _], _ => rfl
  have F13 := fun_mk (st := s__law_whole) l13 c13 k13
  have b13 := F13.binds (ps := ["found"]) fun _ _ _ _ _ _ us hl => match us, hl with | [_], _ => rfl
  have F14 := fun_mk (st := s__law_alike) l14 c14 k14
  have b14 := F14.binds (ps := ["found", "due"]) fun _ _ _ _ _ _ us hl => match us, hl with | [_, _], _ => rfl
  have F15 := fun_mk (st := s__law_run) l15 c15 k15
  have b15 := F15.binds (ps := ["text", "at", "signs"]) fun _ _ _ _ _ _ us hl => match us, hl with | [_, _, _], _ => rfl
  have F16 := fun_mk (st := s__law_read_number) l16 c16 k16
  have b16 := F16.binds (ps := ["text", "at", "least", "most"]) fun _ _ _ _ _ _ us hl => match us, hl with | [_, _, _, _], _ => rfl
  have F17 := fun_mk (st := s__law_read_kids) l17 c17 k17
  have b17 := F17.binds (ps := ["text", "at", "deep", "word"]) fun _ _ _ _ _ _ us hl => match us, hl with | [_, _, _, _], _ => rfl
  have F18 := fun_mk (st := s__law_read_custom) l18 c18 k18
  have b18 := F18.binds (ps := ["text", "at", "deep"]) fun _ _ _ _ _ _ us hl => match us, hl with | [_, _, _], _ => rfl
  have F19 := fun_mk (st := s__law_read) l19 c19 k19
  have b19 := F19.binds (ps := ["text"]) fun _ _ _ _ _ _ us hl => match us, hl with | [_], _ => rfl
  have F20 := fun_mk (st := s__law_spoiled) l20 c20 k20
  have b20 := F20.binds (ps := ["text", "cell"]) fun _ _ _ _ _ _ us hl => match us, hl with | [_, _], _ => rfl
  have F21 := fun_mk (st := s_is_name) l21 c21 k21
  have b21 := F21.binds (ps := ["word"]) fun _ _ _ _ _ _ us hl => match us, hl with | [_], _ => rfl
  have F22 := fun_mk (st := s_look_at_names) l22 c22 k22
  have b22 := F22.binds (ps := ["custom", "names"]) fun _ _ _ _ _ _ us hl => match us, hl with | [_, _], _ => rfl
  have F23 := fun_mk (st := s_Reader___init__) l23 c23 k23
  have b23 := F23.binds (ps := ["self", "text"]) fun _ _ _ _ _ _ us hl => match us, hl with | [_, _], _ => rfl
  have F24 := fun_mk (st := s_number_in) l24 c24 k24
  have b24 := F24.binds (ps := ["word"]) fun _ _ _ _ _ _ us hl => match us, hl with | [_], _ => rfl
  have F25 := fun_mk (st := s_Reader_run_of) l25 c25 k25
  have b25 := F25.binds (ps := ["self", "signs"]) fun _ _ _ _ _ _ us hl => match us, hl with | [_, _], _ => rfl
  have F26 := fun_mk (st := s_Reader_meets) l26 c26 k26
  have b26 := F26.binds (ps := ["self", "signs"]) fun _ _ _ _ _ _ us hl => match us, hl with | [_, _], _ => rfl
  have F27 := fun_mk (st := s_Reader_must_meet) l27 c27 k27
  have b27 := F27.binds (ps := ["self", "signs"]) fun _ _ _ _ _ _ us hl => match us, hl with | [_, _], _ => rfl
  have F28 := fun_mk (st := s_Reader_custom_here) l28 c28 k28
  have b28 := F28.binds (ps := ["self", "deep"]) fun _ _ _ _ _ _ us hl => match us, hl with | [_, _], _ => rfl
  have F29 := fun_mk (st := s_read) l29 c29 k29
  have b29 := F29.binds (ps := ["text"]) fun _ _ _ _ _ _ us hl => match us, hl with | [_], _ => rfl
  have F30 := fun_mk (st := s__law_found) l30 c30 k30
  have b30 := F30.binds (ps := ["text"]) fun _ _ _ _ _ _ us hl => match us, hl with | [_], _ => rfl
  have F31 := fun_mk (st := s_law) l31 c31 k31
  have b31 := F31.binds (ps := ["script"]) fun _ _ _ _ _ _ us hl => match us, hl with | [_], _ => rfl
  have T : Txt K mg (⟨f0, f1, f2, f3, f4, f5, f6, f7, f8, f9, f10, f11, f12, f13, f14, f15, f16, f17, f18, f19, f20, f21, f22, f23, f24, f25, f26, f27, f28, f29, f30, f31, C0, C1, C2, C3, C4, C5, C6, C7, C8, C9, C10, C11, O0, N_WAYS, N_WEIGHED_ways, N_WEIGHED_written⟩ : Ad) := { f_boat := ⟨PySem.W.mg_of X G a0, _, F0, b0⟩, f__law_cell_at := ⟨PySem.W.mg_of X G a1, _, F1, b1⟩, f__law_claim := ⟨PySem.W.mg_of X G a2, _, F2, b2⟩, f_look_at_weights := ⟨PySem.W.mg_of X G a3, _, F3, b3⟩, f_is_boat := ⟨PySem.W.mg_of X G a4, _, F4, b4⟩, f_claims_of := ⟨PySem.W.mg_of X G a5, _, F5, b5⟩, f_deep_of := ⟨PySem.W.mg_of X G a6, _, F6, b6⟩, f_knot := ⟨PySem.W.mg_of X G a7, _, F7, b7⟩, f__law_knot := ⟨PySem.W.mg_of X G a8, _, F8, b8⟩, f__law_custom := ⟨PySem.W.mg_of X G a9, _, F9, b9⟩, f__law_claims := ⟨PySem.W.mg_of X G a10, _, F10, b10⟩, f__law_names := ⟨PySem.W.mg_of X G a11, _, F11, b11⟩, f__law_text := ⟨PySem.W.mg_of X G a12, _, F12, b12⟩, f__law_whole := ⟨PySem.W.mg_of X G a13, _, F13, b13⟩, f__law_alike := ⟨PySem.W.mg_of X G a14, _, F14, b14⟩, f__law_run := ⟨PySem.W.mg_of X G a15, _, F15, b15⟩, f__law_read_number := ⟨PySem.W.mg_of X G a16, _, F16, b16⟩, f__law_read_kids := ⟨PySem.W.mg_of X G a17, _, F17, b17⟩, f__law_read_custom := ⟨PySem.W.mg_of X G a18, _, F18, b18⟩, f__law_read := ⟨PySem.W.mg_of X G a19, _, F19, b19⟩, f__law_spoiled := ⟨PySem.W.mg_of X G a20, _, F20, b20⟩, f_is_name := ⟨PySem.W.mg_of X G a21, _, F21, b21⟩, f_look_at_names := ⟨PySem.W.mg_of X G a22, _, F22, b22⟩, f_Reader___init__ := ⟨⟨mkO0, a23, i23, kO0⟩, _, F23, b23⟩, f_number_in := ⟨PySem.W.mg_of X G a24, _, F24, b24⟩, f_Reader_run_of := ⟨⟨a25, i25, k25⟩, _, F25, b25⟩, f_Reader_meets := ⟨⟨a26, i26, k26⟩, _, F26, b26⟩, f_Reader_must_meet := ⟨⟨a27, i27, k27⟩, _, F27, b27⟩, f_Reader_custom_here := ⟨⟨a28, i28, k28⟩, _, F28, b28⟩, f_read := ⟨PySem.W.mg_of X G a29, _, F29, b29⟩, f__law_found := ⟨PySem.W.mg_of X G a30, _, F30, b30⟩, f_law := ⟨PySem.W.mg_of X G a31, _, F31, b31⟩, cls_Reader := ⟨pg0, hd_0, po0, sa0⟩, g_Reader := PySem.W.mg_of X G aO0, na_Reader_text := na0_text, na_Reader_spot := na0_spot, na_Reader_called := na0_called, c_CatchError := ⟨PySem.W.mg_of X G aC0, xC0, kC0, bC0, tC0, ⟨hg0, hk0, bC0, hd0, ha0, hn, ht, hm0⟩⟩, c_NoFraction := ⟨PySem.W.mg_of X G aC1, xC1, kC1, bC1, tC1, ⟨hg1, hk1, bC1, hd1, ha1, hn, ht, hm1⟩⟩, c_BadLine := ⟨PySem.W.mg_of X G aC2, xC2, kC2, bC2, tC2, ⟨hg2, hk2, bC2, hd2, ha2, hn, ht, hm2⟩⟩, c_Outside := ⟨PySem.W.mg_of X G aC3, xC3, kC3, bC3, tC3, ⟨hg3, hk3, bC3, hd3, ha3, hn, ht, hm3⟩⟩, c_Unlike := ⟨PySem.W.mg_of X G aC4, xC4, kC4, bC4, tC4, ⟨hg4, hk4, bC4, hd4, ha4, hn, ht, hm4⟩⟩, c_BadWay := ⟨PySem.W.mg_of X G aC5, xC5, kC5, bC5, tC5, ⟨hg5, hk5, bC5, hd5, ha5, hn, ht, hm5⟩⟩, c_BadWeights := ⟨PySem.W.mg_of X G aC6, xC6, kC6, bC6, tC6, ⟨hg6, hk6, bC6, hd6, ha6, hn, ht, hm6⟩⟩, c_BadClaim := ⟨PySem.W.mg_of X G aC7, xC7, kC7, bC7, tC7, ⟨hg7, hk7, bC7, hd7, ha7, hn, ht, hm7⟩⟩, c_TooMany := ⟨PySem.W.mg_of X G aC8, xC8, kC8, bC8, tC8, ⟨hg8, hk8, bC8, hd8, ha8, hn, ht, hm8⟩⟩, c_NoBoat := ⟨PySem.W.mg_of X G aC9, xC9, kC9, bC9, tC9, ⟨hg9, hk9, bC9, hd9, ha9, hn, ht, hm9⟩⟩, c_BadCatch := ⟨PySem.W.mg_of X G aC10, xC10, kC10, bC10, tC10, ⟨hg10, hk10, bC10, hd10, ha10, hn, ht, hm10⟩⟩, c_NoText := ⟨PySem.W.mg_of X G aC11, xC11, kC11, bC11, tC11, ⟨hg11, hk11, bC11, hd11, ha11, hn, ht, hm11⟩⟩, h_NoText_CatchError := h_NoText_CatchError, h_BadClaim_CatchError := h_BadClaim_CatchError, h_BadWay_CatchError := h_BadWay_CatchError, h_BadWeights_CatchError := h_BadWeights_CatchError, h_TooMany_CatchError := h_TooMany_CatchError, y_NoText_NoText := y_NoText_NoText, y_NoText_ValueError := y_NoText_ValueError, n_NoText_BadCatch := n_NoText_BadCatch, n_NoText_BadClaim := n_NoText_BadClaim, n_NoText_BadLine := n_NoText_BadLine, n_NoText_BadWay := n_NoText_BadWay, n_NoText_BadWeights := n_NoText_BadWeights, n_NoText_NoBoat := n_NoText_NoBoat, n_NoText_NoFraction := n_NoText_NoFraction, n_NoText_Outside := n_NoText_Outside, n_NoText_TooMany := n_NoText_TooMany, n_NoText_Unlike := n_NoText_Unlike, m_BOAT := ⟨_, PySem.W.mg_of X G mk_BOAT⟩, m_FIGURES := ⟨_, PySem.W.mg_of X G mk_FIGURES⟩, m_LETTERS := ⟨_, PySem.W.mg_of X G mk_LETTERS⟩, m_LONGEST_NAME := ⟨_, PySem.W.mg_of X G mk_LONGEST_NAME⟩, m_MOST_BOATS := ⟨_, PySem.W.mg_of X G mk_MOST_BOATS⟩, m_MOST_CLAIM := ⟨_, PySem.W.mg_of X G mk_MOST_CLAIM⟩, m_MOST_DEEP_customs := ⟨_, PySem.W.mg_of X G mk_MOST_DEEP_customs⟩, m_MOST_DEEP_written := ⟨_, PySem.W.mg_of X G mk_MOST_DEEP_written⟩, m_MOST_FIGURES := ⟨_, PySem.W.mg_of X G mk_MOST_FIGURES⟩, m_MOST_KIDS := ⟨_, PySem.W.mg_of X G mk_MOST_KIDS⟩, m_MOST_WEIGHT := ⟨_, PySem.W.mg_of X G mk_MOST_WEIGHT⟩, m_WAYS := PySem.W.mg_of X G mk_WAYS, t_WAYS := ⟨_, lk_WAYS, rfl, rfl⟩, d_WAYS := dp_kT (vs := [.str "row", .str "back", .str "even", .str "lack", .str "part", .str "half"]) lk_WAYS (.cons ⟨_, rfl⟩ (.cons ⟨_, rfl⟩ (.cons ⟨_, rfl⟩ (.cons ⟨_, rfl⟩ (.cons ⟨_, rfl⟩ (.cons ⟨_, rfl⟩ (.nil))))))) (fun H => .cons (.str _) (.cons (.str _) (.cons (.str _) (.cons (.str _) (.cons (.str _) (.cons (.str _) (.nil))))))) (Nat.le_of_ble_eq_true rfl), m_WEIGHED_ways := PySem.W.mg_of X G mk_WEIGHED_ways, t_WEIGHED_ways := ⟨_, lk_WEIGHED_ways, rfl, rfl⟩, d_WEIGHED_ways := dp_kT (vs := [.str "even", .str "lack"]) lk_WEIGHED_ways (.cons ⟨_, rfl⟩ (.cons ⟨_, rfl⟩ (.nil))) (fun H => .cons (.str _) (.cons (.str _) (.nil))) (Nat.le_of_ble_eq_true rfl), m_WEIGHED_written := PySem.W.mg_of X G mk_WEIGHED_written, t_WEIGHED_written := ⟨_, lk_WEIGHED_written, rfl, rfl⟩, d_WEIGHED_written := dp_kT (vs := [.str "even", .str "lack"]) lk_WEIGHED_written (.cons ⟨_, rfl⟩ (.cons ⟨_, rfl⟩ (.nil))) (fun H => .cons (.str _) (.cons (.str _) (.nil))) (Nat.le_of_ble_eq_true rfl), z_ValueError := PySem.W.mg_none_of X G z_ValueError, z_all := PySem.W.mg_none_of X G z_all, z_bool := PySem.W.mg_none_of X G z_bool, z_int := PySem.W.mg_none_of X G z_int, z_isinstance := PySem.W.mg_none_of X G z_isinstance, z_len := PySem.W.mg_none_of X G z_len, z_list := PySem.W.mg_none_of X G z_list, z_max := PySem.W.mg_none_of X G z_max, z_min := PySem.W.mg_none_of X G z_min, z_range := PySem.W.mg_none_of X G z_range, z_set := PySem.W.mg_none_of X G z_set, z_str := PySem.W.mg_none_of X G z_str, z_tuple := PySem.W.mg_none_of X G z_tuple }
  refine ⟨PySem.W.fnOf "law" "law" (defArgs s_law) (defBody s_law) (defScope s_law) .none kV31 dc31 pm31 an31 cd31 ct31, fun s v => .of_eq rfl, fun base _ _ hN => ?_⟩
  have fnN_boat := ok_boat (P := l.prog) (w := w) (base := base) T hN hT 
  have fn_boat := fnN_boat.weak
  have fn__law_cell_at := ok__law_cell_at (P := l.prog) (w := w) (base := base) T hN hT 
  have fn__law_claim := ok__law_claim (P := l.prog) (w := w) (base := base) T hN hT 
  have fnN_look_at_weights := ok_look_at_weights (P := l.prog) (w := w) (base := base) T hN hT 
  have fn_look_at_weights := fnN_look_at_weights.weak
  have fnN_is_boat := ok_is_boat (P := l.prog) (w := w) (base := base) T hN hT 
  have fn_is_boat := fnN_is_boat.weak
  have fnN_claims_of := ok_claims_of (P := l.prog) (w := w) (base := base) T hN hT fnN_is_boat
  have fn_claims_of := fnN_claims_of.weak
  have fnN_deep_of := ok_deep_of (P := l.prog) (w := w) (base := base) T hN hT fnN_is_boat
  have fn_deep_of := fnN_deep_of.weak
  have fnN_knot := ok_knot (P := l.prog) (w := w) (base := base) T hN hT fnN_look_at_weights fnN_claims_of fnN_deep_of
  have fn_knot := fnN_knot.weak
  have fn__law_knot := ok__law_knot (P := l.prog) (w := w) (base := base) T hN hT fn_knot
  have fn__law_custom := ok__law_custom (P := l.prog) (w := w) (base := base) T hN hT fn__law_cell_at fn_boat fn__law_claim fn__law_knot
  have fn__law_claims := ok__law_claims (P := l.prog) (w := w) (base := base) T hN hT 
  have fn__law_names := ok__law_names (P := l.prog) (w := w) (base := base) T hN hT fn__law_cell_at
  have fn__law_text := ok__law_text (P := l.prog) (w := w) (base := base) T hN hT fn__law_claims
  have fn__law_whole := ok__law_whole (P := l.prog) (w := w) (base := base) T hN hT 
  have fn__law_alike := ok__law_alike (P := l.prog) (w := w) (base := base) T hN hT fn__law_whole
  have fn__law_run := ok__law_run (P := l.prog) (w := w) (base := base) T hN hT 
  have fn__law_read_number := ok__law_read_number (P := l.prog) (w := w) (base := base) T hN hT fn__law_run
  have fn__law_read_custom := ok__law_read_custom (P := l.prog) (w := w) (base := base) T hN hT fn__law_run fn__law_read_number
  have fn__law_read := ok__law_read (P := l.prog) (w := w) (base := base) T hN hT fn__law_read_custom
  have fn__law_spoiled := ok__law_spoiled (P := l.prog) (w := w) (base := base) T hN hT 
  have fn_is_name := ok_is_name (P := l.prog) (w := w) (base := base) T hN hT 
  have fn_look_at_names := ok_look_at_names (P := l.prog) (w := w) (base := base) T hN hT fn_claims_of fn_is_name
  have fn_Reader___init__ := ok_Reader___init__ (P := l.prog) (w := w) (base := base) T hN hT 
  have fnN_number_in := ok_number_in (P := l.prog) (w := w) (base := base) T hN hT 
  have fn_number_in := fnN_number_in.weak
  have fnN_Reader_run_of := ok_Reader_run_of (P := l.prog) (w := w) (base := base) T hN hT 
  have fn_Reader_run_of := fnN_Reader_run_of.weak
  have fnN_Reader_meets := ok_Reader_meets (P := l.prog) (w := w) (base := base) T hN hT 
  have fn_Reader_meets := fnN_Reader_meets.weak
  have fnN_Reader_must_meet := ok_Reader_must_meet (P := l.prog) (w := w) (base := base) T hN hT fnN_Reader_meets
  have fn_Reader_must_meet := fnN_Reader_must_meet.weak
  have fnN_Reader_custom_here := ok_Reader_custom_here (P := l.prog) (w := w) (base := base) T hN hT fnN_Reader_run_of fnN_Reader_meets fnN_boat fnN_number_in fnN_Reader_must_meet fnN_knot
  have fn_Reader_custom_here := fnN_Reader_custom_here.weak
  have fn_read := ok_read (P := l.prog) (w := w) (base := base) T hN hT fn_Reader___init__ fn_look_at_names fnN_Reader_custom_here
  have fn__law_found := ok__law_found (P := l.prog) (w := w) (base := base) T hN hT fn_read
  exact ok_law F31 T hN hT fn__law_custom fn__law_text fn__law_names fn__law_claims fn__law_spoiled fn__law_read fn__law_found fn__law_alike
theorem walk {l : PySem.W.OpenLaw} {q : Program} {loose : List Str} {XP : (Str → Option Value) → Heap → Prop} {YP : World → Heap → Prop} {d : DefRec} {K : Params → Frag} (hn : l.most = some 63) (hdf : d.params.defaults = []) (hq : importsNone q = true)
    (hY : ∀ (w : World) (h : Heap), YP w h → (K w.params).In h)
    (F : ∀ (w : World) (mg : Str → Option Value) (fa : Addr) (h : Heap), (K w.params).In h → h.Ns mainGlobals mg → mg d.name = some (.ref fa) →
      ∃ fd : FuncData, (∀ (s : Shared) (u : Value), BindsTo s fd ⟨[u], []⟩ [("script", u)]) ∧ ∀ base : Heap, (K w.params).In base → base.Ns mainGlobals mg → base.NoSeer → FnOk l.prog w (K w.params) mg base CX0 43 fa fd ["script"] (spc (K w.params) cLaw)) :
    PySem.W.WalkO q loose XP YP l.row.toRowW d [] (fun f vs => PySem.call f vs) :=
  Pu.walk_ofS (n := 63) (k := 43) (x := "script") (CX := fun _ => CX0) (sp := fun w => spc (K w.params) cLaw) hn (by decide) hdf ⟨rfl, by decide, by decide⟩ hq hY F
    (fun w H a ns hl hb _ hS => ⟨H, [.list (ns.map PyData.int)], kv (.bool true), Same.refl H, .cons (.lst hS (dpa_of_ints ns)) .nil, ⟨ns, rfl, hl, hb, rfl⟩,
      fun e v R' H' h g dv => by cases (show e = _ from h); cases dv; rfl, fun _ _ _ _ _ h => h.elim, fun _ _ _ h => h.elim⟩) fun _ _ _ _ _ z => z
end Law
open PySem PySem.W PyProof.Rows
set_option maxRecDepth 100000 in
set_option maxHeartbeats 0 in
theorem PySem.Challenge.cw_catchhall_k59_texts_refused_holds : PySem.Challenge.rw_catchhall_k59_texts_refused.Holds := by
  w_on; o_law; k_head; (case hw => w_witness2)
  k_fill
  refine Law.walk (l := PySem.Challenge.rw_catchhall_k59_texts_refused) rfl rfl (by decide +kernel) (fun w h Y => PySem.W.kIn_of Y) ?F
  case F =>
    intro w mg fa h KX G hmg
    refine' Law.all_mk KX G hmg rfl ?aO0 ?pg0 ?hd_0 ?po0 ?sa0 ?mkO0 ?kO0 ?na0_text ?na0_spot ?na0_called ?a0 ?l0 ?c0 ?k0 ?a1 ?l1 ?c1 ?k1 ?a2 ?l2 ?c2 ?k2 ?a3 ?l3 ?c3 ?k3 ?a4 ?l4 ?c4 ?k4 ?a5 ?l5 ?c5 ?k5 ?a6 ?l6 ?c6 ?k6 ?a7 ?l7 ?c7 ?k7 ?a8 ?l8 ?c8 ?k8 ?a9 ?l9 ?c9 ?k9 ?a10 ?l10 ?c10 ?k10 ?a11 ?l11 ?c11 ?k11 ?a12 ?l12 ?c12 ?k12 ?a13 ?l13 ?c13 ?k13 ?a14 ?l14 ?c14 ?k14 ?a15 ?l15 ?c15 ?k15 ?a16 ?l16 ?c16 ?k16 ?a17 ?l17 ?c17 ?k17 ?a18 ?l18 ?c18 ?k18 ?a19 ?l19 ?c19 ?k19 ?a20 ?l20 ?c20 ?k20 ?a21 ?l21 ?c21 ?k21 ?a22 ?l22 ?c22 ?k22 ?a23 ?i23 ?l23 ?c23 ?k23 ?a24 ?l24 ?c24 ?k24 ?a25 ?i25 ?l25 ?c25 ?k25 ?a26 ?i26 ?l26 ?c26 ?k26 ?a27 ?i27 ?l27 ?c27 ?k27 ?a28 ?i28 ?l28 ?c28 ?k28 ?a29 ?l29 ?c29 ?k29 ?a30 ?l30 ?c30 ?k30 ?a31 ?l31 ?c31 ?k31 ?aC0 ?xC0 ?kC0 ?bC0 ?tC0 ?hg0 ?hk0 ?hd0 ?ha0 ?hm0 ?aC1 ?xC1 ?kC1 ?bC1 ?tC1 ?hg1 ?hk1 ?hd1 ?ha1 ?hm1 ?aC2 ?xC2 ?kC2 ?bC2 ?tC2 ?hg2 ?hk2 ?hd2 ?ha2 ?hm2 ?aC3 ?xC3 ?kC3 ?bC3 ?tC3 ?hg3 ?hk3 ?hd3 ?ha3 ?hm3 ?aC4 ?xC4 ?kC4 ?bC4 ?tC4 ?hg4 ?hk4 ?hd4 ?ha4 ?hm4 ?aC5 ?xC5 ?kC5 ?bC5 ?tC5 ?hg5 ?hk5 ?hd5 ?ha5 ?hm5 ?aC6 ?xC6 ?kC6 ?bC6 ?tC6 ?hg6 ?hk6 ?hd6 ?ha6 ?hm6 ?aC7 ?xC7 ?kC7 ?bC7 ?tC7 ?hg7 ?hk7 ?hd7 ?ha7 ?hm7 ?aC8 ?xC8 ?kC8 ?bC8 ?tC8 ?hg8 ?hk8 ?hd8 ?ha8 ?hm8 ?aC9 ?xC9 ?kC9 ?bC9 ?tC9 ?hg9 ?hk9 ?hd9 ?ha9 ?hm9 ?aC10 ?xC10 ?kC10 ?bC10 ?tC10 ?hg10 ?hk10 ?hd10 ?ha10 ?hm10 ?aC11 ?xC11 ?kC11 ?bC11 ?tC11 ?hg11 ?hk11 ?hd11 ?ha11 ?hm11 ?hn ?ht ?h_NoText_CatchError ?h_BadClaim_CatchError ?h_BadWay_CatchError ?h_BadWeights_CatchError ?h_TooMany_CatchError ?y_NoText_NoText ?y_NoText_ValueError ?n_NoText_BadCatch ?n_NoText_BadClaim ?n_NoText_BadLine ?n_NoText_BadWay ?n_NoText_BadWeights ?n_NoText_NoBoat ?n_NoText_NoFraction ?n_NoText_Outside ?n_NoText_TooMany ?n_NoText_Unlike ?mk_BOAT ?mk_FIGURES ?mk_LETTERS ?mk_LONGEST_NAME ?mk_MOST_BOATS ?mk_MOST_CLAIM ?mk_MOST_DEEP_customs ?mk_MOST_DEEP_written ?mk_MOST_FIGURES ?mk_MOST_KIDS ?mk_MOST_WEIGHT ?mk_WAYS ?lk_WAYS ?mk_WEIGHED_ways ?lk_WEIGHED_ways ?mk_WEIGHED_written ?lk_WEIGHED_written ?z_ValueError ?z_all ?z_bool ?z_int ?z_isinstance ?z_len ?z_list ?z_max ?z_min ?z_range ?z_set ?z_str ?z_tuple
    (case aO0 => k_is)
    (case pg0 => k_is)
    (case hd_0 => k_is)
    (case po0 => k_is)
    (case sa0 => k_is)
    (case mkO0 => k_is)
    (case kO0 => k_is)
    (case na0_text => k_is)
    (case na0_spot => k_is)
    (case na0_called => k_is)
    (case a0 => k_is)
    (case l0 => k_is)
    (case c0 => k_is)
    (case k0 => k_is)
    (case a1 => k_is)
    (case l1 => k_is)
    (case c1 => k_is)
    (case k1 => k_is)
    (case a2 => k_is)
    (case l2 => k_is)
    (case c2 => k_is)
    (case k2 => k_is)
    (case a3 => k_is)
    (case l3 => k_is)
    (case c3 => k_is)
    (case k3 => k_is)
    (case a4 => k_is)
    (case l4 => k_is)
    (case c4 => k_is)
    (case k4 => k_is)
    (case a5 => k_is)
    (case l5 => k_is)
    (case c5 => k_is)
    (case k5 => k_is)
    (case a6 => k_is)
    (case l6 => k_is)
    (case c6 => k_is)
    (case k6 => k_is)
    (case a7 => k_is)
    (case l7 => k_is)
    (case c7 => k_is)
    (case k7 => k_is)
    (case a8 => k_is)
    (case l8 => k_is)
    (case c8 => k_is)
    (case k8 => k_is)
    (case a9 => k_is)
    (case l9 => k_is)
    (case c9 => k_is)
    (case k9 => k_is)
    (case a10 => k_is)
    (case l10 => k_is)
    (case c10 => k_is)
    (case k10 => k_is)
    (case a11 => k_is)
    (case l11 => k_is)
    (case c11 => k_is)
    (case k11 => k_is)
    (case a12 => k_is)
    (case l12 => k_is)
    (case c12 => k_is)
    (case k12 => k_is)
    (case a13 => k_is)
    (case l13 => k_is)
    (case c13 => k_is)
    (case k13 => k_is)
    (case a14 => k_is)
    (case l14 => k_is)
    (case c14 => k_is)
    (case k14 => k_is)
    (case a15 => k_is)
    (case l15 => k_is)
    (case c15 => k_is)
    (case k15 => k_is)
    (case a16 => k_is)
    (case l16 => k_is)
    (case c16 => k_is)
    (case k16 => k_is)
    (case a17 => k_is)
    (case l17 => k_is)
    (case c17 => k_is)
    (case k17 => k_is)
    (case a18 => k_is)
    (case l18 => k_is)
    (case c18 => k_is)
    (case k18 => k_is)
    (case a19 => k_is)
    (case l19 => k_is)
    (case c19 => k_is)
    (case k19 => k_is)
    (case a20 => k_is)
    (case l20 => k_is)
    (case c20 => k_is)
    (case k20 => k_is)
    (case a21 => k_is)
    (case l21 => k_is)
    (case c21 => k_is)
    (case k21 => k_is)
    (case a22 => k_is)
    (case l22 => k_is)
    (case c22 => k_is)
    (case k22 => k_is)
    (case a23 => k_is)
    (case i23 => k_is)
    (case l23 => k_is)
    (case c23 => k_is)
    (case k23 => k_is)
    (case a24 => k_is)
    (case l24 => k_is)
    (case c24 => k_is)
    (case k24 => k_is)
    (case a25 => k_is)
    (case i25 => k_is)
    (case l25 => k_is)
    (case c25 => k_is)
    (case k25 => k_is)
    (case a26 => k_is)
    (case i26 => k_is)
    (case l26 => k_is)
    (case c26 => k_is)
    (case k26 => k_is)
    (case a27 => k_is)
    (case i27 => k_is)
    (case l27 => k_is)
    (case c27 => k_is)
    (case k27 => k_is)
    (case a28 => k_is)
    (case i28 => k_is)
    (case l28 => k_is)
    (case c28 => k_is)
    (case k28 => k_is)
    (case a29 => k_is)
    (case l29 => k_is)
    (case c29 => k_is)
    (case k29 => k_is)
    (case a30 => k_is)
    (case l30 => k_is)
    (case c30 => k_is)
    (case k30 => k_is)
    (case a31 => k_is)
    (case l31 => k_is)
    (case c31 => k_is)
    (case k31 => k_is)
    (case aC0 => k_is)
    (case xC0 => k_exc)
    (case kC0 => k_is)
    (case bC0 => k_is)
    (case tC0 => k_is)
    (case hg0 => k_is)
    (case hk0 => k_is)
    (case hd0 => k_is)
    (case ha0 => k_is)
    (case hm0 => k_is)
    (case aC1 => k_is)
    (case xC1 => k_exc)
    (case kC1 => k_is)
    (case bC1 => k_is)
    (case tC1 => k_is)
    (case hg1 => k_is)
    (case hk1 => k_is)
    (case hd1 => k_is)
    (case ha1 => k_is)
    (case hm1 => k_is)
    (case aC2 => k_is)
    (case xC2 => k_exc)
    (case kC2 => k_is)
    (case bC2 => k_is)
    (case tC2 => k_is)
    (case hg2 => k_is)
    (case hk2 => k_is)
    (case hd2 => k_is)
    (case ha2 => k_is)
    (case hm2 => k_is)
    (case aC3 => k_is)
    (case xC3 => k_exc)
    (case kC3 => k_is)
    (case bC3 => k_is)
    (case tC3 => k_is)
    (case hg3 => k_is)
    (case hk3 => k_is)
    (case hd3 => k_is)
    (case ha3 => k_is)
    (case hm3 => k_is)
    (case aC4 => k_is)
    (case xC4 => k_exc)
    (case kC4 => k_is)
    (case bC4 => k_is)
    (case tC4 => k_is)
    (case hg4 => k_is)
    (case hk4 => k_is)
    (case hd4 => k_is)
    (case ha4 => k_is)
    (case hm4 => k_is)
    (case aC5 => k_is)
    (case xC5 => k_exc)
    (case kC5 => k_is)
    (case bC5 => k_is)
    (case tC5 => k_is)
    (case hg5 => k_is)
    (case hk5 => k_is)
    (case hd5 => k_is)
    (case ha5 => k_is)
    (case hm5 => k_is)
    (case aC6 => k_is)
    (case xC6 => k_exc)
    (case kC6 => k_is)
    (case bC6 => k_is)
    (case tC6 => k_is)
    (case hg6 => k_is)
    (case hk6 => k_is)
    (case hd6 => k_is)
    (case ha6 => k_is)
    (case hm6 => k_is)
    (case aC7 => k_is)
    (case xC7 => k_exc)
    (case kC7 => k_is)
    (case bC7 => k_is)
    (case tC7 => k_is)
    (case hg7 => k_is)
    (case hk7 => k_is)
    (case hd7 => k_is)
    (case ha7 => k_is)
    (case hm7 => k_is)
    (case aC8 => k_is)
    (case xC8 => k_exc)
    (case kC8 => k_is)
    (case bC8 => k_is)
    (case tC8 => k_is)
    (case hg8 => k_is)
    (case hk8 => k_is)
    (case hd8 => k_is)
    (case ha8 => k_is)
    (case hm8 => k_is)
    (case aC9 => k_is)
    (case xC9 => k_exc)
    (case kC9 => k_is)
    (case bC9 => k_is)
    (case tC9 => k_is)
    (case hg9 => k_is)
    (case hk9 => k_is)
    (case hd9 => k_is)
    (case ha9 => k_is)
    (case hm9 => k_is)
    (case aC10 => k_is)
    (case xC10 => k_exc)
    (case kC10 => k_is)
    (case bC10 => k_is)
    (case tC10 => k_is)
    (case hg10 => k_is)
    (case hk10 => k_is)
    (case hd10 => k_is)
    (case ha10 => k_is)
    (case hm10 => k_is)
    (case aC11 => k_is)
    (case xC11 => k_exc)
    (case kC11 => k_is)
    (case bC11 => k_is)
    (case tC11 => k_is)
    (case hg11 => k_is)
    (case hk11 => k_is)
    (case hd11 => k_is)
    (case ha11 => k_is)
    (case hm11 => k_is)
    (case hn => k_is)
    (case ht => k_is)
    (case h_NoText_CatchError => first | k_is | rfl | decide +kernel)
    (case h_BadClaim_CatchError => first | k_is | rfl | decide +kernel)
    (case h_BadWay_CatchError => first | k_is | rfl | decide +kernel)
    (case h_BadWeights_CatchError => first | k_is | rfl | decide +kernel)
    (case h_TooMany_CatchError => first | k_is | rfl | decide +kernel)
    (case y_NoText_NoText => first | k_is | rfl | decide +kernel)
    (case y_NoText_ValueError => first | k_is | rfl | decide +kernel)
    (case n_NoText_BadCatch => first | k_is | rfl | decide +kernel)
    (case n_NoText_BadClaim => first | k_is | rfl | decide +kernel)
    (case n_NoText_BadLine => first | k_is | rfl | decide +kernel)
    (case n_NoText_BadWay => first | k_is | rfl | decide +kernel)
    (case n_NoText_BadWeights => first | k_is | rfl | decide +kernel)
    (case n_NoText_NoBoat => first | k_is | rfl | decide +kernel)
    (case n_NoText_NoFraction => first | k_is | rfl | decide +kernel)
    (case n_NoText_Outside => first | k_is | rfl | decide +kernel)
    (case n_NoText_TooMany => first | k_is | rfl | decide +kernel)
    (case n_NoText_Unlike => first | k_is | rfl | decide +kernel)
    (case mk_BOAT => k_is)
    (case mk_FIGURES => k_is)
    (case mk_LETTERS => k_is)
    (case mk_LONGEST_NAME => k_is)
    (case mk_MOST_BOATS => k_is)
    (case mk_MOST_CLAIM => k_is)
    (case mk_MOST_DEEP_customs => k_is)
    (case mk_MOST_DEEP_written => k_is)
    (case mk_MOST_FIGURES => k_is)
    (case mk_MOST_KIDS => k_is)
    (case mk_MOST_WEIGHT => k_is)
    (case mk_WAYS => k_is)
    (case lk_WAYS => k_is)
    (case mk_WEIGHED_ways => k_is)
    (case lk_WEIGHED_ways => k_is)
    (case mk_WEIGHED_written => k_is)
    (case lk_WEIGHED_written => k_is)
    (case z_ValueError => k_is)
    (case z_all => k_is)
    (case z_bool => k_is)
    (case z_int => k_is)
    (case z_isinstance => k_is)
    (case z_len => k_is)
    (case z_list => k_is)
    (case z_max => k_is)
    (case z_min => k_is)
    (case z_range => k_is)
    (case z_set => k_is)
    (case z_str => k_is)
    (case z_tuple => k_is)
