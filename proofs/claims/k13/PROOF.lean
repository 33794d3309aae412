import PyProof.Rows.All
import Wide.All
import OpenK.AllK
import Wide.FinOn
import HandS.ForMost
import HandS.ForExc
import HandS.Wide
import HandS.IsInst
import HandS.ExcIs
import HandS.Zip
import HandS.Rev
import HandS.Evl
import HandS.More
import HandS.Text
import HandS.EndBits
import HandS.Deep
import KE.KIndexOf
import KE.GoesZip
import KE.GoesMore
import HandS.Style
import KE.GoesEnum
import PyProof.StrOps2
import PyProof.FitsInt
import HandS.Codes
import HandS.TupAny
import KE.KDictZip
import HandS.CallSlots
import KE.DataFind
import HandS.Dict
import HandS.SuiteRaise
import HandS.HotCalls
import HandS.SetKeys
import HandS.SetFor
import PyProof.P3In
import HandS.Replace
import HandS.ReplaceLit
import HandS.ReplaceList
import HandS.RaiseMore
import PyProof.Rows.StrCase
import HandS.Hot
import PyProof.Rows.SumAny
import PySem.Challenge.RW_catchhall_k13_what_is_looked_at
set_option Elab.async false
set_option linter.all false
set_option maxRecDepth 100000
set_option maxHeartbeats 4000000
set_option maxRecDepth 100000
/-! A layer of data over the readings: environments of plain data, expressions that evaluate to data, statements that lead to ends over data. -/
namespace Pu
open PySem PySem.Spec PyProof.Rows L2
abbrev D := PyData
abbrev Frag := PySem.W.Frag
/-! ### data in a heap -/
theorem sqt_mono {K : Frag} {H H' : Hp} {a : Addr} {xs : List V} (e : Same H H') (h : SqT K H a xs) : SqT K H' a xs := by
  rcases h with (h | ⟨o, h⟩) | h
  · exact .inl (.inl (e _ _ h))
  · exact .inl (.inr ⟨o, e _ _ h⟩)
  · exact .inr h
mutual
theorem dp_mono {K : Frag} {H H' : Hp} (e : Same H H') : ∀ (d : PyData) (v : V), Dp K H v d → Dp K H' v d
  | .none, _, h => by cases h; exact .non
  | .bool b, _, h => by cases h; exact .bl b
  | .int i, _, h => by cases h; exact .int i
  | .str x, _, h => by cases h; exact .str x
  | .list ds, _, h => by
    cases h with
    | lst hs ha => exact .lst (e.seq hs) (dpa_mono e ds _ ha)
  | .tuple ds, _, h => by
    cases h with
    | tup hs ha => exact .tup (sqt_mono e hs) (dpa_mono e ds _ ha)
  | .dict _, _, h => by cases h
theorem dpa_mono {K : Frag} {H H' : Hp} (e : Same H H') : ∀ (ds : List PyData) (vs : List V), DpAll K H vs ds → DpAll K H' vs ds
  | [], _, h => by cases h; exact .nil
  | d :: ds, _, h => by
    cases h with
    | cons h1 h2 => exact .cons (dp_mono e d _ h1) (dpa_mono e ds _ h2)
end
section
variable {K : Frag} {H : Hp}
theorem dpa_len : ∀ {vs : List V} {ds : List D}, DpAll K H vs ds → vs.length = ds.length
  | _, _, .nil => rfl
  | _, _, .cons _ t => congrArg (· + 1) (dpa_len t)
theorem dpa_get : ∀ {vs : List V} {ds : List D} {i : Nat} {d : D}, DpAll K H vs ds → ds[i]? = some d → ∃ v, vs[i]? = some v ∧ Dp K H v d
  | _, _, _, _, .nil, h => by simp at h
  | _, _, 0, _, .cons h _, e => by simp at e; subst e; exact ⟨_, rfl, h⟩
  | _, _, i + 1, d, .cons _ t, e => by
    obtain ⟨v, h1, h2⟩ := dpa_get (i := i) (d := d) t (by simpa using e)
    exact ⟨v, by simpa using h1, h2⟩
theorem dpa_append : ∀ {vs ws : List V} {ds es : List D}, DpAll K H vs ds → DpAll K H ws es → DpAll K H (vs ++ ws) (ds ++ es)
  | _, _, _, _, .nil, h => h
  | _, _, _, _, .cons a t, h => .cons a (dpa_append t h)
theorem dpa_take : ∀ {vs : List V} {ds : List D} (n : Nat), DpAll K H vs ds → DpAll K H (vs.take n) (ds.take n)
  | _, _, 0, _ => .nil
  | _, _, _ + 1, .nil => .nil
  | _, _, n + 1, .cons a t => .cons a (dpa_take n t)
theorem dpa_drop : ∀ {vs : List V} {ds : List D} (n : Nat), DpAll K H vs ds → DpAll K H (vs.drop n) (ds.drop n)
  | _, _, 0, h => h
  | _, _, _ + 1, .nil => .nil
  | _, _, n + 1, .cons _ t => dpa_drop n t
theorem dpa_set : ∀ {vs : List V} {ds : List D} {v : V} {d : D} (n : Nat), DpAll K H vs ds → Dp K H v d → DpAll K H (vs.set n v) (ds.set n d)
  | _, _, _, _, _, .nil, _ => .nil
  | _, _, _, _, 0, .cons _ t, h => .cons h t
  | _, _, _, _, n + 1, .cons a t, h => .cons a (dpa_set n t h)
theorem dpa_snoc {vs : List V} {ds : List D} {v : V} {d : D} (h : DpAll K H vs ds) (q : Dp K H v d) : DpAll K H (vs ++ [v]) (ds ++ [d]) := dpa_append h (.cons q .nil)
theorem dpa_rev : ∀ {vs : List V} {ds : List D}, DpAll K H vs ds → DpAll K H vs.reverse ds.reverse
  | _, _, .nil => .nil
  | _, _, .cons a t => by
    rw [List.reverse_cons, List.reverse_cons]
    exact dpa_snoc (dpa_rev t) a
theorem dpa_cut {vs : List V} {ds : List D} (h : DpAll K H vs ds) (lo hi : Option Int) : DpAll K H (cutV vs lo hi) ((ds.drop (HT.sIx ds.length 0 lo)).take (HT.sIx ds.length ds.length hi - HT.sIx ds.length 0 lo)) := by
  unfold cutV
  rw [dpa_len h]
  exact dpa_take _ (dpa_drop _ h)
theorem dpa_ints : ∀ {vs : List V} {ns : List Int}, DpAll K H vs (ns.map PyData.int) → vs = ns.map V.int
  | [], [], _ => rfl
  | _, [], h => by cases h; rfl
  | _, n :: ns, h => by
    cases h with
    | cons h1 h2 =>
      cases h1
      rw [dpa_ints h2]
      rfl
theorem dpa_of_ints : ∀ (ns : List Int), DpAll K H (ns.map V.int) (ns.map PyData.int)
  | [] => .nil
  | n :: ns => .cons (.int n) (dpa_of_ints ns)
theorem dpa_bools : ∀ {vs : List V} {ns : List Bool}, DpAll K H vs (ns.map PyData.bool) → vs = ns.map V.bl
  | [], [], _ => rfl
  | _, [], h => by cases h; rfl
  | _, n :: ns, h => by
    cases h with
    | cons h1 h2 =>
      cases h1
      rw [dpa_bools h2]
      rfl
end
/-! ### the growth of a state: R what data is read in, H the heap -/
structure Grow (R H R' H' : Hp) : Prop where
  rd : Same R R'
  hp : Same H H'
  sub : Same R' H'
  new : ∀ a, R a = none → R' a ≠ none → H a = none
theorem Grow.refl {R H : Hp} (h : Same R H) : Grow R H R H := ⟨Same.refl R, Same.refl H, h, fun a e n => absurd e n⟩
theorem Grow.trans {R H R1 H1 R2 H2 : Hp} (a : Grow R H R1 H1) (b : Grow R1 H1 R2 H2) : Grow R H R2 H2 := by
  refine ⟨a.rd.trans b.rd, a.hp.trans b.hp, b.sub, fun x e n => ?_⟩
  by_cases h : R1 x = none
  · exact a.hp.free (b.new x h n)
  · exact a.new x e h
theorem same_upd {H : Hp} {p : Addr} {o : HO} (h : H p = none) : Same H (upd H p o) := fun b x e => by
  rw [upd_ne (ne_of_none e h)]
  exact e
/-- a new object that is read -/
theorem Grow.alloc {R H : Hp} {p : Addr} {o : HO} (h : Same R H) (hp : H p = none) : Grow R H (upd R p o) (upd H p o) := by
  have rp : R p = none := h.free hp
  refine ⟨same_upd rp, same_upd hp, fun b x e => ?_, fun a e n => ?_⟩
  · by_cases hb : b = p
    · rw [hb, upd_same] at e ⊢
      exact e
    · rw [upd_ne hb] at e ⊢
      exact h b x e
  · by_cases hb : a = p
    · rw [hb]; exact hp
    · rw [upd_ne hb] at n
      exact absurd e n
/-- a new object that is not yet read -/
theorem Grow.hide {R H : Hp} {p : Addr} {o : HO} (h : Same R H) (hp : H p = none) : Grow R H R (upd H p o) := by
  refine ⟨Same.refl R, same_upd hp, fun b x e => ?_, fun a e n => absurd e n⟩
  rw [upd_ne (ne_of_none (h b x e) hp)]
  exact h b x e
/-- a hidden object comes to be read -/
theorem Grow.show_ {R H R' H' : Hp} {p : Addr} {o : HO} (g : Grow R H R' H') (hn : H p = none) (hp : H' p = some o) : Grow R H (upd R' p o) H' := by
  refine ⟨fun b x e => ?_, g.hp, fun b x e => ?_, fun a e n => ?_⟩
  · have q := g.rd b x e
    by_cases hb : b = p
    · subst hb
      rw [upd_same]
      have z := g.sub b x q
      rw [hp] at z
      exact z
    · rw [upd_ne hb]; exact q
  · by_cases hb : b = p
    · subst hb
      rw [upd_same] at e
      rw [hp]; exact e
    · rw [upd_ne hb] at e
      exact g.sub b x e
  · by_cases hb : a = p
    · rw [hb]; exact hn
    · rw [upd_ne hb] at n
      exact g.new a e n
/-! ### slots -/
inductive Sl where
  /-- nothing is known -/
  | un
  /-- data that stays -/
  | val (d : D)
  /-- a list of the def's own -/
  | own (ds : List D)
  /-- just this value -/
  | raw (v : V)
  /-- this value, and what holds of its own cells S -/
  | fact (v : V) (S : List Addr) (P : Hp → Hp → Prop)
abbrev En := List Sl
/-- no more than S is looked at of the heap -/
def Stay (S : List Addr) (P : Hp → Hp → Prop) : Prop := ∀ R H R' H', Same R R' → (∀ a ∈ S, ∀ o, H a = some o → H' a = some o) → P R H → P R' H'
/-- the slots with facts -/
structure Facts (H0 R : Hp) (ρ : En) (σ : L2.St) (H : Hp) : Prop where
  at_ : ∀ (i : Nat) (v : V) (S : List Addr) (P : Hp → Hp → Prop), ρ[i]? = some (.fact v S P) → σ[i]? = some (some v) ∧ Stay S P ∧ P R H ∧ ∀ a ∈ S, H a ≠ none ∧ R a = none ∧ H0 a = none
  off : ∀ (i j : Nat) (v : V) (S : List Addr) (P : Hp → Hp → Prop) (ds : List D) (p : Addr), ρ[i]? = some (.fact v S P) → ρ[j]? = some (.own ds) → σ[j]? = some (some (.ref p)) → p ∉ S
  two : ∀ (i j : Nat) (v w : V) (S T : List Addr) (P Q : Hp → Hp → Prop), i ≠ j → ρ[i]? = some (.fact v S P) → ρ[j]? = some (.fact w T Q) → ∀ a ∈ S, a ∉ T
section
variable {H0 R H R' H' : Hp} {ρ ρ' : En} {σ σ' : L2.St}
theorem Facts.grow (f : Facts H0 R ρ σ H) (g : Grow R H R' H') : Facts H0 R' ρ σ H' := ⟨fun i v S P e => by
    obtain ⟨h1, h2, h3, h4⟩ := f.at_ i v S P e
    refine ⟨h1, h2, h2 R H R' H' g.rd (fun a _ o q => g.hp a o q) h3, fun a ha => ?_⟩
    obtain ⟨g1, g2, g3⟩ := h4 a ha
    refine ⟨fun z => ?_, ?_, g3⟩
    · cases q : H a with
      | none => exact g1 q
      | some o => rw [g.hp a o q] at z; cases z
    · cases q : R' a with
      | none => rfl
      | some o => exact absurd (g.new a g2 (by rw [q]; exact fun z => nomatch z)) g1, f.off, f.two⟩
/-- fewer facts, fewer own lists -/
theorem Facts.sub (f : Facts H0 R ρ σ H) (h1 : ∀ (j : Nat) (v : V) (S : List Addr) (P : Hp → Hp → Prop), ρ'[j]? = some (.fact v S P) → ρ[j]? = some (.fact v S P) ∧ σ'[j]? = σ[j]?) (h2 : ∀ (j : Nat) (ds : List D), ρ'[j]? = some (.own ds) → (∃ es, ρ[j]? = some (.own es)) ∧ σ'[j]? = σ[j]?) : Facts H0 R ρ' σ' H := ⟨fun i v S P e => by
    obtain ⟨a, b⟩ := h1 i v S P e
    rw [b]
    exact f.at_ i v S P a, fun i j v S P ds p e1 e2 e3 => by
    obtain ⟨a, b⟩ := h1 i v S P e1
    obtain ⟨⟨es, c⟩, d⟩ := h2 j ds e2
    rw [d] at e3
    exact f.off i j v S P es p a c e3, fun i j v w S T P Q n e1 e2 => f.two i j v w S T P Q n (h1 i v S P e1).1 (h1 j w T Q e2).1⟩
theorem Facts.setv (f : Facts H0 R ρ σ H) {i : Nat} {s : Sl} {v : Option V} (hs : ∀ v S P, s ≠ .fact v S P) (ho : ∀ ds, s ≠ .own ds) : Facts H0 R (ρ.set i s) (σ.set i v) H := f.sub (fun j v S P e => by
    by_cases hj : i = j
    · subst hj
      have hl : i < ρ.length := by have := (List.getElem?_eq_some_iff.mp e).1; rwa [List.length_set] at this
      rw [List.getElem?_set_self hl] at e
      exact absurd (Option.some.inj e) (hs v S P)
    · rw [List.getElem?_set_ne hj] at e
      exact ⟨e, List.getElem?_set_ne hj⟩) (fun j ds e => by
    by_cases hj : i = j
    · subst hj
      have hl : i < ρ.length := by have := (List.getElem?_eq_some_iff.mp e).1; rwa [List.length_set] at this
      rw [List.getElem?_set_self hl] at e
      exact absurd (Option.some.inj e) (ho ds)
    · rw [List.getElem?_set_ne hj] at e
      exact ⟨⟨ds, e⟩, List.getElem?_set_ne hj⟩)
theorem Facts.none_ (h : ∀ (j : Nat) (v : V) (S : List Addr) (P : Hp → Hp → Prop), ρ[j]? ≠ some (.fact v S P)) : Facts H0 R ρ σ H := ⟨fun i v S P e => absurd e (h i v S P), fun i j v S P ds p e => absurd e (h i v S P), fun i j v w S T P Q n e => absurd e (h i v S P)⟩
end
/-- the state: R0, H0 at the entry -/
structure At (K : Frag) (R0 H0 R : Hp) (ρ : En) (σ : L2.St) (H : Hp) : Prop where
  gr : Grow R0 H0 R H
  len : σ.length = ρ.length
  val : ∀ (i : Nat) (d : D), ρ[i]? = some (.val d) → ∃ v, σ[i]? = some (some v) ∧ Dp K R v d
  own : ∀ (i : Nat) (ds : List D), ρ[i]? = some (.own ds) → ∃ p vs, σ[i]? = some (some (.ref p)) ∧ H p = some (.lst vs) ∧ DpAll K R vs ds ∧ R p = none ∧ H0 p = none
  raw : ∀ (i : Nat) (v : V), ρ[i]? = some (.raw v) → σ[i]? = some (some v)
  apart : ∀ (i j : Nat) (p : Addr) (ds es : List D), i ≠ j → ρ[i]? = some (.own ds) → ρ[j]? = some (.own es) → σ[i]? = some (some (.ref p)) → σ[j]? ≠ some (some (.ref p))
  fa : Facts H0 R ρ σ H
section
variable {K : Frag} {R0 H0 R H R' H' : Hp} {ρ : En} {σ : L2.St}
theorem At.grow (a : At K R0 H0 R ρ σ H) (g : Grow R H R' H') : At K R0 H0 R' ρ σ H' where
  gr := a.gr.trans g
  len := a.len
  val := fun i d e => by
    obtain ⟨v, h1, h2⟩ := a.val i d e
    exact ⟨v, h1, dp_mono g.rd _ _ h2⟩
  own := fun i ds e => by
    obtain ⟨p, vs, h1, h2, h3, h4, h5⟩ := a.own i ds e
    refine ⟨p, vs, h1, g.hp _ _ h2, dpa_mono g.rd _ _ h3, ?_, h5⟩
    cases q : R' p with
    | none => rfl
    | some o =>
      have z := g.new p h4 (by rw [q]; exact fun z => nomatch z)
      rw [h2] at z
      cases z
  raw := a.raw
  apart := a.apart
  fa := a.fa.grow g
/-- a slot is stored: data -/
theorem At.set (a : At K R0 H0 R ρ σ H) {i : Nat} {v : V} {d : D} (h : Dp K R v d) : At K R0 H0 R (ρ.set i (.val d)) (σ.set i (some v)) H where
  gr := a.gr
  len := by rw [List.length_set, List.length_set, a.len]
  val := fun j e q => by
    by_cases hj : i = j
    · subst hj
      by_cases hl : i < ρ.length
      · rw [List.getElem?_set_self hl] at q
        cases q
        exact ⟨v, List.getElem?_set_self (by rw [a.len]; exact hl), h⟩
      · rw [List.getElem?_eq_none (by rw [List.length_set]; omega)] at q
        cases q
    · rw [List.getElem?_set_ne hj] at q
      obtain ⟨u, h1, h2⟩ := a.val j e q
      exact ⟨u, by rw [List.getElem?_set_ne hj]; exact h1, h2⟩
  own := fun j ds q => by
    by_cases hj : i = j
    · subst hj
      by_cases hl : i < ρ.length
      · rw [List.getElem?_set_self hl] at q
        cases q
      · rw [List.getElem?_eq_none (by rw [List.length_set]; omega)] at q
        cases q
    · rw [List.getElem?_set_ne hj] at q
      obtain ⟨p, vs, h1, h2⟩ := a.own j ds q
      exact ⟨p, vs, by rw [List.getElem?_set_ne hj]; exact h1, h2⟩
  raw := fun j e q => by
    by_cases hj : i = j
    · subst hj
      by_cases hl : i < ρ.length
      · rw [List.getElem?_set_self hl] at q
        cases q
      · rw [List.getElem?_eq_none (by rw [List.length_set]; omega)] at q
        cases q
    · rw [List.getElem?_set_ne hj] at q ⊢
      exact a.raw j e q
  apart := fun j k p ds es hjk q1 q2 => by
    have n1 : i ≠ j := fun e => by
      subst e
      by_cases hl : i < ρ.length
      · rw [List.getElem?_set_self hl] at q1; cases q1
      · rw [List.getElem?_eq_none (by rw [List.length_set]; omega)] at q1; cases q1
    have n2 : i ≠ k := fun e => by
      subst e
      by_cases hl : i < ρ.length
      · rw [List.getElem?_set_self hl] at q2; cases q2
      · rw [List.getElem?_eq_none (by rw [List.length_set]; omega)] at q2; cases q2
    rw [List.getElem?_set_ne n1] at q1
    rw [List.getElem?_set_ne n2] at q2
    rw [List.getElem?_set_ne n1, List.getElem?_set_ne n2]
    exact a.apart j k p ds es hjk q1 q2
  fa := a.fa.setv (fun _ _ _ z => nomatch z) (fun _ z => nomatch z)
/-- a slot is stored of which nothing is to be known -/
theorem At.set_un (a : At K R0 H0 R ρ σ H) {i : Nat} {v : Option V} : At K R0 H0 R (ρ.set i .un) (σ.set i v) H where
  gr := a.gr
  len := by rw [List.length_set, List.length_set, a.len]
  val := fun j e q => by
    by_cases hj : i = j
    · subst hj
      by_cases hl : i < ρ.length
      · rw [List.getElem?_set_self hl] at q
        cases q
      · rw [List.getElem?_eq_none (by rw [List.length_set]; omega)] at q
        cases q
    · rw [List.getElem?_set_ne hj] at q
      obtain ⟨u, h1, h2⟩ := a.val j e q
      exact ⟨u, by rw [List.getElem?_set_ne hj]; exact h1, h2⟩
  own := fun j ds q => by
    by_cases hj : i = j
    · subst hj
      by_cases hl : i < ρ.length
      · rw [List.getElem?_set_self hl] at q
        cases q
      · rw [List.getElem?_eq_none (by rw [List.length_set]; omega)] at q
        cases q
    · rw [List.getElem?_set_ne hj] at q
      obtain ⟨p, vs, h1, h2⟩ := a.own j ds q
      exact ⟨p, vs, by rw [List.getElem?_set_ne hj]; exact h1, h2⟩
  raw := fun j e q => by
    by_cases hj : i = j
    · subst hj
      by_cases hl : i < ρ.length
      · rw [List.getElem?_set_self hl] at q
        cases q
      · rw [List.getElem?_eq_none (by rw [List.length_set]; omega)] at q
        cases q
    · rw [List.getElem?_set_ne hj] at q ⊢
      exact a.raw j e q
  apart := fun j k p ds es hjk q1 q2 => by
    have n1 : i ≠ j := fun e => by
      subst e
      by_cases hl : i < ρ.length
      · rw [List.getElem?_set_self hl] at q1; cases q1
      · rw [List.getElem?_eq_none (by rw [List.length_set]; omega)] at q1; cases q1
    have n2 : i ≠ k := fun e => by
      subst e
      by_cases hl : i < ρ.length
      · rw [List.getElem?_set_self hl] at q2; cases q2
      · rw [List.getElem?_eq_none (by rw [List.length_set]; omega)] at q2; cases q2
    rw [List.getElem?_set_ne n1] at q1
    rw [List.getElem?_set_ne n2] at q2
    rw [List.getElem?_set_ne n1, List.getElem?_set_ne n2]
    exact a.apart j k p ds es hjk q1 q2
  fa := a.fa.setv (fun _ _ _ z => nomatch z) (fun _ z => nomatch z)
/-- a slot is stored: a bare value -/
theorem At.set_raw (a : At K R0 H0 R ρ σ H) {i : Nat} {v : V} : At K R0 H0 R (ρ.set i (.raw v)) (σ.set i (some v)) H where
  gr := a.gr
  len := by rw [List.length_set, List.length_set, a.len]
  val := fun j e q => by
    by_cases hj : i = j
    · subst hj
      by_cases hl : i < ρ.length
      · rw [List.getElem?_set_self hl] at q
        cases q
      · rw [List.getElem?_eq_none (by rw [List.length_set]; omega)] at q
        cases q
    · rw [List.getElem?_set_ne hj] at q
      obtain ⟨u, h1, h2⟩ := a.val j e q
      exact ⟨u, by rw [List.getElem?_set_ne hj]; exact h1, h2⟩
  own := fun j ds q => by
    by_cases hj : i = j
    · subst hj
      by_cases hl : i < ρ.length
      · rw [List.getElem?_set_self hl] at q
        cases q
      · rw [List.getElem?_eq_none (by rw [List.length_set]; omega)] at q
        cases q
    · rw [List.getElem?_set_ne hj] at q
      obtain ⟨p, vs, h1, h2⟩ := a.own j ds q
      exact ⟨p, vs, by rw [List.getElem?_set_ne hj]; exact h1, h2⟩
  raw := fun j e q => by
    by_cases hj : i = j
    · subst hj
      by_cases hl : i < ρ.length
      · rw [List.getElem?_set_self hl] at q
        cases q
        exact List.getElem?_set_self (by rw [a.len]; exact hl)
      · rw [List.getElem?_eq_none (by rw [List.length_set]; omega)] at q
        cases q
    · rw [List.getElem?_set_ne hj] at q ⊢
      exact a.raw j e q
  apart := fun j k p ds es hjk q1 q2 => by
    have n1 : i ≠ j := fun e => by
      subst e
      by_cases hl : i < ρ.length
      · rw [List.getElem?_set_self hl] at q1; cases q1
      · rw [List.getElem?_eq_none (by rw [List.length_set]; omega)] at q1; cases q1
    have n2 : i ≠ k := fun e => by
      subst e
      by_cases hl : i < ρ.length
      · rw [List.getElem?_set_self hl] at q2; cases q2
      · rw [List.getElem?_eq_none (by rw [List.length_set]; omega)] at q2; cases q2
    rw [List.getElem?_set_ne n1] at q1
    rw [List.getElem?_set_ne n2] at q2
    rw [List.getElem?_set_ne n1, List.getElem?_set_ne n2]
    exact a.apart j k p ds es hjk q1 q2
  fa := a.fa.setv (fun _ _ _ z => nomatch z) (fun _ z => nomatch z)
/-- a slot is stored: a new list of one's own -/
theorem At.set_own (a : At K R0 H0 R ρ σ H) {i : Nat} {p : Addr} {vs : List V} {ds : List D} (hp : H p = some (.lst vs)) (h : DpAll K R vs ds) (rp : R p = none) (h0 : H0 p = none)
    (np : ∀ (j : Nat) (es : List D), i ≠ j → ρ[j]? = some (.own es) → σ[j]? ≠ some (some (.ref p))) (nf : ∀ (j : Nat) (v : V) (S : List Addr) (P : Hp → Hp → Prop), ρ[j]? = some (.fact v S P) → p ∉ S) : At K R0 H0 R (ρ.set i (.own ds)) (σ.set i (some (.ref p))) H where
  gr := a.gr
  len := by rw [List.length_set, List.length_set, a.len]
  val := fun j e q => by
    by_cases hj : i = j
    · subst hj
      by_cases hl : i < ρ.length
      · rw [List.getElem?_set_self hl] at q
        cases q
      · rw [List.getElem?_eq_none (by rw [List.length_set]; omega)] at q
        cases q
    · rw [List.getElem?_set_ne hj] at q
      obtain ⟨u, h1, h2⟩ := a.val j e q
      exact ⟨u, by rw [List.getElem?_set_ne hj]; exact h1, h2⟩
  own := fun j es q => by
    by_cases hj : i = j
    · subst hj
      by_cases hl : i < ρ.length
      · rw [List.getElem?_set_self hl] at q
        cases q
        exact ⟨p, vs, List.getElem?_set_self (by rw [a.len]; exact hl), hp, h, rp, h0⟩
      · rw [List.getElem?_eq_none (by rw [List.length_set]; omega)] at q
        cases q
    · rw [List.getElem?_set_ne hj] at q
      obtain ⟨p, vs, h1, h2⟩ := a.own j es q
      exact ⟨p, vs, by rw [List.getElem?_set_ne hj]; exact h1, h2⟩
  raw := fun j e q => by
    by_cases hj : i = j
    · subst hj
      by_cases hl : i < ρ.length
      · rw [List.getElem?_set_self hl] at q
        cases q
      · rw [List.getElem?_eq_none (by rw [List.length_set]; omega)] at q
        cases q
    · rw [List.getElem?_set_ne hj] at q ⊢
      exact a.raw j e q
  apart := fun j k b es fs hjk q1 q2 s1 => by
    by_cases hj : i = j
    · subst hj
      have hk : i ≠ k := hjk
      rw [List.getElem?_set_ne hk] at q2
      rw [List.getElem?_set_ne hk]
      by_cases hl : i < σ.length
      · rw [List.getElem?_set_self hl] at s1
        cases s1
        exact np k fs hk q2
      · rw [List.getElem?_eq_none (by rw [List.length_set]; omega)] at s1
        cases s1
    · rw [List.getElem?_set_ne hj] at q1 s1
      by_cases hk : i = k
      · subst hk
        intro z
        by_cases hl : i < σ.length
        · rw [List.getElem?_set_self hl] at z
          cases z
          exact np j es hj q1 s1
        · rw [List.getElem?_eq_none (by rw [List.length_set]; omega)] at z
          cases z
      · rw [List.getElem?_set_ne hk] at q2
        rw [List.getElem?_set_ne hk]
        exact a.apart j k b es fs hjk q1 q2 s1
  fa := ⟨fun j v S P e => by
    by_cases hj : i = j
    · subst hj
      have hl : i < ρ.length := by have := (List.getElem?_eq_some_iff.mp e).1; rwa [List.length_set] at this
      rw [List.getElem?_set_self hl] at e
      cases e
    · rw [List.getElem?_set_ne hj] at e
      rw [List.getElem?_set_ne hj]
      exact a.fa.at_ j v S P e, fun j k v S P es b e1 e2 e3 => by
    have hj : i ≠ j := fun hj => by
      subst hj
      have hl : i < ρ.length := by have := (List.getElem?_eq_some_iff.mp e1).1; rwa [List.length_set] at this
      rw [List.getElem?_set_self hl] at e1
      cases e1
    rw [List.getElem?_set_ne hj] at e1
    by_cases hk : i = k
    · subst hk
      have hl : i < ρ.length := by have := (List.getElem?_eq_some_iff.mp e2).1; rwa [List.length_set] at this
      rw [List.getElem?_set_self (by rw [a.len]; exact hl)] at e3
      cases e3
      exact nf j v S P e1
    · rw [List.getElem?_set_ne hk] at e2 e3
      exact a.fa.off j k v S P es b e1 e2 e3, fun j k v w S T P Q n e1 e2 => by
    have nj : ∀ {j : Nat} {v : V} {S : List Addr} {P : Hp → Hp → Prop}, (ρ.set i (.own ds))[j]? = some (.fact v S P) → ρ[j]? = some (.fact v S P) := fun {j v S P} e => by
      by_cases hj : i = j
      · subst hj
        have hl : i < ρ.length := by have := (List.getElem?_eq_some_iff.mp e).1; rwa [List.length_set] at this
        rw [List.getElem?_set_self hl] at e
        cases e
      · rwa [List.getElem?_set_ne hj] at e
    exact a.fa.two j k v w S T P Q n (nj e1) (nj e2)⟩
/-- an own list changes -/
theorem At.put (a : At K R0 H0 R ρ σ H) {i : Nat} {p : Addr} {ds ds' : List D} {vs' : List V} (e : ρ[i]? = some (.own ds)) (s : σ[i]? = some (some (.ref p))) (h : DpAll K R vs' ds') : At K R0 H0 R (ρ.set i (.own ds')) σ (upd H p (.lst vs')) := by
  obtain ⟨p', vs, h1, h2, h3, h4, h5⟩ := a.own i ds e
  rw [s] at h1
  cases h1
  have hl : i < ρ.length := (List.getElem?_eq_some_iff.mp e).1
  have nj : ∀ {j : Nat} {v : V} {S : List Addr} {P : Hp → Hp → Prop}, (ρ.set i (.own ds'))[j]? = some (.fact v S P) → ρ[j]? = some (.fact v S P) := fun {j v S P} e => by
    by_cases hj : i = j
    · subst hj
      rw [List.getElem?_set_self hl] at e
      cases e
    · rwa [List.getElem?_set_ne hj] at e
  have fa' : Facts H0 R (ρ.set i (.own ds')) σ (upd H p (.lst vs')) := ⟨fun j v S P q => by
    have q' := nj q
    obtain ⟨g1, g2, g3, g4⟩ := a.fa.at_ j v S P q'
    have np := a.fa.off j i v S P ds p q' e s
    have ne : ∀ b ∈ S, b ≠ p := fun b hb z => np (z ▸ hb)
    refine ⟨g1, g2, g2 R H R _ (Same.refl R) (fun b hb o z => by rw [upd_ne (ne b hb)]; exact z) g3, fun b hb => ?_⟩
    rw [upd_ne (ne b hb)]
    exact g4 b hb, fun j k v S P es b e1 e2 e3 => by
    by_cases hk : i = k
    · subst hk
      exact a.fa.off j i v S P ds b (nj e1) e e3
    · rw [List.getElem?_set_ne hk] at e2
      exact a.fa.off j k v S P es b (nj e1) e2 e3, fun j k v w S T P Q n e1 e2 => a.fa.two j k v w S T P Q n (nj e1) (nj e2)⟩
  refine ⟨⟨a.gr.rd, fun b o q => ?_, fun b o q => ?_, a.gr.new⟩, by rw [List.length_set]; exact a.len, fun j d q => ?_, fun j es q => ?_, fun j v q => ?_, fun j k b es fs hjk q1 q2 s1 => ?_, fa'⟩
  · rw [upd_ne (ne_of_none q h5)]; exact a.gr.hp _ _ q
  · rw [upd_ne (ne_of_none q h4)]; exact a.gr.sub _ _ q
  · have hj : i ≠ j := fun z => by
      subst z
      rw [List.getElem?_set_self hl] at q
      cases q
    rw [List.getElem?_set_ne hj] at q
    exact a.val j d q
  · by_cases hj : i = j
    · subst hj
      rw [List.getElem?_set_self hl] at q
      cases q
      exact ⟨p, vs', s, upd_same, h, h4, h5⟩
    · rw [List.getElem?_set_ne hj] at q
      obtain ⟨p2, vs2, g1, g2, g3, g4, g5⟩ := a.own j es q
      have np : p2 ≠ p := fun z => a.apart i j p ds es hj e q s (by rw [← z]; exact g1)
      exact ⟨p2, vs2, g1, by rw [upd_ne np]; exact g2, g3, g4, g5⟩
  · have hj : i ≠ j := fun z => by
      subst z
      rw [List.getElem?_set_self hl] at q
      cases q
    rw [List.getElem?_set_ne hj] at q
    exact a.raw j v q
  · by_cases hj : i = j
    · subst hj
      rw [List.getElem?_set_ne hjk] at q2
      exact a.apart i k b ds fs hjk e q2 s1
    · rw [List.getElem?_set_ne hj] at q1
      by_cases hk : i = k
      · subst hk
        exact a.apart j i b es ds hjk q1 e s1
      · rw [List.getElem?_set_ne hk] at q2
        exact a.apart j k b es fs hjk q1 q2 s1
/-- the entry moved on to a later one -/
theorem At.later (a : At K R0 H0 R ρ σ H) {R1 H1 : Hp} (g : Grow R0 H0 R1 H1) (e : Same R1 R) : At K R1 H0 R ρ σ H where
  gr := ⟨e, a.gr.hp, a.gr.sub, fun x h n => by
    by_cases q : R0 x = none
    · exact a.gr.new x q n
    · cases q' : R0 x with
      | none => exact absurd q' q
      | some o =>
        rw [g.rd x o q'] at h
        cases h⟩
  len := a.len
  val := a.val
  own := a.own
  raw := a.raw
  apart := a.apart
  fa := a.fa
theorem At.back (a : At K R' H0 R ρ σ H) {H1 : Hp} (g : Grow R0 H0 R' H1) : At K R0 H0 R ρ σ H where
  gr := ⟨g.rd.trans a.gr.rd, a.gr.hp, a.gr.sub, fun x h n => by
    by_cases q : R' x = none
    · exact a.gr.new x q n
    · exact g.new x h q⟩
  len := a.len
  val := a.val
  own := a.own
  raw := a.raw
  apart := a.apart
  fa := a.fa
end
end Pu
set_option maxRecDepth 100000
namespace Pu
open PySem PySem.Spec PyProof.Rows L2
/-! ### what evaluates to what -/
/-- to data that stays -/
def Ev (K : Frag) (te : TE) (ρ : En) (d : D) : Prop := ∀ R0 H0 R σ H, At K R0 H0 R ρ σ H → ∀ Q : VK, (∀ v R' H', Grow R H R' H' → Dp K R' v d → Q v H') → te σ H Q
/-- to a list that is to be read at once -/
def EvL (K : Frag) (te : TE) (ρ : En) (ds : List D) : Prop := ∀ R0 H0 R σ H, At K R0 H0 R ρ σ H → ∀ Q : VK, (∀ p vs R' H', Grow R H R' H' → SqL K H' p vs → DpAll K R' vs ds → Q (.ref p) H') → te σ H Q
/-- to a new list -/
def EvF (K : Frag) (te : TE) (ρ : En) (ds : List D) : Prop := ∀ R0 H0 R σ H, At K R0 H0 R ρ σ H → ∀ Q : VK, (∀ p vs R' H', Grow R H R' H' → H p = none → R' p = none → H' p = some (.lst vs) → DpAll K R' vs ds → Q (.ref p) H') → te σ H Q
def EvA (K : Frag) (ta : TA) (ρ : En) (ds : List D) : Prop := ∀ R0 H0 R σ H, At K R0 H0 R ρ σ H → ∀ Q : List V → Hp → Prop, (∀ vs R' H', Grow R H R' H' → DpAll K R' vs ds → Q vs H') → ta σ H Q
def EvT (K : Frag) (tt : TT) (ρ : En) (b : Bool) : Prop := ∀ R0 H0 R σ H, At K R0 H0 R ρ σ H → ∀ Q : Bool → Hp → Prop, (∀ R' H', Grow R H R' H' → Q b H') → tt σ H Q
def EvO (K : Frag) (to : TO) (ρ : En) (o : Option Int) : Prop := ∀ R0 H0 R σ H, At K R0 H0 R ρ σ H → ∀ Q : Option Int → Hp → Prop, (∀ R' H', Grow R H R' H' → Q o H') → to σ H Q
/-- lets an exception out -/
def EvX (K : Frag) (W : WX) (te : TE) (ρ : En) (c : Value) : Prop := ∀ R0 H0 R σ H, At K R0 H0 R ρ σ H → ∀ Q : VK, (∀ R' H', At K R0 H0 R' ρ σ H' → W c none σ H') → te σ H Q
def isNone : D → Bool
  | .none => true
  | _ => false
section
variable {K : Frag} {ρ : En} {ta tb tc te tx : TE} {tt tu : TT} {d d1 d2 : D} {ds es : List D} {r : R2} {W : WX} {c : Value}
theorem Ev.is (h : Ev K te ρ d) (e : d = d1) : Ev K te ρ d1 := e ▸ h
theorem EvT.is {b b' : Bool} (h : EvT K tt ρ b) (e : b = b') : EvT K tt ρ b' := e ▸ h
theorem EvF.is (h : EvF K te ρ ds) (e : ds = es) : EvF K te ρ es := e ▸ h
theorem Ev.l (h : Ev K te ρ (.list ds)) : EvL K te ρ ds := fun R0 H0 R σ H a Q q => h R0 H0 R σ H a Q fun v R' H' g dv => by
  cases dv with
  | lst hs ha => exact q _ _ R' H' g (g.sub.seq hs) ha
theorem EvF.l (h : EvF K te ρ ds) : EvL K te ρ ds := fun R0 H0 R σ H a Q q => h R0 H0 R σ H a Q fun p vs R' H' g h0 r0 hp dv => q p vs R' H' g (SqL.of hp) dv
theorem EvF.v (h : EvF K te ρ ds) : Ev K te ρ (.list ds) := fun R0 H0 R σ H a Q q => h R0 H0 R σ H a Q fun p vs R' H' g h0 r0 hp dv =>
  q _ _ H' (g.show_ h0 hp) (.lst (SqL.of upd_same) (dpa_mono (same_upd r0) _ _ dv))
theorem ev_var {i : Nat} (h : ρ[i]? = some (.val d)) : Ev K (tVar i) ρ d := fun R0 H0 R σ H a Q q => by
  obtain ⟨v, h1, h2⟩ := a.val i d h
  exact ⟨v, h1, q v R H (Grow.refl a.gr.sub) h2⟩
theorem evl_own {i : Nat} (h : ρ[i]? = some (.own ds)) : EvL K (tVar i) ρ ds := fun R0 H0 R σ H a Q q => by
  obtain ⟨p, vs, h1, h2, h3, h4, h5⟩ := a.own i ds h
  exact ⟨_, h1, q p vs R H (Grow.refl a.gr.sub) (SqL.of h2) h3⟩
theorem ev_int {i : Int} : Ev K (tC (.int i)) ρ (.int i) := fun R0 H0 R σ H a Q q => q _ R H (Grow.refl a.gr.sub) (.int i)
theorem ev_bl {b : Bool} : Ev K (tC (.bl b)) ρ (.bool b) := fun R0 H0 R σ H a Q q => q _ R H (Grow.refl a.gr.sub) (.bl b)
theorem ev_non : Ev K (tC .non) ρ .none := fun R0 H0 R σ H a Q q => q _ R H (Grow.refl a.gr.sub) .non
theorem ev_str {x : Str} : Ev K (tC (.str x)) ρ (.str x) := fun R0 H0 R σ H a Q q => q _ R H (Grow.refl a.gr.sub) (.str x)
/-- two operands, then an operation -/
theorem ev_op2 (ha : Ev K ta ρ d1) (hb : Ev K tb ρ d2) (hr : ∀ R H x y, Same R H → Dp K R x d1 → Dp K R y d2 → ∀ Q : VK, (∀ v R' H', Grow R H R' H' → Dp K R' v d → Q v H') → r x y H Q) : Ev K (tOp r ta tb) ρ d :=
  fun R0 H0 R σ H a Q q => ha R0 H0 R σ H a _ fun x R1 H1 g1 dx => hb R0 H0 R1 σ H1 (a.grow g1) _ fun y R2 H2 g2 dy =>
    hr R2 H2 x y g2.sub (dp_mono g2.rd _ _ dx) dy Q fun v R3 H3 g3 dv => q v R3 H3 ((g1.trans g2).trans g3) dv
theorem ev_I {C : Int → Int → Prop} {f : Int → Int → V} {i j : Int} (ha : Ev K ta ρ (.int i)) (hb : Ev K tb ρ (.int j)) (hc : C i j) (hd : ∀ R, Dp K R (f i j) d) : Ev K (tOp (rI C f) ta tb) ρ d :=
  ev_op2 ha hb fun R H x y s dx dy Q q => by
    cases dx; cases dy
    exact ⟨i, j, rfl, rfl, hc, q _ R H (Grow.refl s) (hd R)⟩
theorem ev_I0 {f : Int → Int → V} {i j : Int} (ha : Ev K ta ρ (.int i)) (hb : Ev K tb ρ (.int j)) (hd : ∀ R, Dp K R (f i j) d) : Ev K (tOp (rI0 f) ta tb) ρ d :=
  ev_op2 ha hb fun R H x y s dx dy Q q => by
    cases dx; cases dy
    exact ⟨i, j, rfl, rfl, q _ R H (Grow.refl s) (hd R)⟩
theorem ev_neg {i : Int} (ha : Ev K ta ρ (.int i)) : Ev K (tUn (rU fun i => .int (-i)) ta) ρ (.int (-i)) := fun R0 H0 R σ H a Q q => ha R0 H0 R σ H a _ fun x R1 H1 g1 dx => by
  cases dx
  exact ⟨i, rfl, q _ R1 H1 g1 (.int _)⟩
/-- == at any depth -/
theorem ev_eqD (ha : Ev K ta ρ d1) (hb : Ev K tb ρ d2) (h1 : SeqAt.shaped d1 = true) (h2 : SeqAt.shaped d2 = true) : Ev K (tOp (rEqD K) ta tb) ρ (.bool (PyData.eqv d1 d2)) :=
  ev_op2 ha hb fun R H x y s dx dy Q q => ⟨d1, d2, dp_mono s _ _ dx, dp_mono s _ _ dy, h1, h2, q _ R H (Grow.refl s) (.bl _)⟩
theorem ev_neD (ha : Ev K ta ρ d1) (hb : Ev K tb ρ d2) (h1 : SeqAt.shaped d1 = true) (h2 : SeqAt.shaped d2 = true) : Ev K (tOp (rNeD K) ta tb) ρ (.bool (!PyData.eqv d1 d2)) :=
  ev_op2 ha hb fun R H x y s dx dy Q q => ⟨d1, d2, dp_mono s _ _ dx, dp_mono s _ _ dy, h1, h2, q _ R H (Grow.refl s) (.bl _)⟩
theorem ev_neL (ha : EvL K ta ρ ds) (hb : Ev K tb ρ d2) (h1 : SeqAt.shaped (.list ds) = true) (h2 : SeqAt.shaped d2 = true) : Ev K (tOp (rNeD K) ta tb) ρ (.bool (!PyData.eqv (.list ds) d2)) :=
  fun R0 H0 R σ H a Q q => ha R0 H0 R σ H a _ fun p vs R1 H1 g1 sq dx => hb R0 H0 R1 σ H1 (a.grow g1) _ fun y R2 H2 g2 dy =>
    ⟨.list ds, d2, .lst (g2.hp.seq sq) (dpa_mono (g2.rd.trans g2.sub) _ _ dx), dp_mono g2.sub _ _ dy, h1, h2, q _ R2 H2 (g1.trans g2) (.bl _)⟩
theorem ev_isN (ha : Ev K ta ρ d) : Ev K (tOp (fun x y H Q => y = .non ∧ Q (.bl (decide (x = .non))) H) ta (tC .non)) ρ (.bool (isNone d)) :=
  ev_op2 (d2 := .none) ha ev_non fun R H x y s dx dy Q q => by
    cases dy
    refine ⟨rfl, ?_⟩
    have e : decide (x = V.non) = isNone d := by
      cases dx <;> first | rfl | exact decide_eq_false (fun z => nomatch z)
    rw [e]
    exact q _ R H (Grow.refl s) (.bl _)
theorem ev_notN (ha : Ev K ta ρ d) : Ev K (tOp (fun x y H Q => y = .non ∧ Q (.bl (!decide (x = .non))) H) ta (tC .non)) ρ (.bool (!isNone d)) :=
  ev_op2 (d2 := .none) ha ev_non fun R H x y s dx dy Q q => by
    cases dy
    refine ⟨rfl, ?_⟩
    have e : decide (x = V.non) = isNone d := by
      cases dx <;> first | rfl | exact decide_eq_false (fun z => nomatch z)
    rw [e]
    exact q _ R H (Grow.refl s) (.bl _)
/-! ### items -/
theorem ixN_get {α β : Type} {xs : List α} {ys : List β} {i : Int} (h : xs.length = ys.length) {y : β} (e : atI ys i = some y) : ∃ j, ixN xs.length i = some j ∧ ys[j]? = some y := by
  unfold atI at e
  rw [h]
  cases q : ixN ys.length i with
  | none => rw [q] at e; cases e
  | some j =>
    rw [q] at e
    exact ⟨j, rfl, e⟩
theorem atI_of {α : Type} {xs : List α} {i : Int} {j : Nat} {x : α} (h : ixN xs.length i = some j) (e : xs[j]? = some x) : atI xs i = some x := by
  unfold atI
  rw [h]
  exact e
theorem dpa_at {H : Hp} {vs : List V} {i : Int} (h : DpAll K H vs ds) (e : atI ds i = some d) : ∃ v, atI vs i = some v ∧ Dp K H v d := by
  obtain ⟨j, h1, h2⟩ := ixN_get (xs := vs) (dpa_len h) e
  obtain ⟨v, h3, h4⟩ := dpa_get h h2
  exact ⟨v, atI_of h1 h3, h4⟩
/-- a list or a tuple (or a text) -/
theorem ev_ixST {i : Int} (ha : Ev K ta ρ (.tuple ds)) (hb : Ev K tb ρ (.int i)) (e : atI ds i = some d) : Ev K (tOp (rIx K) ta tb) ρ d :=
  fun R0 H0 R σ H a Q q => ha R0 H0 R σ H a _ fun x R1 H1 g1 dx => hb R0 H0 R1 σ H1 (a.grow g1) _ fun y R2 H2 g2 dy => by
    cases dy
    cases dx with
    | tup hs hall =>
      obtain ⟨v, h1, h2⟩ := dpa_at hall e
      exact .inr (.inl ⟨_, _, i, v, rfl, rfl, sqt_mono (g2.rd.trans g2.sub) hs, h1, q v R2 H2 (g1.trans g2) (dp_mono g2.rd _ _ h2)⟩)
theorem ev_ixSL {i : Int} (ha : EvL K ta ρ ds) (hb : Ev K tb ρ (.int i)) (e : atI ds i = some d) : Ev K (tOp (rIx K) ta tb) ρ d :=
  fun R0 H0 R σ H a Q q => ha R0 H0 R σ H a _ fun p vs R1 H1 g1 sq dx => hb R0 H0 R1 σ H1 (a.grow g1) _ fun y R2 H2 g2 dy => by
    cases dy
    obtain ⟨v, h1, h2⟩ := dpa_at dx e
    exact .inl ⟨p, vs, i, v, rfl, rfl, g2.hp.seq sq, h1, q v R2 H2 (g1.trans g2) (dp_mono g2.rd _ _ h2)⟩
/-! ### arguments, displays -/
theorem ea_nil : EvA K tNil ρ [] := fun R0 H0 R σ H a Q q => q [] R H (Grow.refl a.gr.sub) .nil
theorem ea_cons {tr : TA} (h : Ev K te ρ d) (hr : EvA K tr ρ ds) : EvA K (tCons te tr) ρ (d :: ds) := fun R0 H0 R σ H a Q q => h R0 H0 R σ H a _ fun x R1 H1 g1 dx =>
  hr R0 H0 R1 σ H1 (a.grow g1) _ fun xs R2 H2 g2 dxs => q _ R2 H2 (g1.trans g2) (.cons (dp_mono g2.rd _ _ dx) dxs)
theorem ev_tup {tr : TA} (h : EvA K tr ρ ds) (hl : ds.length ≤ 100000) : Ev K (tTup tr) ρ (.tuple ds) := fun R0 H0 R σ H a Q q => h R0 H0 R σ H a _ fun xs R1 H1 g1 dx =>
  ⟨Nat.le_trans (by rw [dpa_len dx]; exact hl) (by decide), fun p hp => q _ _ _ (g1.trans (Grow.alloc g1.sub hp)) (.tup (SqT.of upd_same) (dpa_mono (Grow.alloc g1.sub hp).rd _ _ dx))⟩
theorem evf_lst {tr : TA} (h : EvA K tr ρ ds) (hl : ds.length ≤ 100000) : EvF K (tLst tr) ρ ds := fun R0 H0 R σ H a Q q => h R0 H0 R σ H a _ fun xs R1 H1 g1 dx =>
  ⟨Nat.le_trans (by rw [dpa_len dx]; exact hl) (by decide), fun p hp => q p xs R1 _ (g1.trans (Grow.hide g1.sub hp)) (g1.hp.free hp) (g1.sub.free hp) upd_same dx⟩
/-! ### tests -/
theorem et_test {b : Bool} (h : Ev K te ρ (.bool b)) : EvT K (tTest te) ρ b := fun R0 H0 R σ H a Q q => h R0 H0 R σ H a _ fun v R1 H1 g1 dv => by
  cases dv
  exact ⟨b, rfl, q R1 H1 g1⟩
theorem et_B {b : Bool} (h : Ev K te ρ (.bool b)) : EvT K (tB te) ρ b := fun R0 H0 R σ H a Q q => h R0 H0 R σ H a _ fun v R1 H1 g1 dv => by
  cases dv
  exact ⟨b, rfl, q R1 H1 g1⟩
theorem et_and {x y : Bool} (h1 : EvT K tt ρ x) (h2 : x = true → EvT K tu ρ y) : EvT K (tAnd tt tu) ρ (x && y) := fun R0 H0 R σ H a Q q => h1 R0 H0 R σ H a _ fun R1 H1 g1 => by
  cases x with
  | true => exact iteT (h2 rfl R0 H0 R1 σ H1 (a.grow g1) Q fun R2 H2 g2 => q R2 H2 (g1.trans g2))
  | false => exact iteF (q R1 H1 g1)
theorem et_or {x y : Bool} (h1 : EvT K tt ρ x) (h2 : x = false → EvT K tu ρ y) : EvT K (tOr tt tu) ρ (x || y) := fun R0 H0 R σ H a Q q => h1 R0 H0 R σ H a _ fun R1 H1 g1 => by
  cases x with
  | true => exact iteT (q R1 H1 g1)
  | false => exact iteF (h2 rfl R0 H0 R1 σ H1 (a.grow g1) Q fun R2 H2 g2 => q R2 H2 (g1.trans g2))
theorem et_not {x : Bool} (h : EvT K tt ρ x) : EvT K (tNot tt) ρ (!x) := fun R0 H0 R σ H a Q q => h R0 H0 R σ H a _ fun R1 H1 g1 => q R1 H1 g1
theorem ev_andV {x y : Bool} (h1 : Ev K ta ρ (.bool x)) (h2 : x = true → Ev K tb ρ (.bool y)) : Ev K (tAndV ta tb) ρ (.bool (x && y)) := fun R0 H0 R σ H a Q q => h1 R0 H0 R σ H a _ fun v R1 H1 g1 dv => by
  cases dv
  refine ⟨x, rfl, ?_⟩
  cases x with
  | true => exact iteT (h2 rfl R0 H0 R1 σ H1 (a.grow g1) Q fun v R2 H2 g2 dv => q v R2 H2 (g1.trans g2) dv)
  | false => exact iteF (q _ R1 H1 g1 (.bl _))
theorem ev_orV {x y : Bool} (h1 : Ev K ta ρ (.bool x)) (h2 : x = false → Ev K tb ρ (.bool y)) : Ev K (tOrV ta tb) ρ (.bool (x || y)) := fun R0 H0 R σ H a Q q => h1 R0 H0 R σ H a _ fun v R1 H1 g1 dv => by
  cases dv
  refine ⟨x, rfl, ?_⟩
  cases x with
  | true => exact iteT (q _ R1 H1 g1 (.bl _))
  | false => exact iteF (h2 rfl R0 H0 R1 σ H1 (a.grow g1) Q fun v R2 H2 g2 dv => q v R2 H2 (g1.trans g2) dv)
theorem ev_notV {x : Bool} (h1 : Ev K ta ρ (.bool x)) : Ev K (tNotV ta) ρ (.bool (!x)) := fun R0 H0 R σ H a Q q => h1 R0 H0 R σ H a _ fun v R1 H1 g1 dv => by
  cases dv
  exact ⟨x, rfl, q _ R1 H1 g1 (.bl _)⟩
end
end Pu
set_option maxRecDepth 100000
namespace Pu
open PySem PySem.Spec PyProof.Rows L2
/-! ### contracts -/
structure Kc where
  rt : D → Prop
  rl : List D → Prop
  ex : Value → Prop
abbrev Ct := List D → Kc → Prop
/-- what a contract says in terms of heaps -/
def spc (K : Frag) (c : Ct) : Sp := fun vs H Q E => ∃ (R : Hp) (ds : List D) (k : Kc), Same R H ∧ DpAll K R vs ds ∧ c ds k ∧
  (∀ d v R' H', k.rt d → Grow R H R' H' → Dp K R' v d → Q v H') ∧
  (∀ es p vs' R' H', k.rl es → Grow R H R' H' → H p = none → R' p = none → H' p = some (.lst vs') → DpAll K R' vs' es → Q (.ref p) H') ∧
  (∀ x R' H', k.ex x → Grow R H R' H' → E x none H')
/-- it gives d; a new list; an exception -/
def kv (d : D) : Kc := ⟨fun e => e = d, fun _ => False, fun _ => False⟩
def kl (ds : List D) : Kc := ⟨fun _ => False, fun es => es = ds, fun _ => False⟩
def kx (c : Value) : Kc := ⟨fun _ => False, fun _ => False, fun x => x = c⟩
section
variable {K : Frag} {ρ : En} {te : TE} {ta : TA} {c : Ct} {d : D} {ds es : List D} {E : L2.St → XK} {W : WX} {x : Value}
theorem ev_call (ha : EvA K ta ρ ds) (hc : c ds (kv d)) : Ev K (tCallS (spc K c) E ta) ρ d := fun R0 H0 R σ H a Q q => ha R0 H0 R σ H a _ fun vs R1 H1 g1 dx =>
  ⟨R1, ds, kv d, g1.sub, dx, hc, fun e v R' H' h g dv => by cases (show e = d from h); exact q v R' H' (g1.trans g) dv, fun _ _ _ _ _ h => h.elim, fun _ _ _ h => h.elim⟩
theorem evf_call (ha : EvA K ta ρ ds) (hc : c ds (kl es)) : EvF K (tCallS (spc K c) E ta) ρ es := fun R0 H0 R σ H a Q q => ha R0 H0 R σ H a _ fun vs R1 H1 g1 dx =>
  ⟨R1, ds, kl es, g1.sub, dx, hc, fun _ _ _ _ h => h.elim, fun fs p vs' R' H' h g hn hr hp dv => by cases (show fs = es from h); exact q p vs' R' H' (g1.trans g) (g1.hp.free hn) hr hp dv, fun _ _ _ h => h.elim⟩
theorem evx_call (ha : EvA K ta ρ ds) (hc : c ds (kx x)) : EvX K W (tCallS (spc K c) (WE W) ta) ρ x := fun R0 H0 R σ H a Q q => ha R0 H0 R σ H a _ fun vs R1 H1 g1 dx =>
  ⟨R1, ds, kx x, g1.sub, dx, hc, fun _ _ _ _ h => h.elim, fun _ _ _ _ _ h => h.elim, fun y R' H' h g => by cases (show y = x from h); exact q R' H' (a.grow (g1.trans g))⟩
end
/-! ### statements -/
structure Ko where
  nx : En → Prop
  rt : D → Prop
  rl : List D → Prop
  bk : En → Prop := fun _ => False
  ct : En → Prop := fun _ => False
  /-- a return, told by the slots and one more for what is returned -/
  rg : En → Prop := fun _ => False
structure Meets (K : Frag) (R0 H0 : Hp) (k : Ko) (D : Ends) : Prop where
  nx : ∀ ρ R σ H, k.nx ρ → At K R0 H0 R ρ σ H → D.nx σ H
  rt : ∀ d v R H, k.rt d → Grow R0 H0 R H → Dp K R v d → D.rt v H
  rl : ∀ ds p vs R H, k.rl ds → Grow R0 H0 R H → H0 p = none → R p = none → H p = some (.lst vs) → DpAll K R vs ds → D.rt (.ref p) H
  bk : ∀ ρ R σ H, k.bk ρ → At K R0 H0 R ρ σ H → D.bk σ H
  ct : ∀ ρ R σ H, k.ct ρ → At K R0 H0 R ρ σ H → D.ct σ H
  rg : ∀ ρ v R σ H, k.rg ρ → At K R0 H0 R ρ (σ ++ [some v]) H → D.rt v H
def OkW (K : Frag) (W : WX) (ex : Value → En → Prop) (R0 H0 : Hp) : Prop := ∀ c ρ R σ H, ex c ρ → At K R0 H0 R ρ σ H → W c none σ H
/-- the statement leads to k (or lets out what ex says) -/
def Sd (K : Frag) (W : WX) (ex : Value → En → Prop) (ts : TS) (ρ : En) (k : Ko) : Prop := ∀ R0 H0, OkW K W ex R0 H0 → ∀ R σ H, At K R0 H0 R ρ σ H → ∀ D, Meets K R0 H0 k D → ts D σ H
theorem Grow.back {R0 H0 R' H1 R H : Hp} (a : Grow R' H0 R H) (g : Grow R0 H0 R' H1) : Grow R0 H0 R H := ⟨g.rd.trans a.rd, a.hp, a.sub, fun x h n => by
    by_cases q : R' x = none
    · exact a.new x q n
    · exact g.new x h q⟩
theorem OkW.back {K : Frag} {W : WX} {ex : Value → En → Prop} {R0 H0 R' H1 : Hp} (h : OkW K W ex R0 H0) (g : Grow R0 H0 R' H1) : OkW K W ex R' H0 := fun c ρ R σ H e a => h c ρ R σ H e (a.back g)
theorem Meets.back {K : Frag} {R0 H0 R' H1 : Hp} {k : Ko} {D : Ends} (m : Meets K R0 H0 k D) (g : Grow R0 H0 R' H1) : Meets K R' H0 k D where
  nx := fun ρ R σ H e a => m.nx ρ R σ H e (a.back g)
  rt := fun d v R H e a dv => m.rt d v R H e (a.back g) dv
  rl := fun ds p vs R H e a h0 r hp dv => m.rl ds p vs R H e (a.back g) h0 r hp dv
  bk := fun ρ R σ H e a => m.bk ρ R σ H e (a.back g)
  ct := fun ρ R σ H e a => m.ct ρ R σ H e (a.back g)
  rg := fun ρ v R σ H e a => m.rg ρ v R σ H e (a.back g)
section
variable {K : Frag} {ρ ρ2 : En} {te ti : TE} {ta : TA} {tt : TT} {t u ts tb : TS} {g : TG} {c : Ct} {d d1 d2 : D} {ds es : List D} {W : WX} {ex : Value → En → Prop} {k : Ko} {x : Value} {i j : Nat}
theorem sd_next (h : k.nx ρ) : Sd K W ex tNext ρ k := fun R0 H0 ok R σ H a D m => m.nx ρ R σ H h a
theorem sd_seq (h : Sd K W ex t ρ { k with nx := fun ρ' => Sd K W ex u ρ' k }) : Sd K W ex (tSeq t u) ρ k := fun R0 H0 ok R σ H a D m =>
  h R0 H0 ok R σ H a _ ⟨fun ρ' R' σ' H' s a' => s R0 H0 ok R' σ' H' a' D m, m.rt, m.rl, m.bk, m.ct, m.rg⟩
theorem sd_ifS {b : Bool} (hc : EvT K tt ρ b) (h1 : b = true → Sd K W ex t ρ k) (h2 : b = false → Sd K W ex u ρ k) : Sd K W ex (tIfS tt t u) ρ k := fun R0 H0 ok R σ H a D m =>
  hc R0 H0 R σ H a _ fun R1 H1 g1 => by
    cases b with
    | true => exact iteT (h1 rfl R0 H0 ok R1 σ H1 (a.grow g1) D m)
    | false => exact iteF (h2 rfl R0 H0 ok R1 σ H1 (a.grow g1) D m)
theorem sd_set (h : Ev K te ρ d) (hk : k.nx (ρ.set i (.val d))) : Sd K W ex (tAsg te (gName i)) ρ k := fun R0 H0 ok R σ H a D m =>
  h R0 H0 R σ H a _ fun v R1 H1 g1 dv => m.nx _ R1 _ H1 hk ((a.grow g1).set dv)
theorem sd_own (h : EvF K te ρ ds) (hk : k.nx (ρ.set i (.own ds))) : Sd K W ex (tAsg te (gName i)) ρ k := fun R0 H0 ok R σ H a D m =>
  h R0 H0 R σ H a _ fun p vs R1 H1 g1 hn hr hp dv => m.nx _ R1 _ H1 hk ((a.grow g1).set_own hp dv hr (a.gr.hp.free hn) (fun j fs _ q z => by
    obtain ⟨p2, vs2, q1, q2, _⟩ := a.own j fs q
    rw [z] at q1
    cases q1
    rw [hn] at q2
    cases q2) fun j v S P q z => ((a.fa.at_ j v S P q).2.2.2 p z).1 hn)
theorem sd_setx (h : EvX K W te ρ x) (he : ex x ρ) : Sd K W ex (tAsg te g) ρ k := fun R0 H0 ok R σ H a D m => h R0 H0 R σ H a _ fun R1 H1 a1 => ok x ρ R1 σ H1 he a1
theorem sd_drop (h : Ev K te ρ d) (hk : k.nx ρ) : Sd K W ex (tDrop te) ρ k := fun R0 H0 ok R σ H a D m =>
  h R0 H0 R σ H a _ fun v R1 H1 g1 dv => m.nx _ R1 _ H1 hk (a.grow g1)
theorem sd_dropx (h : EvX K W te ρ x) (he : ex x ρ) : Sd K W ex (tDrop te) ρ k := fun R0 H0 ok R σ H a D m => h R0 H0 R σ H a _ fun R1 H1 a1 => ok x ρ R1 σ H1 he a1
theorem sd_ret (h : Ev K te ρ d) (hk : k.rt d) : Sd K W ex (tRet te) ρ k := fun R0 H0 ok R σ H a D m =>
  h R0 H0 R σ H a _ fun v R1 H1 g1 dv => m.rt d v R1 H1 hk (a.gr.trans g1) dv
theorem sd_retf (h : EvF K te ρ ds) (hk : k.rl ds) : Sd K W ex (tRet te) ρ k := fun R0 H0 ok R σ H a D m =>
  h R0 H0 R σ H a _ fun p vs R1 H1 g1 hn hr hp dv => m.rl ds p vs R1 H1 hk (a.gr.trans g1) (a.gr.hp.free hn) hr hp dv
/-- return told, an own list -/
theorem sd_reto (e : ρ[i]? = some (.own ds)) (hk : k.rl ds) : Sd K W ex (tRet (tVar i)) ρ k := fun R0 H0 ok R σ H a D m => by
  obtain ⟨p, vs, h1, h2, h3, h4, h5⟩ := a.own i ds e
  exact ⟨_, h1, m.rl ds p vs R H hk a.gr h5 h4 h2 h3⟩
/-- raise C(..) -/
def tRaiseC (W : WX) (C : Addr) : TS := fun _ σ H => W (.ref C) none σ H
theorem sd_raise {C : Addr} (he : ex (.ref C) ρ) : Sd K W ex (tRaiseC W C) ρ k := fun R0 H0 ok R σ H a D m => ok _ ρ R σ H he a
/-- a slot is forgotten -/
theorem Sd.imp {k' : Ko} (h : Sd K W ex ts ρ k) (h1 : ∀ ρ, k.nx ρ → k'.nx ρ) (h2 : ∀ d, k.rt d → k'.rt d) (h3 : ∀ d, k.rl d → k'.rl d) (h4 : ∀ ρ, k.bk ρ → k'.bk ρ) (h5 : ∀ ρ, k.ct ρ → k'.ct ρ) (h6 : ∀ ρ, k.rg ρ → k'.rg ρ := by exact fun _ h => h) : Sd K W ex ts ρ k' := fun R0 H0 ok R σ H a D m =>
  h R0 H0 ok R σ H a D ⟨fun ρ R σ H q => m.nx ρ R σ H (h1 ρ q), fun d v R H q => m.rt d v R H (h2 d q), fun ds p vs R H q => m.rl ds p vs R H (h3 ds q), fun ρ R σ H q => m.bk ρ R σ H (h4 ρ q), fun ρ R σ H q => m.ct ρ R σ H (h5 ρ q), fun ρ v R σ H q => m.rg ρ v R σ H (h6 ρ q)⟩
/-! ### own lists that change -/
theorem sd_append (e : ρ[i]? = some (.own ds)) (h : Ev K te ρ d) (hl : ds.length ≤ 100000) (hk : k.nx (ρ.set i (.own (ds ++ [d])))) : Sd K W ex (tDrop (tBM K "list" rAppend (tVar i) (tCons te tNil))) ρ k := fun R0 H0 ok R σ H a D m => by
  obtain ⟨p, vs, h1, h2, h3, h4, h5⟩ := a.own i ds e
  refine ⟨_, h1, .inl ⟨rfl, _, SqL.of h2⟩, h R0 H0 R σ H a _ fun v R1 H1 g1 dv => ?_⟩
  have a1 := a.grow g1
  refine ⟨p, vs, v, rfl, rfl, g1.hp _ _ h2, ?_, m.nx _ R1 _ _ hk (a1.put e h1 (dpa_snoc (dpa_mono g1.rd _ _ h3) dv))⟩
  rw [dpa_len h3]
  exact Nat.lt_of_le_of_lt hl (by decide)
/-- x[i] = e, x an own list -/
theorem sd_put {n : Int} {q : Nat} (e : ρ[i]? = some (.own ds)) (h : Ev K te ρ d) (hi : Ev K ti ρ (.int n)) (hn : ixN ds.length n = some q) (hk : k.nx (ρ.set i (.own (ds.set q d)))) : Sd K W ex (tAsg te (gSub (tVar i) ti rSetL)) ρ k := fun R0 H0 ok R σ H a D m =>
  h R0 H0 R σ H a _ fun v R1 H1 g1 dv => by
    have a1 := a.grow g1
    obtain ⟨p, vs, h1, h2, h3, h4, h5⟩ := a1.own i ds e
    refine ⟨_, h1, hi R0 H0 R1 σ H1 a1 _ fun w R2 H2 g2 dw => ?_⟩
    cases dw
    exact ⟨p, vs, n, q, rfl, rfl, g2.hp _ _ h2, by rw [dpa_len h3]; exact hn, m.nx _ R2 _ _ hk ((a1.grow g2).put e h1 (dpa_set q (dpa_mono g2.rd _ _ h3) (dp_mono g2.rd _ _ dv)))⟩
/-! ### while -/
theorem sd_while (Inv : En → Prop) (μ : En → Nat) (h0 : Inv ρ)
    (hs : ∀ ρ', Inv ρ' → ∃ b, EvT K tt ρ' b ∧ (b = true → Sd K W ex tb ρ' { k with nx := fun r => Inv r ∧ μ r < μ ρ', ct := fun r => Inv r ∧ μ r < μ ρ', bk := k.nx }) ∧ (b = false → k.nx ρ')) : Sd K W ex (tWhile tt tb) ρ k := fun R0 H0 ok R σ H a D m => by
  refine ⟨fun n σ' H' => ∃ ρ' R', n = μ ρ' ∧ Inv ρ' ∧ At K R0 H0 R' ρ' σ' H', ⟨_, ρ, R, rfl, h0, a⟩, ?_⟩
  rintro n σ' H' ⟨ρ', R', rfl, w, a'⟩
  obtain ⟨b, hb, h1, h2⟩ := hs ρ' w
  refine hb R0 H0 R' σ' H' a' _ fun R2 H2 g2 => ?_
  have a2 := a'.grow g2
  cases b with
  | true =>
    refine iteT ⟨fun σ3 H3 => ∃ ρ3 R3, (Inv ρ3 ∧ μ ρ3 < μ ρ') ∧ At K R0 H0 R3 ρ3 σ3 H3, fun σ3 H3 ⟨ρ3, R3, ⟨w3, l3⟩, a3⟩ => ⟨_, l3, ρ3, R3, rfl, w3, a3⟩, ?_⟩
    exact h1 rfl R0 H0 ok R2 σ' H2 a2 _ ⟨fun r R3 σ3 H3 q a3 => ⟨r, R3, q, a3⟩, m.rt, m.rl, m.nx, fun r R3 σ3 H3 q a3 => ⟨r, R3, q, a3⟩, m.rg⟩
  | false => exact iteF (m.nx _ _ _ _ (h2 rfl) a2)
/-! ### for -/
def Yl (K : Frag) (J : It) (R' : Hp) (ds : List D) : Prop := ∀ R2 H2, Same R' R2 → Same R2 H2 → (∀ i d, ds[i]? = some d → J.go i H2 ∧ ∀ x H3, J.yld i H2 x H3 → ∃ R3, Grow R2 H2 R3 H3 ∧ Dp K R3 x d) ∧ J.stop ds.length H2
/-- what is walked: the data ds, one by one -/
def Id (K : Frag) (wi : TI) (ρ : En) (ds : List D) : Prop := ∀ R0 H0 R σ H, At K R0 H0 R ρ σ H → ∀ Rr : It → Hp → Prop, (∀ J R' H', Grow R H R' H' → Yl K J R' ds → Rr J H') → wi σ H Rr
def Gd (K : Frag) (g : TG) (d : D) (ρ ρ2 : En) : Prop := ∀ R0 H0 R v σ H, At K R0 H0 R ρ σ H → Dp K R v d → ∀ Q : L2.St → Hp → Prop, (∀ σ', At K R0 H0 R ρ2 σ' H → Q σ' H) → g v σ H Q
theorem gd_name : Gd K (gName i) d ρ (ρ.set i (.val d)) := fun R0 H0 R v σ H a dv Q q => q _ (a.set dv)
theorem gd_tup2 {ρ1 ρ3 : En} {g1 g2 : TG} (h1 : Gd K g1 d1 ρ ρ1) (h2 : Gd K g2 d2 ρ1 ρ3) : Gd K (gTup K 2 (gCons g1 (gCons g2 gNil))) (.tuple [d1, d2]) ρ ρ3 := fun R0 H0 R v σ H a dv Q q => by
  cases dv with
  | tup hs ha =>
    cases ha with
    | cons e1 ha =>
      cases ha with
      | cons e2 ha =>
        cases ha
        exact ⟨_, _, rfl, sqt_mono a.gr.sub hs, rfl, _, _, rfl, h1 R0 H0 R _ σ H a e1 _ fun σ1 a1 => ⟨_, _, rfl, h2 R0 H0 R _ σ1 H a1 e2 _ fun σ2 a2 => ⟨rfl, q σ2 a2⟩⟩⟩
theorem sd_for {wi : TI} (Inv : Nat → En → Prop) (hI : Id K wi ρ ds) (h0 : Inv 0 ρ)
    (hs : ∀ i d ρ', ds[i]? = some d → Inv i ρ' → ∃ ρ2, Gd K g d ρ' ρ2 ∧ Sd K W ex tb ρ2 { k with nx := Inv (i + 1), ct := Inv (i + 1), bk := k.nx }) (hd : ∀ ρ', Inv ds.length ρ' → k.nx ρ') : Sd K W ex (tFor wi g tb) ρ k := fun R0 H0 ok R σ H a D m => by
  refine hI R0 H0 R σ H a _ fun J R' H' gr yl => ?_
  refine ⟨fun i n σ' H2 => n = ds.length - i ∧ i ≤ ds.length ∧ ∃ ρ' R2, Inv i ρ' ∧ At K R0 H0 R2 ρ' σ' H2 ∧ Same R' R2, ⟨ds.length, by simp, Nat.zero_le _, ρ, R', h0, a.grow gr, Same.refl _⟩, ?_⟩
  rintro i n σ' H2 ⟨rfl, hi, ρ', R2, w, a2, s2⟩
  obtain ⟨y1, y2⟩ := yl R2 H2 s2 a2.gr.sub
  by_cases hlt : i < ds.length
  · obtain ⟨go, yld⟩ := y1 i ds[i] (List.getElem?_eq_getElem hlt)
    refine .inr ⟨go, fun σ3 H3 => ∃ ρ3 R3, Inv (i + 1) ρ3 ∧ At K R0 H0 R3 ρ3 σ3 H3 ∧ Same R' R3, fun σ3 H3 ⟨ρ3, R3, w3, a3, s3⟩ => ⟨ds.length - (i + 1), by omega, rfl, hlt, ρ3, R3, w3, a3, s3⟩, fun x H3 y => ?_⟩
    obtain ⟨R3, g3, dx⟩ := yld x H3 y
    obtain ⟨ρ2, hg, hb⟩ := hs i ds[i] ρ' (List.getElem?_eq_getElem hlt) w
    have a3 := a2.grow g3
    refine hg R0 H0 R3 x σ' H3 a3 dx _ fun σ4 a4 => ?_
    have G := a3.gr
    refine hb R3 H0 (ok.back G) R3 σ4 H3 (a4.later G (Same.refl _)) _ ⟨fun r R5 σ5 H5 q a5 => ⟨r, R5, q, a5.back G, (s2.trans g3.rd).trans a5.gr.rd⟩, (m.back G).rt, (m.back G).rl, fun r R5 σ5 H5 q a5 => m.nx r R5 σ5 H5 q (a5.back G), fun r R5 σ5 H5 q a5 => ⟨r, R5, q, a5.back G, (s2.trans g3.rd).trans a5.gr.rd⟩, (m.back G).rg⟩
  · have e : i = ds.length := by omega
    subst e
    exact .inl ⟨y2, m.nx _ _ _ _ (hd ρ' w) a2⟩
/-! ### what is walked -/
def rangeD (lo : Int) (n : Nat) : List D := (List.range n).map fun i : Nat => .int (lo + (i : Int))
theorem rangeD_len {lo : Int} {n : Nat} : (rangeD lo n).length = n := by unfold rangeD; rw [List.length_map, List.length_range]
theorem rangeD_get {lo : Int} {n i : Nat} {d : D} (h : (rangeD lo n)[i]? = some d) : i < n ∧ d = .int (lo + (i : Int)) := by
  unfold rangeD at h
  rw [List.getElem?_map] at h
  have hl : i < n := by
    by_cases z : i < n
    · exact z
    · rw [List.getElem?_eq_none (by rw [List.length_range]; omega)] at h
      cases h
  rw [List.getElem?_range hl] at h
  exact ⟨hl, (Option.some.inj h).symm⟩
theorem yl_range {lo : Int} {n : Nat} {R : Hp} : Yl K (Itr lo n) R (rangeD lo n) := fun R2 H2 s2 sh => by
  refine ⟨fun i d e => ?_, by rw [rangeD_len]; exact Nat.le_refl n⟩
  obtain ⟨hl, rfl⟩ := rangeD_get e
  refine ⟨hl, fun x H3 y => ?_⟩
  obtain ⟨rfl, rfl⟩ := y
  exact ⟨R2, Grow.refl sh, .int _⟩
theorem id_rng1 {j : Int} (h : EvA K ta ρ [.int j]) (h1 : -(2 ^ 62) ≤ j) (h2 : j < 2 ^ 62) : Id K (iRng1 ta) ρ (rangeD 0 j.toNat) := fun R0 H0 R σ H a Rr q => h R0 H0 R σ H a _ fun vs R1 H1 g1 dv => by
  cases dv with
  | cons e1 dv =>
    cases dv
    cases e1
    exact ⟨j, rfl, h1, h2, q _ R1 H1 g1 yl_range⟩
end
/-! ### a def's body -/
theorem at_start {K : Frag} {R H : Hp} {vs : List V} {ds : List D} {N : List Str} (s : Same R H) (h : DpAll K R vs ds) : At K R H R (ds.map Sl.val ++ List.replicate (N.length - ds.length) Sl.un) (L2.start N vs) H := by
  have hl := dpa_len h
  have key : ∀ (i : Nat) (x : Sl), (ds.map Sl.val ++ List.replicate (N.length - ds.length) Sl.un)[i]? = some x → x = .un ∨ ∃ d, x = .val d ∧ ds[i]? = some d := fun i x q => by
    by_cases hi : i < ds.length
    · rw [List.getElem?_append_left (by rw [List.length_map]; exact hi), List.getElem?_map, List.getElem?_eq_getElem hi] at q
      exact .inr ⟨ds[i], (Option.some.inj q).symm, List.getElem?_eq_getElem hi⟩
    · rw [List.getElem?_append_right (by rw [List.length_map]; omega), List.getElem?_replicate] at q
      split at q
      · exact .inl (Option.some.inj q).symm
      · cases q
  refine ⟨Grow.refl s, ?_, fun i d q => ?_, fun i es q => ?_, fun i v q => ?_, fun i j p es fs _ q => ?_, Facts.none_ fun i v S P q => ?_⟩
  · unfold L2.start
    rw [List.length_append, List.length_append, List.length_map, List.length_map, List.length_replicate, List.length_replicate, hl]
  · rcases key i _ q with z | ⟨e, z, g⟩
    · cases z
    · cases z
      obtain ⟨v, h1, h2⟩ := dpa_get h g
      refine ⟨v, ?_, h2⟩
      unfold L2.start
      have hi : i < vs.length := (List.getElem?_eq_some_iff.mp h1).1
      rw [List.getElem?_append_left (by rw [List.length_map]; exact hi), List.getElem?_map, h1]
      rfl
  · rcases key i _ q with z | ⟨e, z, g⟩ <;> cases z
  · rcases key i _ q with z | ⟨e, z, g⟩ <;> cases z
  · rcases key i _ q with z | ⟨e, z, g⟩ <;> cases z
  · rcases key i _ q with z | ⟨e, z, g⟩ <;> cases z
/-- the reading of a def's body from its contract -/
theorem body_of {K : Frag} {c : Ct} {vs : List V} {H : Hp} {Q : VK} {E : XK} {N : List Str} {t : TS} (h : spc K c vs H Q E)
    (hs : ∀ (ds : List D) (k : Kc), c ds k → Sd K (fun cls d _ H => E cls d H) (fun x _ => k.ex x) t (ds.map Sl.val ++ List.replicate (N.length - ds.length) Sl.un) { nx := fun _ => k.rt .none, rt := k.rt, rl := k.rl }) :
    t { nx := fun _ H' => Q .non H', rt := Q } (L2.start N vs) H := by
  obtain ⟨R, ds, k, s, hd, hc, q1, q2, q3⟩ := h
  refine hs ds k hc R H (fun x ρ R' σ H' hx a => q3 x R' H' hx a.gr) R _ H (at_start s hd) _ ⟨fun ρ R' σ H' hr a => q1 _ _ R' H' hr a.gr .non, fun d v R' H' hr g dv => q1 d v R' H' hr g dv, fun es p vs' R' H' hr g hn hr' hp dv => q2 es p vs' R' H' hr g hn hr' hp dv, fun _ _ _ _ q => q.elim, fun _ _ _ _ q => q.elim, fun _ _ _ _ _ q => q.elim⟩
theorem spc_len {K : Frag} {c : Ct} {n : Nat} (h : ∀ ds k, c ds k → ds.length = n) : ∀ vs H Q E, spc K c vs H Q E → vs.length = n := fun vs H Q E ⟨R, ds, k, s, hd, hc, _⟩ => (dpa_len hd).trans (h ds k hc)
end Pu
set_option maxRecDepth 100000
namespace Pu
open PySem PySem.Spec PyProof.Rows L2
/-! ### rules over the machine, with names for their readings -/
def CDivX (i j : Int) : Prop := j ≠ 0 ∧ j.natAbs.log2 < 9000
def CPowW (i j : Int) : Prop := 0 ≤ j ∧ (Builtin.Int.intBits i : Int) * j ≤ 2 ^ 27
def CMulB (i j : Int) : Prop := i.natAbs.log2 + j.natAbs.log2 < 100000000
theorem CMulB.ok {i j : Int} (h : CMulB i j) : IntMulOk i j := by
  have b : ∀ x : Int, Builtin.Int.intBits x ≤ x.natAbs.log2 + 1 := fun x => by
    unfold Builtin.Int.intBits
    split <;> omega
  have h1 := b i
  have h2 := b j
  have h3 : i.natAbs.log2 + j.natAbs.log2 < 100000000 := h
  have e : bitsLine = 134217728 := by decide
  unfold IntMulOk
  intro z
  rw [Bool.and_eq_true] at z
  have z2 := z.2
  unfold Builtin.Int.intTooBig at z2
  have z3 := of_decide_eq_true z2
  rw [e] at z3
  omega
def rFdiv : R2 := rI CDivX fun i j => .int (i.fdiv j)
def rMod : R2 := rI (fun _ j => j ≠ 0) fun i j => .int (i.fmod j)
def rMul : R2 := rI CMulB fun i j => .int (i * j)
def rPow : R2 := rI CPowW fun i j => .int (i ^ j.toNat)
def rAdd : R2 := rI0 fun i j => .int (i + j)
def rSub : R2 := rI0 fun i j => .int (i - j)
def rLt : R2 := rI0 fun i j => .bl (decide (i < j))
def rLe : R2 := rI0 fun i j => .bl (decide (i ≤ j))
def rGt : R2 := rI0 fun i j => .bl (decide (j < i))
def rGe : R2 := rI0 fun i j => .bl (decide (j ≤ i))
def rNeg : V → Hp → VK → Prop := rU fun i => .int (-i)
def rIsNn : R2 := fun x y H Q => y = .non ∧ Q (.bl (decide (x = .non))) H
def rNotNn : R2 := fun x y H Q => y = .non ∧ Q (.bl (!decide (x = .non))) H
def rLen (K : Frag) : List V → Hp → VK → Prop := fun xs H Q => ∃ p ys, xs = [.ref p] ∧ (SqL K H p ys ∨ SqT K H p ys) ∧ Q (.int ys.length) H
def rAbs : List V → Hp → VK → Prop := fun xs H Q => ∃ i, xs = [.int i] ∧ Q (.int (if i < 0 then -i else i)) H
def rMx2 : List V → Hp → VK → Prop := fun xs H Q => ∃ i j, xs = [.int i, .int j] ∧ Q (.int (if j > i then j else i)) H
def rMn2 : List V → Hp → VK → Prop := fun xs H Q => ∃ i j, xs = [.int i, .int j] ∧ Q (.int (if j < i then j else i)) H
def rLst (K : Frag) : List V → Hp → VK → Prop := fun xs H Q => ∃ p ys, xs = [.ref p] ∧ (SqL K H p ys ∨ SqT K H p ys) ∧ ∀ l, H l = none → Q (.ref l) (upd H l (.lst ys))
def rTpl (K : Frag) : List V → Hp → VK → Prop := fun xs H Q => ∃ p ys, xs = [.ref p] ∧ ((SqL K H p ys ∧ ∀ l, H l = none → Q (.ref l) (upd H l (.tup ys))) ∨ (SqT K H p ys ∧ Q (.ref p) H))
def rInsert : V → List V → Hp → VK → Prop := fun x vs H Q => ∃ (l : Addr) (xs : List V) (i : Int) (y : V), x = .ref l ∧ vs = [.int i, y] ∧ H l = some (.lst xs) ∧ xs.length < sizeLine ∧ 0 ≤ i ∧ i < 2 ^ 63 ∧
    Q .non (upd H l (.lst (xs.take i.toNat ++ [y] ++ xs.drop i.toNat)))
section
variable {X : Cx}
theorem o_fdiv : OpR X (binaryOp .FloorDiv) rFdiv := opI fun i j _ _ _ _ _ hc q => floordiv_int hc.1 q (.inl (PyProof.noPylong_of_log2 hc.2))
theorem o_mod : OpR X (binaryOp .Mod) rMod := op_modN
theorem o_mul : OpR X (binaryOp .Mult) rMul := opI fun _ _ _ _ _ _ _ hc q => mul_int q hc.ok
theorem o_pow : OpR X (binaryOp .Pow) rPow := opI fun _ _ _ _ _ _ _ hc q => pow_int hc.1 hc.2 q
theorem o_add : OpR X (binaryOp .Add) rAdd := op_add
theorem o_sub : OpR X (binaryOp .Sub) rSub := op_sub
theorem o_lt : OpR X (compareOp .Lt) rLt := op_lt
theorem o_le : OpR X (compareOp .LtE) rLe := op_le
theorem o_gt : OpR X (compareOp .Gt) rGt := op_gt
theorem o_ge : OpR X (compareOp .GtE) rGe := op_ge
theorem o_neg : UnR X (unaryOp .USub) rNeg := un_neg
theorem c_len : CallR X (.builtin "len") (rLen X.K) := call_len_seq
theorem c_abs : CallR X (.builtin "abs") rAbs := call_abs
theorem c_list : CallR X (.type "list") (rLst X.K) := call_list_of
theorem c_tuple : CallR X (.type "tuple") (rTpl X.K) := call_tuple_of
theorem m_insert : MtR X "list.insert" rInsert := mt_insert
/-- over a list or a tuple -/
def iSeq (K : Frag) (tl : TE) : TI := fun σ H R => tl σ H fun x H1 => ∃ a, x = .ref a ∧ (((∃ xs, SqL K H1 a xs) ∧ R (Itl K a) H1) ∨ ((∃ xs, SqT K H1 a xs) ∧ R (Itt K a) H1))
theorem pi_seq {tg l : Expr} {tl : TE} (hl : PE X l tl) : PI X tg l (iSeq X.K tl) := by
  refine ⟨fun pins s σ H R I h => ?_⟩
  refine thn (hl.run pins s σ H _ I h) fun v s1 ⟨x, H1, I1, r1, q1⟩ => ?_
  obtain ⟨a, e, q⟩ := q1
  subst e
  cases r1
  rcases q with ⟨⟨xs, hq⟩, q⟩ | ⟨⟨xs, hq⟩, q⟩
  · obtain ⟨its, rv, p, hz⟩ := I1.list hq
    refine wpAny_pyIter_list p.isList ?_
    refine ⟨s1.heap.objs.size, [s1.heap.objs.size], _, _, H1, rfl, I1.kept (t' := s1.toks) fun b o e => Heap.get?_push_of_some _ e, turn_list a _, ⟨_, Heap.get?_push_size _ rfl, rfl, rfl⟩, fun b hb => ?_, q⟩
    have e : b = s1.heap.objs.size := by simpa using hb
    subst e
    exact I1.fpOk (Nat.le_refl _) (I1.hok.fresh (Nat.le_refl _))
  · obtain ⟨its, rv, p, hz⟩ := I1.tuple hq
    refine wpAny_pyIter_tuple (show s1.heap.IsTuple a its.toArray from p) ?_
    refine ⟨s1.heap.objs.size, [s1.heap.objs.size], _, _, H1, rfl, I1.kept (t' := s1.toks) fun b o e => Heap.get?_push_of_some _ e, turn_tuple a _, ⟨_, Heap.get?_push_size _ rfl, rfl, rfl⟩, fun b hb => ?_, q⟩
    have e : b = s1.heap.objs.size := by simpa using hb
    subst e
    exact I1.fpOk (Nat.le_refl _) (I1.hok.fresh (Nat.le_refl _))
end
/-- isinstance(e, (C, ..)), e the exception that the suite holds, the tuple just laid -/
def rIsET (K : Frag) (D a : Addr) : List V → Hp → VK → Prop := fun xs H Q => ∃ (tp : Addr) (cs : List V) (us : List Value) (b : Bool), xs = [.ref a, .ref tp] ∧ H tp = some (.tup cs) ∧ Paired ClsV cs us ∧ PySem.W.kitAny K (.ref D) us = some b ∧ Q (.bl b) H
theorem c_isET {X : Cx} {a D : Addr} {oe : Obj} {pn : List (Addr × Obj)} (C : ExcC X.K D) (hz : Zc (.ref D) none oe) (hf : ∃ vs, oe.data = .fields vs) : CallR (X.suite a ((a, oe) :: pn)) (.builtin "isinstance") (rIsET X.K D a) := by
  intro pins s σ H xs us Q I r h
  obtain ⟨tp, cs, ws, b, rfl, hT, k, e, q⟩ := h
  obtain ⟨u1, u2, rfl, r1, r2⟩ := vals2 r
  cases (show u1 = Value.ref a from r1)
  cases (show u2 = Value.ref tp from r2)
  obtain ⟨_, its, rv, o, h1, h2, n, h3⟩ := (show ObjOk X.prog X.w H s.heap tp (.tup cs) from I.hok tp _ hT)
  have e3 := ClsV.all k rv
  subst e3
  obtain ⟨hget, _⟩ := I.pin (a, oe) (List.mem_append.mpr (.inl List.mem_cons_self))
  obtain ⟨vs, hv⟩ := hf
  have J : PySem.W.InstAt s.heap a oe D none := by
    obtain ⟨oc, od, oda, osl⟩ := oe
    obtain ⟨h1, h2⟩ := hz
    dsimp only at h1 h2 hv
    subst h1 h2 hv
    exact ⟨hget, rfl, rfl, trivial⟩
  obtain ⟨oc, od, oda, osl⟩ := o
  dsimp only at h2 h3
  subst h2 h3
  exact PySem.W.kia_tup (PySem.W.handS_kitx_exc C.hg C.hk C.hs C.hd C.ha C.hn C.ht C.hm) I.kIn J h1 e (fun z => nomatch z) fun tk => ⟨.bl b, H, I.kept (t' := tk) fun _ _ z => z, rfl, q⟩
/-! ### their values over data -/
section
variable {K : Frag} {ρ : En} {ta tb tc te : TE} {tr : TA} {d d1 d2 : D} {ds es : List D}
theorem v_sub {i j : Int} (ha : Ev K ta ρ (.int i)) (hb : Ev K tb ρ (.int j)) : Ev K (tOp rSub ta tb) ρ (.int (i - j)) := ev_I0 ha hb fun R => .int _
theorem v_mul {i j : Int} (ha : Ev K ta ρ (.int i)) (hb : Ev K tb ρ (.int j)) (hc : CMulB i j) : Ev K (tOp rMul ta tb) ρ (.int (i * j)) := ev_I ha hb hc fun R => .int _
theorem v_fdiv {i j : Int} (ha : Ev K ta ρ (.int i)) (hb : Ev K tb ρ (.int j)) (hc : CDivX i j) : Ev K (tOp rFdiv ta tb) ρ (.int (i.fdiv j)) := ev_I ha hb hc fun R => .int _
theorem v_div {i j : Int} (ha : Ev K ta ρ (.int i)) (hb : Ev K tb ρ (.int j)) (h0 : 0 < j) (hc : j.natAbs.log2 < 9000) : Ev K (tOp rFdiv ta tb) ρ (.int (i / j)) := ev_I ha hb ⟨by omega, hc⟩ fun R => by
  rw [Int.fdiv_eq_ediv_of_nonneg i (by omega)]
  exact .int _
theorem v_emod {i j : Int} (ha : Ev K ta ρ (.int i)) (hb : Ev K tb ρ (.int j)) (h0 : 0 < j) : Ev K (tOp rMod ta tb) ρ (.int (i % j)) := ev_I ha hb (by omega) fun R => by
  rw [Int.fmod_eq_emod_of_nonneg i (by omega)]
  exact .int _
theorem v_pow {i j : Int} (ha : Ev K ta ρ (.int i)) (hb : Ev K tb ρ (.int j)) (hc : CPowW i j) : Ev K (tOp rPow ta tb) ρ (.int (i ^ j.toNat)) := ev_I ha hb hc fun R => .int _
theorem v_neg {i : Int} (ha : Ev K ta ρ (.int i)) : Ev K (tUn rNeg ta) ρ (.int (-i)) := ev_neg ha
theorem v_lt {i j : Int} (ha : Ev K ta ρ (.int i)) (hb : Ev K tb ρ (.int j)) : Ev K (tOp rLt ta tb) ρ (.bool (decide (i < j))) := ev_I0 ha hb fun R => .bl _
theorem v_le {i j : Int} (ha : Ev K ta ρ (.int i)) (hb : Ev K tb ρ (.int j)) : Ev K (tOp rLe ta tb) ρ (.bool (decide (i ≤ j))) := ev_I0 ha hb fun R => .bl _
theorem v_gt {i j : Int} (ha : Ev K ta ρ (.int i)) (hb : Ev K tb ρ (.int j)) : Ev K (tOp rGt ta tb) ρ (.bool (decide (j < i))) := ev_I0 ha hb fun R => .bl _
theorem v_ge {i j : Int} (ha : Ev K ta ρ (.int i)) (hb : Ev K tb ρ (.int j)) : Ev K (tOp rGe ta tb) ρ (.bool (decide (j ≤ i))) := ev_I0 ha hb fun R => .bl _
theorem v_isN (ha : Ev K ta ρ d) : Ev K (tOp rIsNn ta (tC .non)) ρ (.bool (isNone d)) := ev_isN ha
theorem v_notN (ha : Ev K ta ρ d) : Ev K (tOp rNotNn ta (tC .non)) ρ (.bool (!isNone d)) := ev_notN ha
theorem v_call1 {r : List V → Hp → VK → Prop} (ha : Ev K ta ρ d1) (hr : ∀ R H x, Same R H → Dp K R x d1 → ∀ Q : VK, (∀ v R' H', Grow R H R' H' → Dp K R' v d → Q v H') → r [x] H Q) : Ev K (tCB r (tCons ta tNil)) ρ d :=
  fun R0 H0 R σ H a Q q => ha R0 H0 R σ H a _ fun x R1 H1 g1 dx => hr R1 H1 x g1.sub dx Q fun v R2 H2 g2 dv => q v R2 H2 (g1.trans g2) dv
theorem v_abs {i : Int} (ha : Ev K ta ρ (.int i)) : Ev K (tCB rAbs (tCons ta tNil)) ρ (.int (i.natAbs : Int)) := v_call1 ha fun R H x s dx Q q => by
  cases dx
  refine ⟨i, rfl, ?_⟩
  have e : (if i < 0 then -i else i) = (i.natAbs : Int) := by split <;> omega
  rw [e]
  exact q _ R H (Grow.refl s) (.int _)
theorem v_call2 {r : List V → Hp → VK → Prop} (ha : Ev K ta ρ d1) (hb : Ev K tb ρ d2) (hr : ∀ R H x y, Same R H → Dp K R x d1 → Dp K R y d2 → ∀ Q : VK, (∀ v R' H', Grow R H R' H' → Dp K R' v d → Q v H') → r [x, y] H Q) : Ev K (tCB r (tCons ta (tCons tb tNil))) ρ d :=
  fun R0 H0 R σ H a Q q => ha R0 H0 R σ H a _ fun x R1 H1 g1 dx => hb R0 H0 R1 σ H1 (a.grow g1) _ fun y R2 H2 g2 dy => hr R2 H2 x y g2.sub (dp_mono g2.rd _ _ dx) dy Q fun v R3 H3 g3 dv => q v R3 H3 ((g1.trans g2).trans g3) dv
theorem v_max2 {i j : Int} (ha : Ev K ta ρ (.int i)) (hb : Ev K tb ρ (.int j)) : Ev K (tCB rMx2 (tCons ta (tCons tb tNil))) ρ (.int (max i j)) := v_call2 ha hb fun R H x y s dx dy Q q => by
  cases dx; cases dy
  refine ⟨i, j, rfl, ?_⟩
  have e : (if j > i then j else i) = max i j := by split <;> omega
  rw [e]
  exact q _ R H (Grow.refl s) (.int _)
theorem v_min2 {i j : Int} (ha : Ev K ta ρ (.int i)) (hb : Ev K tb ρ (.int j)) : Ev K (tCB rMn2 (tCons ta (tCons tb tNil))) ρ (.int (min i j)) := v_call2 ha hb fun R H x y s dx dy Q q => by
  cases dx; cases dy
  refine ⟨i, j, rfl, ?_⟩
  have e : (if j < i then j else i) = min i j := by split <;> omega
  rw [e]
  exact q _ R H (Grow.refl s) (.int _)
theorem f_listL (ha : EvL K ta ρ ds) : EvF K (tCB (rLst K) (tCons ta tNil)) ρ ds := fun R0 H0 R σ H a Q q => ha R0 H0 R σ H a _ fun p vs R1 H1 g1 sq dx =>
  ⟨p, vs, rfl, .inl sq, fun l hl => q l vs R1 _ (g1.trans (Grow.hide g1.sub hl)) (g1.hp.free hl) (g1.sub.free hl) upd_same dx⟩
theorem f_listT (ha : Ev K ta ρ (.tuple ds)) : EvF K (tCB (rLst K) (tCons ta tNil)) ρ ds := fun R0 H0 R σ H a Q q => ha R0 H0 R σ H a _ fun x R1 H1 g1 dx => by
  cases dx with
  | tup hs hall => exact ⟨_, _, rfl, .inr (sqt_mono g1.sub hs), fun l hl => q l _ R1 _ (g1.trans (Grow.hide g1.sub hl)) (g1.hp.free hl) (g1.sub.free hl) upd_same hall⟩
theorem v_tupleL (ha : EvL K ta ρ ds) : Ev K (tCB (rTpl K) (tCons ta tNil)) ρ (.tuple ds) := fun R0 H0 R σ H a Q q => ha R0 H0 R σ H a _ fun p vs R1 H1 g1 sq dx =>
  ⟨p, vs, rfl, .inl ⟨sq, fun l hl => q _ _ _ (g1.trans (Grow.alloc g1.sub hl)) (.tup (SqT.of upd_same) (dpa_mono (Grow.alloc g1.sub hl).rd _ _ dx))⟩⟩
theorem v_tupleT (ha : Ev K ta ρ (.tuple ds)) : Ev K (tCB (rTpl K) (tCons ta tNil)) ρ (.tuple ds) := v_call1 ha fun R H x s dx Q q => by
  cases dx with
  | tup hs hall => exact ⟨_, _, rfl, .inr ⟨sqt_mono s hs, q _ R H (Grow.refl s) (.tup hs hall)⟩⟩
/-! ### isinstance -/
def tyName : D → String
  | .none => "NoneType"
  | .bool _ => "bool"
  | .int _ => "int"
  | .str _ => "str"
  | .list _ => "list"
  | .tuple _ => "tuple"
  | .dict _ => "dict"
theorem dp_ty {R H : Hp} {x : V} (s : Same R H) (h : Dp K R x d) : TyX K H x (.type (tyName d)) := by
  cases h with
  | non => exact .base .non
  | bl b => exact .base (.bl b)
  | int i => exact .base (.int i)
  | str x => exact .base (.str x)
  | lst hs ha =>
    rcases s.seq hs with (h | ⟨o, h⟩) | ⟨o, its, n, h, hc, _⟩
    · exact .base (.lst h)
    · exact .base (.frz h)
    · exact .kList h hc
  | tup hs ha =>
    rcases sqt_mono s hs with (h | ⟨o, h⟩) | ⟨o, its, n, h, hc, _⟩
    · exact .base (.tup h)
    · exact .fTuple h
    · exact .kTuple h hc
theorem v_isi {T : String} {b : Bool} (ha : Ev K ta ρ d) (h : kitB (tyName d) T = some b) : Ev K (tCB (rIsi K) (tCons ta (tCons (tC (.ty T)) tNil))) ρ (.bool b) := fun R0 H0 R σ H a Q q => ha R0 H0 R σ H a _ fun x R1 H1 g1 dx =>
  ⟨x, .ty T, _, _, b, rfl, .ty T, dp_ty g1.sub dx, kit_ty h, q _ R1 H1 g1 (.bl b)⟩
/-! ### slices -/
def cutD (ds : List D) (lo hi : Option Int) : List D := (ds.drop (HT.sIx ds.length 0 lo)).take (HT.sIx ds.length ds.length hi - HT.sIx ds.length 0 lo)
theorem o_none : EvO K tNoPart ρ none := fun R0 H0 R σ H a Q q => q R H (Grow.refl a.gr.sub)
theorem o_some {i : Int} (h : Ev K te ρ (.int i)) : EvO K (tPart te) ρ (some i) := fun R0 H0 R σ H a Q q => h R0 H0 R σ H a _ fun v R1 H1 g1 dv => by
  cases dv
  exact ⟨i, rfl, q R1 H1 g1⟩
end
/-! ### list comprehensions -/
theorem wipe_get (σ : L2.St) (n : Nat) : ∀ vs : List Nat, (wipe σ vs)[n]? = if n ∈ vs then σ[n]?.map (fun _ => none) else σ[n]?
  | [] => by simp [wipe]
  | v :: vs => by
    unfold wipe
    by_cases e : v = n
    · subst e
      rw [if_pos List.mem_cons_self]
      by_cases hl : v < (wipe σ vs).length
      · rw [List.getElem?_set_self hl]
        rw [wipe_length] at hl
        rw [List.getElem?_eq_getElem hl]
        rfl
      · rw [List.getElem?_eq_none (by rw [List.length_set]; omega)]
        rw [wipe_length] at hl
        rw [List.getElem?_eq_none (by omega)]
        rfl
    · rw [List.getElem?_set_ne e, wipe_get σ n vs]
      by_cases h : n ∈ vs
      · rw [if_pos h, if_pos (List.mem_cons_of_mem _ h)]
      · rw [if_neg h, if_neg (by
          intro z
          rcases List.mem_cons.mp z with z | z
          · exact e z.symm
          · exact h z)]
theorem wipe_set {σ : L2.St} {i : Nat} {v : Option V} {vs : List Nat} (h : i ∈ vs) : wipe (σ.set i v) vs = wipe σ vs := by
  apply List.ext_getElem?
  intro n
  rw [wipe_get, wipe_get]
  by_cases e : n ∈ vs
  · rw [if_pos e, if_pos e]
    by_cases hi : i = n
    · subst hi
      by_cases hl : i < σ.length
      · rw [List.getElem?_set_self hl, List.getElem?_eq_getElem hl]
        rfl
      · rw [List.getElem?_eq_none (by rw [List.length_set]; omega), List.getElem?_eq_none (by omega)]
    · rw [List.getElem?_set_ne hi]
  · rw [if_neg e, if_neg e, List.getElem?_set_ne (fun z => e (by rw [← z]; exact h))]
theorem wipe_wipe {σ : L2.St} {vs : List Nat} : wipe (wipe σ vs) vs = wipe σ vs := by
  apply List.ext_getElem?
  intro n
  rw [wipe_get, wipe_get]
  by_cases e : n ∈ vs
  · rw [if_pos e, if_pos e, Option.map_map]
    rfl
  · rw [if_neg e, if_neg e]
def wipeE (ρ : En) : List Nat → En
  | [] => ρ
  | v :: vs => (wipeE ρ vs).set v .un
section
variable {K : Frag} {ρ : En} {te : TE} {tt : TT} {g : TG} {d d1 d2 : D} {ds es : List D}
theorem At.wipe {R0 H0 R H : Hp} {σ : L2.St} (a : At K R0 H0 R ρ σ H) : ∀ vs : List Nat, At K R0 H0 R (wipeE ρ vs) (L2.wipe σ vs) H
  | [] => a
  | v :: vs => (At.wipe a vs).set_un
/-- the target's names are the comprehension's own -/
def Gw (g : TG) (vs : List Nat) : Prop := ∀ v σ H (Q : L2.St → Hp → Prop), L2.wipe σ vs = σ → g v σ H (fun σ' H' => L2.wipe σ' vs = σ → Q σ' H') → g v σ H (fun σ' H' => L2.wipe σ' vs = σ ∧ Q σ' H')
theorem gw_name {i : Nat} {vs : List Nat} (h : i ∈ vs) : Gw (gName i) vs := fun v σ H Q e q => by
  have z : L2.wipe (σ.set i (some v)) vs = σ := (wipe_set h).trans e
  exact ⟨z, q z⟩
theorem gw_tup2 {i j : Nat} {vs : List Nat} (hi : i ∈ vs) (hj : j ∈ vs) : Gw (gTup K 2 (gCons (gName i) (gCons (gName j) gNil))) vs := fun v σ H Q e q => by
  obtain ⟨a, xs, e1, e2, e3, x, r, e4, y, r2, e5, e6, q⟩ := q
  have z : L2.wipe ((σ.set i (some x)).set j (some y)) vs = σ := (wipe_set hj).trans ((wipe_set hi).trans e)
  exact ⟨a, xs, e1, e2, e3, x, r, e4, y, r2, e5, e6, z, q z⟩
theorem et_yes : EvT K tYes ρ true := fun R0 H0 R σ H a Q q => q R H (Grow.refl a.gr.sub)
end
/-! ### try .. except C as n -/
def tTryAs (K : Frag) (c : Value) (i : Nat) (tb : WX → TS) (ts : Addr → Value → Option Addr → TS) (Wout : WX) : TS := fun D σ H => tb (wAs K c i ts Wout D) D σ H
section
variable {K : Frag} {ρ : En} {W : WX} {ex : Value → En → Prop} {k : Ko} {c : Value} {i : Nat} {tb : WX → TS} {ts : Addr → Value → Option Addr → TS}
/-- what the body may let out -/
def exAs (K : Frag) (W : WX) (ex : Value → En → Prop) (k : Ko) (c : Value) (i : Nat) (ts : Addr → Value → Option Addr → TS) : Value → En → Prop := fun cls ρ' =>
  ∃ b, PySem.W.exmOne K cls c = some b ∧ (b = true → ∀ a, Sd K W ex (ts a cls none) (ρ'.set i (.raw (.ref a))) { nx := fun r => k.nx (r.set i .un), rt := k.rt, rl := k.rl, bk := fun r => k.bk (r.set i .un), ct := fun r => k.ct (r.set i .un), rg := k.rg }) ∧ (b = false → ex cls ρ')
theorem sd_tryAs (h : ∀ W', Sd K W' (exAs K W ex k c i ts) (tb W') ρ k) : Sd K W ex (tTryAs K c i tb ts W) ρ k := fun R0 H0 ok R σ H a D m => by
  refine h _ R0 H0 (fun cls ρ' R' σ' H' ⟨b, hb, h1, h2⟩ a' => ⟨b, hb, fun e x _ => ?_, fun e => ok cls ρ' R' σ' H' (h2 e) a'⟩) R σ H a D m
  exact h1 e x R0 H0 ok R' _ H' (a'.set_raw (v := .ref x)) _ ⟨fun r R2 σ2 H2 q a2 => m.nx _ R2 _ H2 q (a2.set_un (v := none)), m.rt, m.rl, fun r R2 σ2 H2 q a2 => m.bk _ R2 _ H2 q (a2.set_un (v := none)), fun r R2 σ2 H2 q a2 => m.ct _ R2 _ H2 q (a2.set_un (v := none)), m.rg⟩
end
end Pu
set_option maxRecDepth 100000
namespace Pu
open PySem PySem.Spec PyProof.Rows L2
/-! ### rules that take a value of any of the forms; K is told -/
section
variable {X : Cx} {K : Frag}
section
open PyProof
/-- two lists, whatever they are, one behind the other -/
theorem meets_cat (l b : Addr) (xs ys : Array Value) (n m : Nat) (sl sl2 : Array (Option Value)) (hsz : xs.size + ys.size ≤ sizeLine) :
    PySem.Meets (Builtin.«list.__add__» ⟨[.ref l, .ref b], []⟩) (fun _ R s => (s.heap.get? l = some ⟨.type "list", none, .seq xs n, sl⟩ ∧ s.heap.get? b = some ⟨.type "list", none, .seq ys m, sl2⟩) ∧
      R (.ok (.ret (Value.ref s.heap.objs.size))) { s with heap := s.heap.push { cls := Value.type "list", data := Data.seq (xs ++ ys) }, toks := s.toks }) :=
  .of_wp fun prog w A R s z => by
    obtain ⟨hp, g, d, tk, os⟩ := s
    obtain ⟨⟨h1, h2⟩, z⟩ := z
    have q1 := sub_list_list
    have q2 := sub_list_tuple
    wp_walk using wpAny_loadPart' h1, wpAny_loadPart' h2
    exact ⟨_, rfl, z⟩
theorem plain_cat {prog : Program} {w : World} {A : Around} {E : Value → Shared → Prop} {s : Shared} {l b : Addr} {xs ys : Array Value} {Q : Value → Shared → Prop} (h1 : PlainL s.heap l xs) (h2 : PlainL s.heap b ys) (hsz : xs.size + ys.size ≤ sizeLine)
    (h : Q (.ref s.heap.objs.size) { s with heap := s.heap.push { cls := .type "list", data := .seq (xs ++ ys) } }) : wpAny (model prog w) A (binaryOp .Add (.ref l) (.ref b)) Q E s := by
  obtain ⟨⟨c, d, dt, sl⟩, n, e, rfl, rfl, rfl⟩ := h1
  obtain ⟨⟨c, d, dt, sl2⟩, m, e2, rfl, rfl, rfl⟩ := h2
  exact concat_meets ⟨_, e, rfl⟩ ⟨_, e2, rfl⟩ noFill_list_add seq_list_add F.slot_list_add F.entry_list_add (F.args_list_add_2 _ _) (meets_cat l b xs ys n m sl sl2 hsz) ⟨⟨e, e2⟩, h⟩
def rCatL (K : Frag) : R2 := fun x y H Q => ∃ l b xs zs, x = .ref l ∧ y = .ref b ∧ SqL K H l xs ∧ SqL K H b zs ∧ xs.length + zs.length ≤ sizeLine ∧ ∀ p, H p = none → Q (.ref p) (upd H p (.lst (xs ++ zs)))
theorem op_catL {X : Cx} : OpR X (binaryOp .Add) (rCatL X.K) := by
  intro pins s σ H x y v u Q I rx ry h
  obtain ⟨l, b, xs, zs, rfl, rfl, hH, hB, hz, q⟩ := h
  cases rx
  cases ry
  obtain ⟨its, r, e, _⟩ := I.list hH
  obtain ⟨its2, r2, e2, _⟩ := I.list hB
  have n1 := r.length
  have n2 := r2.length
  refine plain_cat e e2 (by rw [List.size_toArray, List.size_toArray]; omega) ?_
  rw [show its.toArray ++ its2.toArray = (its ++ its2).toArray by simp]
  exact ⟨.ref _, _, I.lnew (t' := s.toks) (r.append r2) (by rw [List.length_append]; omega), rfl, q _ I.fresh⟩
end
def rCatA (K : Frag) : R2 := fun x y H Q => rAdd x y H Q ∨ rCatL K x y H Q ∨ rCatT K x y H Q ∨ (∃ i j, x = .str i ∧ y = .str j ∧ i.length + j.length ≤ sizeLine ∧ Q (.str (i ++ j)) H)
theorem OpR_or {f : Value → Value → Sem Value} {r r' : R2} (h : OpR X f r) (h' : OpR X f r') : OpR X f (fun x y H Q => r x y H Q ∨ r' x y H Q) := by
  intro pins s σ H x y v u Q I rx ry q
  rcases q with q | q
  · exact h pins s σ H x y v u Q I rx ry q
  · exact h' pins s σ H x y v u Q I rx ry q
theorem o_plus (hK : X.K = K := by rfl) : OpR X (binaryOp .Add) (rCatA K) := by
  subst hK
  exact OpR_or o_add (OpR_or op_catL (OpR_or op_catT op_add_str))
theorem i_any (hK : X.K = K := by rfl) : IxR X (rIx K) := by subst hK; exact ix_seq
def rLenA (K : Frag) : List V → Hp → VK → Prop := fun xs H Q => rLen K xs H Q ∨ (∃ z, xs = [.str z] ∧ z.length ≤ sizeLine ∧ Q (.int z.length) H)
theorem c_lenA (hK : X.K = K := by rfl) : CallR X (.builtin "len") (rLenA K) := by
  subst hK
  exact CallR.or c_len call_len_str
theorem c_listA (hK : X.K = K := by rfl) : CallR X (.type "list") (rLst K) := by subst hK; exact c_list
theorem c_tupleA (hK : X.K = K := by rfl) : CallR X (.type "tuple") (rTpl K) := by subst hK; exact c_tuple
theorem c_isiA (hK : X.K = K := by rfl) : CallR X (.builtin "isinstance") (rIsi K) := by subst hK; exact call_isi
theorem o_eq (hu : X.A.units + 64 < cLine) (hK : X.K = K := by rfl) : OpR X (compareOp .Eq) (rEqD K) := by subst hK; exact op_eqD hu
theorem o_ne (hu : X.A.units + 64 < cLine) (hK : X.K = K := by rfl) : OpR X (compareOp .NotEq) (rNeD K) := by subst hK; exact op_neD hu
def rSlA (K : Frag) : V → Option Int → Option Int → Hp → VK → Prop := fun x lo hi H Q => rSlL K x lo hi H Q ∨ rSlT K x lo hi H Q ∨ rSlS x lo hi H Q
theorem s_any (hK : X.K = K := by rfl) : SlR X (rSlA K) := by
  subst hK
  exact sl_list.or (sl_tup.or sl_str)
theorem w_seq {tg l : Expr} {tl : TE} (hl : PE X l tl) (hK : X.K = K := by rfl) : PI X tg l (iSeq K tl) := by subst hK; exact pi_seq hl
theorem g_tup {es : List Expr} {kk : Nat} {t : TGs} {n : Nat} {pos : Pos} (hc : X.calm = true) (h : PGs X es t) (hn : (assignEach es X.env).length = n := by rfl) (hst : (assignEach es X.env).findIdx? (·.1) = none := by rfl) (hK : X.K = K := by rfl) : PG X (.Tuple es kk pos) (gTup K n t) := by
  subst hK
  exact pg_tup hc h hn hst
theorem b_m {T id : String} {r : V → List V → Hp → VK → Prop} {o e : Expr} {es : List Expr} {name : Str} {to : TE} {t : TA} {apos cpos : Pos} (pa : PlainAttrs T) (slot : Slot T name id) (hty : typeOf (.builtin id) = pure (.type "method_descriptor")) (hm : MtR X id r) (ho : PE X o to) (ha : PA X (e :: es) t)
    (hbase : attributeBase o name X.env (eval o X.env) = eval o X.env := by rfl)
    (hfew : ((backTo cpos (starEach (e :: es) X.env)).all (fun x => !x.1) && (backToKw cpos (keywordEach [] X.env)).all (fun x => x.1.isSome)
      && decide ((e :: es).length + ([] : List Keyword).length + (if ([] : List Keyword).isEmpty then 0 else 1) < 30)) = true := by rfl)
    (hline : (apos.endLine == cpos.line) = true := by rfl) (hs : starEach (e :: es) X.env = (false, eval e X.env) :: starEach es X.env := by rfl) (hplain : (backTo cpos (starEach es X.env)).any (·.1) = false := by rfl) (hK : X.K = K := by rfl) :
    PE X (.Call (.Attribute o name apos) (e :: es) [] cpos) (tBM K T r to t) := by
  subst hK
  exact pe_bm pa slot hty hm ho ha hbase hfew hline hs hplain
/-- x in t, a tuple or a list of flat things -/
theorem o_in (hK : X.K = K := by rfl) : OpR X (compareOp .In) (rIn K false) := by subst hK; exact op_in_seq
theorem o_notIn (hK : X.K = K := by rfl) : OpR X (compareOp .NotIn) (rIn K true) := by subst hK; exact op_notIn_seq
/-- isinstance of the exception in hand: one class, or a tuple of classes -/
def rIsX (K : Frag) (cls : Value) (d : Option Addr) (a : Addr) : List V → Hp → VK → Prop := fun xs H Q => ∃ D, cls = .ref D ∧ d = none ∧ ExcC K D ∧ (rIsE K D a xs H Q ∨ rIsET K D a xs H Q)
theorem c_isX {a : Addr} {oe : Obj} {cls : Value} {d : Option Addr} {pn : List (Addr × Obj)} (hz : Zc cls d oe) (hf : ∃ vs, oe.data = .fields vs) (hK : X.K = K := by rfl) : CallR (X.suite a ((a, oe) :: pn)) (.builtin "isinstance") (rIsX K cls d a) := by
  subst hK
  intro pins s σ H xs us Q I r h
  obtain ⟨D, rfl, rfl, C, q | q⟩ := h
  · exact call_isE C hz hf pins s σ H xs us Q I r q
  · exact c_isET C hz hf pins s σ H xs us Q I r q
end
/-! ### defs -/
structure FnAt (K : Frag) (mg : Str → Option Value) (x : Str) (st : Stmt) (ps : List Str) (f : Addr) : Prop where
  g : mg x = some (.ref f)
  fn : ∃ fd, Fun K x x st f fd ∧ Binds K fd ps []
/-- the def called x keeps the promise sp at level k -/
def Ok (P : Program) (w : World) (K : Frag) (mg : Str → Option Value) (base : Heap) (k : Nat) (x : Str) (ps : List Str) (sp : Sp) : Prop :=
  ∃ f, mg x = some (.ref f) ∧ PySem.W.keepIn K (.ref f) = true ∧ ∃ fd, Binds K fd ps [] ∧ FnOk P w K mg base (L2.CX P w) k f fd ps sp
section
variable {P : Program} {w : World} {K : Frag} {mg : Str → Option Value} {base : Heap}
theorem FnAt.ok {x : Str} {st : Stmt} {ps N : List Str} {f : Addr} {k : Nat} (T : FnAt K mg x st ps f) (S : FnScope N ps (defScope st)) (c : Ct) (hl : ∀ ds k, c ds k → ds.length = ps.length)
    (hbody : ∀ (cdv : Value) (A : Around) (outer : List Env) (s : Shared) (H : Hp) (vs : List V) (Q : VK) (E : XK), Room k (A.deeper (envOfC x (defScope st) s.heap.objs.size f cdv)) → spc K c vs H Q E →
      ∃ t, PSs (cxOf (L2.CX P w) P w K mg base N x (defScope st) f cdv A outer s H E) (defBody st) t ∧ t { nx := fun _ H' => Q .non H', rt := Q } (L2.start N vs) H) : Ok P w K mg base (k + 1) x ps (spc K c) := by
  obtain ⟨g, fd, F, b⟩ := T
  exact ⟨f, g, F.kp, fd, b, F.okX S (spc_len hl) hbody⟩
/-- the law itself: nothing leaves it -/
theorem FnAt.law {x : Str} {st : Stmt} {ps N : List Str} {f : Addr} {k : Nat} {fd : FuncData} (F : Fun K x x st f fd) (S : FnScope N ps (defScope st)) (c : Ct) (hl : ∀ ds k, c ds k → ds.length = ps.length)
    (hbody : ∀ (cdv : Value) (A : Around) (outer : List Env) (s : Shared) (H : Hp) (vs : List V) (Q : VK) (E : XK), Room k (A.deeper (envOfC x (defScope st) s.heap.objs.size f cdv)) → spc K c vs H Q E →
      ∃ t, PSs (cxOf CX0 P w K mg base N x (defScope st) f cdv A outer s H E).nox (defBody st) t ∧ t { nx := fun _ H' => Q .non H', rt := Q } (L2.start N vs) H) : FnOk P w K mg base CX0 (k + 1) f fd ps (spc K c) :=
  F.ok S (spc_len hl) hbody
end
/-- the body of the law -/
theorem body_law {K : Frag} {c : Ct} {vs : List V} {H : Hp} {Q : VK} {E : XK} {N : List Str} {t : TS} (h : spc K c vs H Q E)
    (hs : ∀ (ds : List D) (k : Kc), c ds k → Sd K (fun _ _ _ _ => False) (fun _ _ => False) t (ds.map Sl.val ++ List.replicate (N.length - ds.length) Sl.un) { nx := fun _ => k.rt .none, rt := k.rt, rl := k.rl }) :
    t { nx := fun _ H' => Q .non H', rt := Q } (L2.start N vs) H := by
  obtain ⟨R, ds, k, s, hd, hc, q1, q2, q3⟩ := h
  refine hs ds k hc R H (fun x ρ R' σ H' hx a => hx.elim) R _ H (at_start s hd) _ ⟨fun ρ R' σ H' hr a => q1 _ _ R' H' hr a.gr .non, fun d v R' H' hr g dv => q1 d v R' H' hr g dv, fun es p vs' R' H' hr g hn hr' hp dv => q2 es p vs' R' H' hr g hn hr' hp dv, fun _ _ _ _ q => q.elim, fun _ _ _ _ q => q.elim, fun _ _ _ _ _ q => q.elim⟩
/-- what the law is to answer -/
def cLaw : Ct := fun ds k => ∃ ns : List Int, ds = [.list (ns.map PyData.int)] ∧ ns.length ≤ 63 ∧ (∀ n ∈ ns, Builtin.Int.intBits n ≤ 1048576) ∧ k.rt (.bool true)
theorem cLaw_len : ∀ ds k, cLaw ds k → ds.length = (["script"] : List Str).length := fun ds k ⟨_, e, _⟩ => by rw [e]; rfl
/-- an if whose two ways come together -/
theorem sd_ifJ {K : Frag} {W : WX} {ex : Value → En → Prop} {tt : TT} {t u : TS} {ρ : En} {k : Ko} {b : Bool} (Pj : En → Prop) (hc : EvT K tt ρ b) (h1 : b = true → Sd K W ex t ρ { k with nx := Pj }) (h2 : b = false → Sd K W ex u ρ { k with nx := Pj }) (hP : ∀ ρ', Pj ρ' → k.nx ρ') : Sd K W ex (tIfS tt t u) ρ k :=
  Sd.imp (k := { k with nx := Pj }) (sd_ifS hc h1 h2) hP (fun _ h => h) (fun _ h => h) (fun _ h => h) (fun _ h => h)
/-! ### values of these readings -/
section
variable {K : Frag} {ρ : En} {ta tb tc te : TE} {tr : TA} {d d1 d2 : D} {ds es : List D} {i : Nat}
/-- to a list that stands at a tracked place -/
def EvM (K : Frag) (te : TE) (ρ : En) (ds : List D) : Prop := ∀ R0 H0 R σ H, At K R0 H0 R ρ σ H → ∀ Q : VK, (∀ p vs R' H', Grow R H R' H' → H' p = some (.lst vs) → DpAll K R' vs ds → Q (.ref p) H') → te σ H Q
theorem EvF.m (h : EvF K te ρ ds) : EvM K te ρ ds := fun R0 H0 R σ H a Q q => h R0 H0 R σ H a Q fun p vs R' H' g _ _ hp dv => q p vs R' H' g hp dv
theorem EvM.l (h : EvM K te ρ ds) : EvL K te ρ ds := fun R0 H0 R σ H a Q q => h R0 H0 R σ H a Q fun p vs R' H' g hp dv => q p vs R' H' g (SqL.of hp) dv
theorem evm_own (h : ρ[i]? = some (.own ds)) : EvM K (tVar i) ρ ds := fun R0 H0 R σ H a Q q => by
  obtain ⟨p, vs, h1, h2, h3, h4, h5⟩ := a.own i ds h
  exact ⟨_, h1, q p vs R H (Grow.refl a.gr.sub) h2 h3⟩
theorem a_add {i j : Int} (ha : Ev K ta ρ (.int i)) (hb : Ev K tb ρ (.int j)) : Ev K (tOp (rCatA K) ta tb) ρ (.int (i + j)) := fun R0 H0 R σ H a Q q =>
  ha R0 H0 R σ H a _ fun x R1 H1 g1 dx => hb R0 H0 R1 σ H1 (a.grow g1) _ fun y R2 H2 g2 dy => by
    cases dx; cases dy
    exact .inl ⟨i, j, rfl, rfl, q _ R2 H2 (g1.trans g2) (.int _)⟩
theorem a_catL (ha : EvL K ta ρ ds) (hb : EvL K tb ρ es) (hl : ds.length + es.length ≤ 100000) : EvF K (tOp (rCatA K) ta tb) ρ (ds ++ es) := fun R0 H0 R σ H a Q q =>
  ha R0 H0 R σ H a _ fun p vs R1 H1 g1 hp dx => hb R0 H0 R1 σ H1 (a.grow g1) _ fun b ws R2 H2 g2 hb dy => by
    have g := g1.trans g2
    refine .inr (.inl ⟨p, b, vs, ws, rfl, rfl, g2.hp.seq hp, hb, ?_, fun c hc => q c _ R2 _ (g.trans (Grow.hide g.sub hc)) (g.hp.free hc) (g.sub.free hc) upd_same (dpa_append (dpa_mono g2.rd _ _ dx) dy)⟩)
    rw [dpa_len dx, dpa_len dy]
    exact Nat.le_trans hl (by decide)
theorem a_cat (ha : EvM K ta ρ ds) (hb : EvM K tb ρ es) (hl : ds.length + es.length ≤ 100000) : EvF K (tOp (rCatA K) ta tb) ρ (ds ++ es) := a_catL ha.l hb.l hl
theorem a_catT (ha : Ev K ta ρ (.tuple ds)) (hb : Ev K tb ρ (.tuple es)) (hn : ds ≠ []) (hl : ds.length + es.length ≤ 100000) : Ev K (tOp (rCatA K) ta tb) ρ (.tuple (ds ++ es)) := fun R0 H0 R σ H a Q q =>
  ha R0 H0 R σ H a _ fun x R1 H1 g1 dx => hb R0 H0 R1 σ H1 (a.grow g1) _ fun y R2 H2 g2 dy => by
    have g := g1.trans g2
    cases dx with
    | tup hs hd =>
      cases dy with
      | tup ht he =>
        rename_i p vs b ws
        refine .inr (.inr (.inl ⟨p, b, vs, ws, rfl, rfl, sqt_mono (g2.rd.trans g2.sub) hs, sqt_mono g2.sub ht, fun z => ?_, ?_, fun z => ?_, fun z c hc => ?_⟩))
        · subst z
          cases hd
          exact hn rfl
        · rw [dpa_len hd, dpa_len he]
          exact Nat.le_trans hl (by decide)
        · subst z
          cases he
          rw [List.append_nil] at q
          exact q _ R2 H2 g (.tup (sqt_mono g2.rd hs) (dpa_mono g2.rd _ _ hd))
        · exact q _ _ _ (g.trans (Grow.alloc g.sub hc)) (.tup (SqT.of upd_same) (dpa_mono (Grow.alloc g.sub hc).rd _ _ (dpa_append (dpa_mono g2.rd _ _ hd) he)))
theorem a_lenT (ha : Ev K ta ρ (.tuple ds)) : Ev K (tCB (rLenA K) (tCons ta tNil)) ρ (.int ds.length) := v_call1 ha fun R H x s dx Q q => by
  cases dx with
  | tup hs hall => exact .inl ⟨_, _, rfl, .inr (sqt_mono s hs), by rw [dpa_len hall]; exact q _ R H (Grow.refl s) (.int _)⟩
theorem a_lenL (ha : EvL K ta ρ ds) : Ev K (tCB (rLenA K) (tCons ta tNil)) ρ (.int ds.length) := fun R0 H0 R σ H a Q q => ha R0 H0 R σ H a _ fun p vs R1 H1 g1 sq dx =>
  .inl ⟨p, vs, rfl, .inl sq, by rw [dpa_len dx]; exact q _ R1 H1 g1 (.int _)⟩
theorem a_slL {tl th : TO} {lo hi : Option Int} (ha : EvL K te ρ ds) (h1 : EvO K tl ρ lo) (h2 : EvO K th ρ hi) : EvF K (tSl (rSlA K) te tl th) ρ (cutD ds lo hi) := fun R0 H0 R σ H a Q q =>
  ha R0 H0 R σ H a _ fun p vs R1 H1 g1 sq dx => h1 R0 H0 R1 σ H1 (a.grow g1) _ fun R2 H2 g2 => h2 R0 H0 R2 σ H2 (a.grow (g1.trans g2)) _ fun R3 H3 g3 => by
    have g := (g1.trans g2).trans g3
    have g23 := g2.trans g3
    exact .inl ⟨p, vs, rfl, g23.hp.seq sq, fun l hl => q l _ R3 _ (g.trans (Grow.hide g.sub hl)) (g.hp.free hl) (g.sub.free hl) upd_same (dpa_cut (dpa_mono g23.rd _ _ dx) lo hi)⟩
/-- over a list, over a tuple -/
theorem w_list (h : Ev K te ρ (.list ds)) : Id K (iSeq K te) ρ ds := fun R0 H0 R σ H a Rr q => by
  refine h R0 H0 R σ H a _ fun v R1 H1 g1 dv => ?_
  have z := dv
  cases dv with
  | lst hs ha =>
    rename_i p vs
    refine ⟨p, rfl, .inl ⟨⟨_, g1.sub.seq hs⟩, q _ R1 H1 g1 fun R2 H2 s2 sh => ⟨fun i d e => ?_, ⟨vs, sh.seq (s2.seq hs), Nat.le_of_eq (dpa_len ha)⟩⟩⟩⟩
    obtain ⟨v, h1, h2⟩ := dpa_get ha e
    refine ⟨⟨vs, v, sh.seq (s2.seq hs), h1⟩, fun x H3 y => ?_⟩
    obtain ⟨rfl, y⟩ := y
    have z := y vs (sh.seq (s2.seq hs))
    rw [h1] at z
    cases z
    exact ⟨R2, Grow.refl sh, dp_mono s2 _ _ h2⟩
theorem w_tup (h : Ev K te ρ (.tuple ds)) : Id K (iSeq K te) ρ ds := fun R0 H0 R σ H a Rr q => h R0 H0 R σ H a _ fun v R1 H1 g1 dv => by
  cases dv with
  | tup hs ha =>
    rename_i p vs
    refine ⟨p, rfl, .inr ⟨⟨_, sqt_mono g1.sub hs⟩, q _ R1 H1 g1 fun R2 H2 s2 sh => ⟨fun i d e => ?_, ⟨vs, sqt_mono sh (sqt_mono s2 hs), Nat.le_of_eq (dpa_len ha)⟩⟩⟩⟩
    obtain ⟨v, h1, h2⟩ := dpa_get ha e
    refine ⟨⟨vs, v, sqt_mono sh (sqt_mono s2 hs), h1⟩, fun x H3 y => ?_⟩
    obtain ⟨rfl, y⟩ := y
    have z := y vs (sqt_mono sh (sqt_mono s2 hs))
    rw [h1] at z
    cases z
    exact ⟨R2, Grow.refl sh, dp_mono s2 _ _ h2⟩
/-- a thing of the module's own top -/
theorem ev_ref {a : Addr} (h : ∀ H, Dp K H (.ref a) d) : Ev K (tC (.ref a)) ρ d := fun R0 H0 R σ H A Q q => q _ R H (Grow.refl A.gr.sub) (h R)
/-- isinstance of the exception in hand -/
theorem a_isX {C a : Addr} {b : Bool} {cv : V} {cu : Value} {dd : Option Addr} (h : ρ[i]? = some (.raw (.ref a))) (hC : ExcC K C) (hc : ∀ u, RelV cv u → u = cu) (hk : PySem.W.kitOne K (.ref C) cu = some b) (hd : dd = none) :
    Ev K (tCB (rIsX K (.ref C) dd a) (tCons (tVar i) (tCons (tC cv) tNil))) ρ (.bool b) := fun R0 H0 R σ H A Q q =>
  ⟨_, A.raw i _ h, C, rfl, hd, hC, .inl ⟨cv, cu, b, rfl, hc, hk, q _ R H (Grow.refl A.gr.sub) (.bl b)⟩⟩
/-- the classes of a written tuple -/
def tClasses : List Addr → TA
  | [] => tNil
  | c :: r => tCons (tC (.ref c)) (tClasses r)
theorem classes_run {cs : List Addr} : ∀ {σ : L2.St} {H : Hp} {Q : List V → Hp → Prop}, Q (cs.map V.ref) H → tClasses cs σ H Q := by
  induction cs with
  | nil => intro σ H Q q; exact q
  | cons c r ih => intro σ H Q q; exact ih (Q := fun xs H2 => Q (V.ref c :: xs) H2) q
theorem classes_pair : ∀ cs : List Addr, Paired ClsV (cs.map V.ref) (cs.map Value.ref)
  | [] => .nil
  | c :: r => .cons (.own c) (classes_pair r)
theorem a_isXT {C a : Addr} {b : Bool} {cs : List Addr} {t : TA} {dd : Option Addr} (h : ρ[i]? = some (.raw (.ref a))) (ht : t = tClasses cs) (hC : ExcC K C) (hk : PySem.W.kitAny K (.ref C) (cs.map Value.ref) = some b) (hl : cs.length ≤ 1000) (hd : dd = none) :
    Ev K (tCB (rIsX K (.ref C) dd a) (tCons (tVar i) (tCons (tTup t) tNil))) ρ (.bool b) := fun R0 H0 R σ H A Q q => by
  subst ht
  refine ⟨_, A.raw i _ h, classes_run ⟨by rw [List.length_map]; exact Nat.le_trans hl (by decide), fun p hp => ?_⟩⟩
  have g := Grow.hide (o := .tup (cs.map V.ref)) A.gr.sub hp
  exact ⟨C, rfl, hd, hC, .inr ⟨p, _, _, b, rfl, upd_same, classes_pair cs, hk, q _ R _ g (.bl b)⟩⟩
end
end Pu
set_option maxRecDepth 100000
/-! // of numbers of any size, where the machine's base has no seer -/
namespace Pu
open PySem PySem.Spec PyProof.Rows L2
def rFdivA : R2 := rI (fun _ j => j ≠ 0) fun i j => .int (i.fdiv j)
theorem o_fdivA {X : Cx} (hN : X.base.NoSeer) (ht : X.prog.given.tree = none) (hs : X.stack = X.env :: X.outer) (hg : X.env.scope.isGenerator = false) (hc : X.env.scope.isCoroutine = false) (hr : Room 35 X.A) : OpR X (binaryOp .FloorDiv) rFdivA := by
  intro pins s σ H x y v u Q I rx ry h
  obtain ⟨i, j, rfl, rfl, hj, q⟩ := h
  obtain ⟨t, rfl⟩ := rx
  obtain ⟨t', rfl⟩ := ry
  have hfr : X.A.frames = some (X.env :: X.outer) := by rw [I.ok.frames, hs]
  have hd : X.A.depth + Builtin.pylongFrames < recursionLimit := by
    have := hr.dp
    unfold Builtin.pylongFrames
    omega
  have room : PylongRoom (model X.prog X.w) X.A s := PylongRoom.of I.nolimit hd (SeerAt.of (hN.keeps I.bk) ht hfr hg hc I.ok.blt I.ok.glob)
  exact floordiv_int hj ⟨.int _, H, I.tok _, ⟨_, rfl⟩, q⟩ (.inr room)
section
variable {K : Frag} {ρ : En} {ta tb : TE}
theorem v_fdivA {i j : Int} (ha : Ev K ta ρ (.int i)) (hb : Ev K tb ρ (.int j)) (hc : j ≠ 0) : Ev K (tOp rFdivA ta tb) ρ (.int (i.fdiv j)) := ev_I ha hb hc fun R => .int _
theorem v_divA {i j : Int} (ha : Ev K ta ρ (.int i)) (hb : Ev K tb ρ (.int j)) (h0 : 0 < j) : Ev K (tOp rFdivA ta tb) ρ (.int (i / j)) := ev_I ha hb (by omega) fun R => by
  rw [Int.fdiv_eq_ediv_of_nonneg i (by omega)]
  exact .int _
end
/-- the head: as in the layer, and the base has no seer -/
theorem law_callS {P : Program} {w : World} {K : PySem.W.Frag} {mg mb : Str → Option Value} {CX : CXT} {k : Nat} {fa a : Addr} {fd : FuncData} {x : Str} {sp : Sp} {s₁ : Shared} {vs : List Value} {ns : List Int}
    (KX : K.In s₁.heap) (hns : s₁.heap.Ns mainGlobals mg) (hb : s₁.heap.Ns builtinsNs mb) (hbb : ∀ x : Str, x ≠ "__name__" → mb x = bootBuiltins x) (hlim : s₁.heap.NoLimit) (hsee : s₁.heap.NoSeer) (hg : s₁.gens = #[])
    (ha : s₁.heap.get? a = some { cls := .type "list", data := .seq vs.toArray }) (hi : IntsAre vs ns) (hl : ns.length ≤ sizeLine) (hr : Room k callerA)
    (F : ∀ base : Heap, K.In base → base.Ns mainGlobals mg → base.NoSeer → FnOk P w K mg base CX k fa fd [x] sp) (hbind : ∀ (s : Shared) (u : Value), BindsTo s fd ⟨[u], []⟩ [(x, u)])
    (hsp : ∀ H : Hp, Only H → SqL K H a (ns.map V.int) → sp [.ref a] H (fun v _ => v = .bl true) fun _ _ _ => False)
    (hCX : ∀ H e s', CX [] H s₁ (fun _ _ _ => False) e s' → False) :
    codeAny (model P w) callerA (.call (.ref fa) ⟨[.ref a], []⟩) (fun r s' => r = .ok (.ret (.bool true)) ∧ OldK s₁.heap s'.heap ∧ s'.os = s₁.os ∧ AllBare s'.gens) s₁ := by
  have rv := vals_ints hi
  have lenV := hi.length
  have core : ∀ H : Hp, Only H → SqL K H a (ns.map V.int) → HOk P w H s₁.heap → (∀ b, H b ≠ none → b = a) → (H a ≠ none → K.lookup a = none) →
      codeAny (model P w) callerA (.call (.ref fa) ⟨[.ref a], []⟩) (fun r s' => r = .ok (.ret (.bool true)) ∧ OldK s₁.heap s'.heap ∧ s'.os = s₁.os ∧ AllBare s'.gens) s₁ := by
    intro H hO hS hok hA hK
    have base_of : ∀ {b : Addr} {o : Obj}, s₁.heap.get? b = some o → H b = none → (hidT s₁.heap H).get? b = some o := fun e n => hidT_get e n
    have noA : ∀ {b : Addr} {o : Obj} {es : Array DictEntry} {ep : Nat}, s₁.heap.get? b = some o → o.data = .dict es ep → H b = none := fun {b o es ep} e d => by
      cases q : H b with
      | none => rfl
      | some u =>
        have e' : b = a := hA b (by rw [q]; simp)
        subst e'
        rw [ha] at e; cases e
        have d' : Data.seq vs.toArray _ = Data.dict es ep := d
        cases d'
    have nsK : ∀ {b : Addr} {m : Str → Option Value}, s₁.heap.Ns b m → (hidT s₁.heap H).Ns b m := fun {b m} ⟨o, es, ep, e, d, r⟩ => ⟨o, es, ep, base_of e (noA e d), d, r⟩
    have noM : ∀ {b : Addr} {o : Obj}, s₁.heap.get? b = some o → o.cls = .type "module" → H b = none := fun {b o} e d => by
      cases q : H b with
      | none => rfl
      | some u =>
        have e' : b = a := hA b (by rw [q]; simp)
        subst e'
        rw [ha] at e; cases e
        have d' : Value.type "list" = Value.type "module" := d
        injection d' with d'
        exact absurd d' (by decide)
    have hSb : (hidT s₁.heap H).NoSeer :=
      ⟨(let ⟨mc, p, q⟩ := hsee.statics; ⟨mc, nsK p, q⟩), (let ⟨mc, p, q⟩ := hsee.mods; ⟨mc, nsK p, q⟩), (let ⟨mc, p, q⟩ := hsee.imp; ⟨mc, nsK p, q⟩), (let ⟨mg', bm, ob, p, q, c, d, e⟩ := hsee.main; ⟨mg', bm, ob, nsK p, q, base_of c (noM c d), d, e⟩)⟩
    have hKb : K.In (hidT s₁.heap H) := fun b o e => base_of (KX b o e) (by
      cases q : H b with
      | none => rfl
      | some u =>
        have e' : b = a := hA b (by rw [q]; simp)
        subst e'
        rw [hK (by rw [q]; simp)] at e; cases e)
    have hM : Mod K mg (hidT s₁.heap H) := ⟨hKb, nsK hns, ⟨mb, nsK hb, hbb⟩, let ⟨mc, h1, h2⟩ := hlim; ⟨mc, nsK h1, h2⟩⟩
    have e0 : Env0 P w K mg (hidT s₁.heap H) callerA [] s₁ H := ⟨rfl, hM, fun b o e => of_hidT e, Nat.le_of_eq (hidT_size _ _), trivial, fun b hb => absurd (show b ∈ ([] : List Addr) from hb) (by simp), hok, .of_eq hg⟩
    refine codeAny_mono ((F _ hKb (nsK hns) hSb).run callerA [] s₁ H ⟨[.ref a], []⟩ [.ref a] [.ref a] _ _ hr e0 (hbind s₁ (.ref a)) (.cons rfl .nil) (hsp H hO hS)) fun r s' h => ?_
    cases r with
    | error e => exact (hCX H e s' h).elim
    | ok fl =>
      cases fl with
      | next => exact False.elim h
      | brk => exact False.elim h
      | cont => exact False.elim h
      | ret u =>
        obtain ⟨v, H', os, bare, un, hok', r', q⟩ := h
        have q' : v = .bl true := q
        subst q'
        obtain rfl : u = Value.bool true := r'
        refine ⟨rfl, OldK.of_keep fun b o e => ?_, os, bare⟩
        cases q : H b with
        | none => exact un.keep b o e q (by intro z; exact absurd (show b ∈ ([] : List Addr) from z) (by simp)) (by simp)
        | some u =>
          rcases hO b with z | ⟨ob, xs, z⟩
          · rw [q] at z; cases z
          · have z2 := un.frzs b ob _ z
            obtain ⟨e1, _⟩ := hok b _ z
            obtain ⟨e2, _⟩ := hok' b _ z2
            rw [e] at e1; cases e1
            exact e2
  cases hk : K.lookup a with
  | some o =>
    have e := KX a o hk
    rw [ha] at e
    cases e
    refine core (fun _ => none) (fun _ => .inl rfl) (.inr ⟨_, vs.toArray, _, hk, rfl, rfl, rfl, by rw [List.size_toArray, lenV]; exact hl, by simpa using rv⟩) (fun b u z => by have z' : (none : Option HO) = some u := z; cases z') (fun b z => absurd rfl z) fun z => absurd rfl z
  | none =>
    refine core (fun b => if b = a then some (.frz { cls := .type "list", data := .seq vs.toArray } (.lst (ns.map V.int))) else none) (fun b => ?_) (.inl (.inr ⟨{ cls := .type "list", data := .seq vs.toArray }, if_pos rfl⟩)) (fun b u z => ?_) (fun b z => ?_) fun _ => hk
    · by_cases hb : b = a
      · exact .inr ⟨_, _, if_pos hb⟩
      · exact .inl (if_neg hb)
    · by_cases hb : b = a
      · have z' := (if_pos hb).symm.trans z
        cases z'
        subst hb
        exact ⟨ha, by rw [List.length_map]; exact hl, vs, _, rv, ha⟩
      · have z' := (if_neg hb).symm.trans z
        cases z'
    · by_cases hb : b = a
      · exact hb
      · exact absurd (if_neg hb) z
theorem walk_ofS {l : PySem.W.OpenLaw} {n k : Nat} {q : Program} {loose : List Str} {XP : (Str → Option Value) → Heap → Prop} {YP : World → Heap → Prop} {d : DefRec} {K : Params → PySem.W.Frag} {CX : World → CXT} {sp : World → Sp} {x : Str}
    (hn : l.most = some n) (hn2 : n ≤ sizeLine) (hdf : d.params.defaults = []) (hr : Room k callerA) (hq : importsNone q = true)
    (hY : ∀ (w : World) (h : Heap), YP w h → (K w.params).In h)
    (F : ∀ (w : World) (mg : Str → Option Value) (fa : Addr) (h : Heap), (K w.params).In h → h.Ns mainGlobals mg → mg d.name = some (.ref fa) →
      ∃ fd : FuncData, (∀ (s : Shared) (u : Value), BindsTo s fd ⟨[u], []⟩ [(x, u)]) ∧
        ∀ base : Heap, (K w.params).In base → base.Ns mainGlobals mg → base.NoSeer → FnOk l.prog w (K w.params) mg base (CX w) k fa fd [x] (sp w))
    (hsp : ∀ (w : World) (H : Hp) (a : Addr) (ns : List Int), ns.length ≤ n → (∀ z ∈ ns, Builtin.Int.intBits z ≤ 1048576) → Only H → SqL (K w.params) H a (ns.map V.int) → sp w [.ref a] H (fun v _ => v = .bl true) fun _ _ _ => False)
    (hCX : ∀ (w : World) (H : Hp) (s : Shared) (e : Value) (s' : Shared), CX w [] H s (fun _ _ _ => False) e s' → False) :
    PySem.W.WalkO q loose XP YP l.row.toRowW d [] (fun f vs => PySem.call f vs) := by
  refine Att.attach_callB hn hdf fun w s₀ s₁ mg mb fa o pm cd doc a vs ns G Y ho hd hcd hmg hobj hints hlen hbits hg => ?_
  have KX := hY w _ Y
  obtain ⟨fd, hb, hF⟩ := F w mg fa _ KX G.T.g hmg
  exact law_callS KX G.T.g G.T.b G.T.builtins G.T.nolimit (G.T.seer hq) hg hobj hints (Nat.le_trans hlen hn2) hr hF hb (fun H hO hS => hsp w H a ns hlen hbits hO hS) fun H e s' => hCX w H s₁ e s'
end Pu
set_option maxRecDepth 100000
namespace Pu
open PySem PySem.Spec PyProof.Rows L2
/-! ### fractions -/
def fr (q : Rat) : D := .tuple [.int q.num, .int (q.den : Int)]
/-- parts below 2 ^ n -/
def bt (q : Rat) (n : Nat) : Prop := q.num.natAbs < 2 ^ n ∧ q.den < 2 ^ n
theorem bt.mono {q : Rat} {n m : Nat} (h : bt q n) (e : n ≤ m) : bt q m := ⟨Nat.lt_of_lt_of_le h.1 (Nat.pow_le_pow_right (by decide) e), Nat.lt_of_lt_of_le h.2 (Nat.pow_le_pow_right (by decide) e)⟩
theorem bt.pos {q : Rat} {n : Nat} (h : bt q n) : 0 < n := by
  cases n with
  | zero =>
    have h1 := h.2
    have h2 := q.den_pos
    rw [Nat.pow_zero] at h1
    omega
  | succ n => exact Nat.succ_pos n
theorem cmul_of {i j : Int} {a b : Nat} (ha : i.natAbs < 2 ^ a) (hb : j.natAbs < 2 ^ b) (h : a + b ≤ 50000000) : CMulB i j := by
  have x := PySem.Flt.log2_lt_of (Nat.succ_pos a) (Nat.lt_of_lt_of_le ha (Nat.pow_le_pow_right (by decide) (Nat.le_succ a)))
  have y := PySem.Flt.log2_lt_of (Nat.succ_pos b) (Nat.lt_of_lt_of_le hb (Nat.pow_le_pow_right (by decide) (Nat.le_succ b)))
  unfold CMulB
  omega
theorem abs_mul_lt {i j : Int} {a b : Nat} (ha : i.natAbs < 2 ^ a) (hb : j.natAbs < 2 ^ b) : (i * j).natAbs < 2 ^ (a + b) := by
  rw [Int.natAbs_mul, Nat.pow_add]
  exact Nat.mul_lt_mul'' ha hb
theorem abs_add_lt {i j : Int} {a b c : Nat} (ha : i.natAbs < 2 ^ a) (hb : j.natAbs < 2 ^ b) (h1 : a < c) (h2 : b < c) : (i + j).natAbs < 2 ^ c := by
  have e1 : 2 ^ a ≤ 2 ^ (c - 1) := Nat.pow_le_pow_right (by decide) (by omega)
  have e2 : 2 ^ b ≤ 2 ^ (c - 1) := Nat.pow_le_pow_right (by decide) (by omega)
  have e3 : 2 ^ c = 2 ^ (c - 1) + 2 ^ (c - 1) := by
    have : c = (c - 1) + 1 := by omega
    rw [this, Nat.pow_succ]
    simp
    omega
  omega
theorem abs_sub_lt {i j : Int} {a b c : Nat} (ha : i.natAbs < 2 ^ a) (hb : j.natAbs < 2 ^ b) (h1 : a < c) (h2 : b < c) : (i - j).natAbs < 2 ^ c := by
  rw [Int.sub_eq_add_neg]
  exact abs_add_lt ha (by rw [Int.natAbs_neg]; exact hb) h1 h2
/-! ### the form of a fraction -/
theorem divInt_num_pos {a b : Int} (hb : 0 < b) : (Rat.divInt a b).num = a / (Int.gcd a b : Int) := by
  rw [Rat.num_divInt, Int.sign_eq_one_of_pos hb, Int.one_mul, Int.gcd_comm]
theorem divInt_den_pos {a b : Int} (hb : 0 < b) : ((Rat.divInt a b).den : Int) = b / (Int.gcd a b : Int) := by
  rw [Rat.den_divInt, if_neg (by omega), Int.gcd_comm]
  rw [Int.natCast_ediv, Int.natAbs_of_nonneg (by omega)]
theorem fdiv_neg_exact {a g : Int} (hg : 0 < g) (h : g ∣ a) : a.fdiv (-g) = (-a) / g := by
  obtain ⟨c, rfl⟩ := h
  have e1 : g * c = (-g) * (-c) := by rw [Int.neg_mul_neg]
  rw [e1, Int.mul_fdiv_cancel_left _ (by omega)]
  have e2 : -(-g * -c) = g * (-c) := by rw [Int.neg_mul_neg, Int.mul_neg]
  rw [e2, Int.mul_ediv_cancel_left _ (by omega)]
theorem divInt_neg_num {a b : Int} (hb : b < 0) : (Rat.divInt a b).num = a.fdiv (-(Int.gcd a b : Int)) ∧ ((Rat.divInt a b).den : Int) = b.fdiv (-(Int.gcd a b : Int)) := by
  have e : Rat.divInt a b = Rat.divInt (-a) (-b) := (Rat.neg_divInt_neg a b).symm
  have hg : 0 < (Int.gcd a b : Int) := by
    have : Int.gcd a b ≠ 0 := fun z => by
      have := (Int.gcd_eq_zero_iff.mp z).2
      omega
    omega
  have eg : Int.gcd (-a) (-b) = Int.gcd a b := by rw [Int.neg_gcd, Int.gcd_neg]
  rw [e]
  refine ⟨?_, ?_⟩
  · rw [divInt_num_pos (by omega), eg, fdiv_neg_exact hg (Int.gcd_dvd_left ..)]
  · rw [divInt_den_pos (by omega), eg, fdiv_neg_exact hg (Int.gcd_dvd_right ..)]
theorem gcd_ne {a b : Int} (hb : b ≠ 0) : Int.gcd a b ≠ 0 := fun z => hb (Int.gcd_eq_zero_iff.mp z).2
/-- the size of a made fraction -/
theorem bt_divInt {a b : Int} {n : Nat} (h0 : b ≠ 0) (ha : a.natAbs < 2 ^ n) (hb : b.natAbs < 2 ^ n) : bt (Rat.divInt a b) n := by
  refine ⟨?_, ?_⟩
  · rw [Rat.num_divInt]
    have h1 : (b.sign * a / (b.gcd a : Int)).natAbs ≤ (b.sign * a).natAbs := Int.natAbs_ediv_le_natAbs _ _
    rw [Int.natAbs_mul] at h1
    have h2 : b.sign.natAbs ≤ 1 := by
      rcases Int.lt_trichotomy b 0 with z | z | z
      · rw [Int.sign_eq_neg_one_of_neg z]; decide
      · rw [z]; decide
      · rw [Int.sign_eq_one_of_pos z]; decide
    have h3 : b.sign.natAbs * a.natAbs ≤ 1 * a.natAbs := Nat.mul_le_mul_right _ h2
    omega
  · rw [Rat.den_divInt, if_neg h0]
    exact Nat.lt_of_le_of_lt (Nat.div_le_self _ _) hb
theorem eqv_int {a b : Int} : PyData.eqv (.int a) (.int b) = decide (a = b) := by
  show (a == b) = decide (a = b)
  by_cases e : a = b
  · rw [decide_eq_true e]; simpa using e
  · rw [decide_eq_false e]; simpa using e
theorem eq_of_eqv {a b : Int} (h : PyData.eqv (.int a) (.int b) = true) : a = b := of_decide_eq_true (eqv_int.symm.trans h)
theorem ne_of_eqv {a b : Int} (h : PyData.eqv (.int a) (.int b) = false) : a ≠ b := of_decide_eq_false (eqv_int.symm.trans h)
/-- an item of the script, or nought -/
def cellAt (ns : List Int) (k : Int) : Int := ns.getD k.toNat 0
theorem atI_ints {ns : List Int} {k : Int} (h0 : 0 ≤ k) (h : k < (ns.length : Int)) : atI (ns.map PyData.int) k = some (.int (cellAt ns k)) := by
  have hk : k.toNat < ns.length := by omega
  have ek : k = ((k.toNat : Nat) : Int) := by omega
  have q : atI (ns.map PyData.int) ((k.toNat : Nat) : Int) = some (.int ns[k.toNat]) := atI_nat (by rw [List.getElem?_map, List.getElem?_eq_getElem hk] <;> rfl)
  rw [← ek] at q
  rw [q]
  unfold cellAt
  rw [List.getD_eq_getElem?_getD, List.getElem?_eq_getElem hk]
  rfl
theorem cellAt_out {ns : List Int} {k : Int} (h : ¬ k < (ns.length : Int)) : cellAt ns k = 0 := by
  unfold cellAt
  rw [List.getD_eq_getElem?_getD, List.getElem?_eq_none (by omega)]
  rfl
theorem kit_int_int : kitB "int" "int" = some true := by decide +kernel
theorem kit_int_bool : kitB "int" "bool" = some false := by decide +kernel
theorem kit_int_tuple : kitB "int" "tuple" = some false := by decide +kernel
theorem kit_int_list : kitB "int" "list" = some false := by decide +kernel
theorem kit_int_str : kitB "int" "str" = some false := by decide +kernel
theorem kit_bool_int : kitB "bool" "int" = some true := by decide +kernel
theorem kit_bool_bool : kitB "bool" "bool" = some true := by decide +kernel
theorem kit_bool_tuple : kitB "bool" "tuple" = some false := by decide +kernel
theorem kit_bool_list : kitB "bool" "list" = some false := by decide +kernel
theorem kit_bool_str : kitB "bool" "str" = some false := by decide +kernel
theorem kit_tuple_int : kitB "tuple" "int" = some false := by decide +kernel
theorem kit_tuple_bool : kitB "tuple" "bool" = some false := by decide +kernel
theorem kit_tuple_tuple : kitB "tuple" "tuple" = some true := by decide +kernel
theorem kit_tuple_list : kitB "tuple" "list" = some false := by decide +kernel
theorem kit_tuple_str : kitB "tuple" "str" = some false := by decide +kernel
theorem kit_list_int : kitB "list" "int" = some false := by decide +kernel
theorem kit_list_bool : kitB "list" "bool" = some false := by decide +kernel
theorem kit_list_tuple : kitB "list" "tuple" = some false := by decide +kernel
theorem kit_list_list : kitB "list" "list" = some true := by decide +kernel
theorem kit_list_str : kitB "list" "str" = some false := by decide +kernel
theorem kit_str_int : kitB "str" "int" = some false := by decide +kernel
theorem kit_str_bool : kitB "str" "bool" = some false := by decide +kernel
theorem kit_str_tuple : kitB "str" "tuple" = some false := by decide +kernel
theorem kit_str_list : kitB "str" "list" = some false := by decide +kernel
theorem kit_str_str : kitB "str" "str" = some true := by decide +kernel
theorem kit_NoneType_int : kitB "NoneType" "int" = some false := by decide +kernel
theorem kit_NoneType_bool : kitB "NoneType" "bool" = some false := by decide +kernel
theorem kit_NoneType_tuple : kitB "NoneType" "tuple" = some false := by decide +kernel
theorem kit_NoneType_list : kitB "NoneType" "list" = some false := by decide +kernel
theorem kit_NoneType_str : kitB "NoneType" "str" = some false := by decide +kernel
theorem kitAny_no {K : Frag} {t : Value} : ∀ {cs : List Value}, (∀ c ∈ cs, PySem.W.kitOne K t c = some false) → PySem.W.kitAny K t cs = some false
  | [], _ => rfl
  | c :: r, h => kitAny_cons (h c List.mem_cons_self) (fun _ => kitAny_no fun c' m => h c' (List.mem_cons_of_mem _ m)) (fun z => nomatch z)
/-! ### what the program's fractions do -/
def cCommon : Ct := fun ds k => ∃ a b : Int, ds = [.int a, .int b] ∧ k.rt (.int (Int.gcd a b : Int))
def cMade (C : Addr) : Ct := fun ds k => ∃ a b : Int, ds = [.int a, .int b] ∧ (b = 0 → k.ex (.ref C)) ∧ (b ≠ 0 → k.rt (fr (Rat.divInt a b)))
theorem made_v {C : Addr} {a b : Int} (h : b ≠ 0) : cMade C [.int a, .int b] (kv (fr (Rat.divInt a b))) := ⟨a, b, rfl, fun z => absurd z h, fun _ => rfl⟩
/-- the four kinds of sums -/
theorem q_mk (q : Rat) : Rat.divInt q.num (q.den : Int) = q := Rat.num_divInt_den q
theorem den_ne (q : Rat) : (q.den : Int) ≠ 0 := by
  have := q.den_nz
  omega
theorem plus_eq (p q : Rat) : Rat.divInt (p.num * (q.den : Int) + q.num * (p.den : Int)) ((p.den : Int) * (q.den : Int)) = p + q := by
  rw [← Rat.divInt_add_divInt _ _ (den_ne p) (den_ne q), q_mk, q_mk]
theorem minus_eq (p q : Rat) : Rat.divInt (p.num * (q.den : Int) - q.num * (p.den : Int)) ((p.den : Int) * (q.den : Int)) = p - q := by
  rw [← Rat.divInt_sub_divInt _ _ (den_ne p) (den_ne q), q_mk, q_mk]
theorem times_eq (p q : Rat) : Rat.divInt (p.num * q.num) ((p.den : Int) * (q.den : Int)) = p * q := by
  rw [← Rat.divInt_mul_divInt, q_mk, q_mk]
theorem over_eq (p q : Rat) : Rat.divInt (p.num * (q.den : Int)) ((p.den : Int) * q.num) = p / q := by
  rw [Rat.div_def, Rat.inv_def, ← Rat.divInt_mul_divInt, q_mk]
theorem mul_ne {a b : Int} (ha : a ≠ 0) (hb : b ≠ 0) : a * b ≠ 0 := fun z => (Int.mul_eq_zero.mp z).elim ha hb
theorem bt_plus {p q : Rat} {a b : Nat} (hp : bt p a) (hq : bt q b) : bt (p + q) (a + b + 1) := by
  rw [← plus_eq]
  have e : (a + b : Nat) < a + b + 1 := Nat.lt_succ_self _
  refine bt_divInt (mul_ne (den_ne p) (den_ne q)) (abs_add_lt (abs_mul_lt hp.1 (j := (q.den : Int)) hq.2) (abs_mul_lt hq.1 (j := (p.den : Int)) hp.2) e (by omega)) ?_
  exact Nat.lt_of_lt_of_le (abs_mul_lt (i := (p.den : Int)) (j := (q.den : Int)) hp.2 hq.2) (Nat.pow_le_pow_right (by decide) (by omega))
theorem bt_minus {p q : Rat} {a b : Nat} (hp : bt p a) (hq : bt q b) : bt (p - q) (a + b + 1) := by
  rw [← minus_eq]
  have e : (a + b : Nat) < a + b + 1 := Nat.lt_succ_self _
  refine bt_divInt (mul_ne (den_ne p) (den_ne q)) (abs_sub_lt (abs_mul_lt hp.1 (j := (q.den : Int)) hq.2) (abs_mul_lt hq.1 (j := (p.den : Int)) hp.2) e (by omega)) ?_
  exact Nat.lt_of_lt_of_le (abs_mul_lt (i := (p.den : Int)) (j := (q.den : Int)) hp.2 hq.2) (Nat.pow_le_pow_right (by decide) (by omega))
theorem bt_times {p q : Rat} {a b : Nat} (hp : bt p a) (hq : bt q b) : bt (p * q) (a + b) := by
  rw [← times_eq]
  exact bt_divInt (mul_ne (den_ne p) (den_ne q)) (abs_mul_lt hp.1 hq.1) (abs_mul_lt (i := (p.den : Int)) (j := (q.den : Int)) hp.2 hq.2)
theorem bt_over {p q : Rat} {a b : Nat} (hp : bt p a) (hq : bt q b) (h0 : q ≠ 0) : bt (p / q) (a + b) := by
  rw [← over_eq]
  have hn : q.num ≠ 0 := fun z => h0 (Rat.num_eq_zero.mp z)
  exact bt_divInt (mul_ne (den_ne p) hn) (abs_mul_lt hp.1 (j := (q.den : Int)) hq.2) (abs_mul_lt (i := (p.den : Int)) hp.2 hq.1)
theorem bt_int {i : Int} {n : Nat} (h : i.natAbs < 2 ^ n) (h0 : 0 < n) : bt (i : Rat) n := ⟨h, by
  show 1 < 2 ^ n
  exact Nat.one_lt_two_pow (by omega)⟩
theorem bt_zero : bt 0 1 := ⟨by decide, by decide⟩
def cPlus : Ct := fun ds k => ∃ (p q : Rat) (a b : Nat), ds = [fr p, fr q] ∧ bt p a ∧ bt q b ∧ a + b ≤ 40000000 ∧ k.rt (fr (p + q))
theorem plus_v {p q : Rat} {a b : Nat} (hp : bt p a) (hq : bt q b) (h : a + b ≤ 40000000) : cPlus [fr p, fr q] (kv (fr (p + q))) := ⟨p, q, a, b, rfl, hp, hq, h, rfl⟩
def cMinus : Ct := fun ds k => ∃ (p q : Rat) (a b : Nat), ds = [fr p, fr q] ∧ bt p a ∧ bt q b ∧ a + b ≤ 40000000 ∧ k.rt (fr (p - q))
theorem minus_v {p q : Rat} {a b : Nat} (hp : bt p a) (hq : bt q b) (h : a + b ≤ 40000000) : cMinus [fr p, fr q] (kv (fr (p - q))) := ⟨p, q, a, b, rfl, hp, hq, h, rfl⟩
def cTimes : Ct := fun ds k => ∃ (p q : Rat) (a b : Nat), ds = [fr p, fr q] ∧ bt p a ∧ bt q b ∧ a + b ≤ 40000000 ∧ k.rt (fr (p * q))
theorem times_v {p q : Rat} {a b : Nat} (hp : bt p a) (hq : bt q b) (h : a + b ≤ 40000000) : cTimes [fr p, fr q] (kv (fr (p * q))) := ⟨p, q, a, b, rfl, hp, hq, h, rfl⟩
def cLess : Ct := fun ds k => ∃ (p q : Rat) (a b : Nat), ds = [fr p, fr q] ∧ bt p a ∧ bt q b ∧ a + b ≤ 40000000 ∧ k.rt (.bool (decide (p < q)))
theorem less_v {p q : Rat} {a b : Nat} (hp : bt p a) (hq : bt q b) (h : a + b ≤ 40000000) : cLess [fr p, fr q] (kv (.bool (decide (p < q)))) := ⟨p, q, a, b, rfl, hp, hq, h, rfl⟩
def cFloor : Ct := fun ds k => ∃ (p : Rat) (a : Nat), ds = [fr p] ∧ bt p a ∧ a ≤ 40000000 ∧ k.rt (.int p.floor)
theorem floor_v {p : Rat} {a : Nat} (hp : bt p a) (h : a ≤ 40000000) : cFloor [fr p] (kv (.int p.floor)) := ⟨p, a, rfl, hp, h, rfl⟩
/-- a helper of the laws: an item of the script or nought; a whole number; a common divisor; a fraction in its one form -/
def cCell : Ct := fun ds k => ∃ (ns : List Int) (i : Int), ds = [.list (ns.map PyData.int), .int i] ∧ 0 ≤ i ∧ k.rt (.int (cellAt ns i))
theorem cell_v {ns : List Int} {i : Int} (h : 0 ≤ i) : cCell [.list (ns.map PyData.int), .int i] (kv (.int (cellAt ns i))) := ⟨ns, i, rfl, h, rfl⟩
def cWhole : Ct := fun ds k => ∃ i : Int, ds = [.int i] ∧ k.rt (.bool true)
theorem whole_v {i : Int} : cWhole [.int i] (kv (.bool true)) := ⟨i, rfl, rfl⟩
def cGcd : Ct := fun ds k => ∃ a b : Int, ds = [.int a, .int b] ∧ 0 ≤ a ∧ 0 ≤ b ∧ k.rt (.int (Int.gcd a b : Int))
theorem gcd_v {a b : Int} (h0 : 0 ≤ a) (h1 : 0 ≤ b) : cGcd [.int a, .int b] (kv (.int (Int.gcd a b : Int))) := ⟨a, b, rfl, h0, h1, rfl⟩
theorem gcd_step {x y : Int} (hx : 0 ≤ x) (hy : 0 ≤ y) : Int.gcd y (x % y) = Int.gcd x y := by
  obtain ⟨n, rfl⟩ := Int.eq_ofNat_of_zero_le hx
  obtain ⟨m, rfl⟩ := Int.eq_ofNat_of_zero_le hy
  show Nat.gcd m (n % m) = Nat.gcd n m
  rw [Nat.gcd_comm m, ← Nat.gcd_rec, Nat.gcd_comm]
theorem ev_fr0 {K : Frag} {ρ : En} : Ev K (tTup (tCons (tC (V.int 0)) (tCons (tC (V.int 1)) tNil))) ρ (fr 0) := ev_tup (ds := [.int 0, .int 1]) (ea_cons ev_int (ea_cons ev_int ea_nil)) (Nat.le_of_ble_eq_true rfl)
theorem ev_fr1 {K : Frag} {ρ : En} : Ev K (tTup (tCons (tC (V.int 1)) (tCons (tC (V.int 1)) tNil))) ρ (fr 1) := ev_tup (ds := [.int 1, .int 1]) (ea_cons ev_int (ea_cons ev_int ea_nil)) (Nat.le_of_ble_eq_true rfl)
end Pu
set_option maxRecDepth 100000
namespace Pu
open PySem PySem.Spec PyProof.Rows L2
section
variable {K : Frag} {ρ : En} {ta tb te : TE} {tt : TT} {g : TG} {d d1 d2 : D} {ds es : List D}
theorem getElem?_lt {α : Type} {xs : List α} {i : Nat} {x : α} (h : xs[i]? = some x) : i < xs.length := (List.getElem?_eq_some_iff.mp h).1
theorem take_snoc {α : Type} {xs : List α} {i : Nat} {x : α} (h : xs[i]? = some x) : xs.take (i + 1) = xs.take i ++ [x] := by
  rw [List.take_add_one, h]
  rfl
/-- a comprehension without a test, item by item -/
theorem f_maps {wi : TI} {vs : List Nat} (es : List D) (hI : Id K wi ρ ds) (hw : Gw g vs) (hn : es.length = ds.length)
    (hs : ∀ (i : Nat) (d e : D), ds[i]? = some d → es[i]? = some e → ∃ ρ2, Gd K g d (wipeE ρ vs) ρ2 ∧ Ev K te ρ2 e) (hl : ds.length ≤ 100000) : EvF K (tLc wi g tYes te vs) ρ es := fun R0 H0 R σ H a Q q => by
  refine hI R0 H0 R σ H a _ fun J R' H' gr yl => ?_
  intro Dd hD
  refine ⟨fun i n H2 => n = ds.length - i ∧ i ≤ ds.length ∧ ∃ R2 acc, Grow R' H' R2 H2 ∧ R2 Dd = none ∧ H2 Dd = some (.lst acc) ∧ DpAll K R2 acc (es.take i), ⟨ds.length, by simp, Nat.zero_le _, R', [], Grow.hide gr.sub hD, gr.sub.free hD, upd_same, .nil⟩, ?_⟩
  rintro i n H2 ⟨rfl, hi, R2, acc, g2, r2, h2, da⟩
  obtain ⟨y1, y2⟩ := yl R2 H2 g2.rd g2.sub
  by_cases hlt : i < ds.length
  · have hd : ds[i]? = some ds[i] := List.getElem?_eq_getElem hlt
    have he' : es[i]? = some (es[i]'(by omega)) := List.getElem?_eq_getElem (by omega)
    obtain ⟨go, yld⟩ := y1 i ds[i] hd
    refine .inr ⟨go, fun H3 => ∃ R3 acc, Grow R' H' R3 H3 ∧ R3 Dd = none ∧ H3 Dd = some (.lst acc) ∧ DpAll K R3 acc (es.take (i + 1)), fun H3 ⟨R3, acc, h⟩ => ⟨ds.length - (i + 1), by omega, rfl, hlt, R3, acc, h⟩, fun x H3 y => ?_⟩
    obtain ⟨R3, g3, dx⟩ := yld x H3 y
    obtain ⟨ρ2, hg, he⟩ := hs i ds[i] _ hd he'
    have a3 : At K R0 H0 R3 (wipeE ρ vs) (L2.wipe σ vs) H3 := (a.grow ((gr.trans g2).trans g3)).wipe vs
    refine hw x _ H3 _ wipe_wipe ?_
    refine hg R0 H0 R3 x _ H3 a3 dx _ fun σ4 a4 _ => ?_
    have keepD : ∀ {Rz Hz : Hp}, Grow R2 H2 Rz Hz → Rz Dd = none := fun {Rz Hz} gz => by
      cases e : Rz Dd with
      | none => rfl
      | some o =>
        have z := gz.new Dd r2 (by rw [e]; exact fun z => nomatch z)
        rw [h2] at z
        cases z
    refine et_yes (K := K) (ρ := ρ2) R0 H0 R3 σ4 H3 a4 _ fun R5 H5 g5 => ?_
    rw [if_pos rfl]
    refine he R0 H0 R5 σ4 H5 (a4.grow g5) _ fun y R6 H6 g6' dy => ?_
    have g6 := g5.trans g6'
    have g36 := g3.trans g6
    refine ⟨acc, g36.hp _ _ h2, ?_, R6, acc ++ [y], ?_, keepD g36, upd_same, ?_⟩
    · rw [dpa_len da, List.length_take]
      exact Nat.lt_of_le_of_lt (Nat.le_trans (Nat.min_le_right _ _) (by rw [hn]; exact hl)) (by decide)
    · have G := g2.trans g36
      have hD' : H' Dd = none := hD
      refine ⟨G.rd, fun b o e => ?_, fun b o e => ?_, G.new⟩
      · rw [upd_ne (ne_of_none e hD')]
        exact G.hp _ _ e
      · rw [upd_ne (ne_of_none e (keepD g36))]
        exact G.sub _ _ e
    · rw [take_snoc he']
      exact dpa_snoc (dpa_mono g36.rd _ _ da) dy
  · have e : i = ds.length := by omega
    subst e
    rw [← hn, List.take_length] at da
    exact .inl ⟨y2, q Dd acc R2 H2 (gr.trans g2) (gr.hp.free hD) r2 h2 da⟩
/-- the same over things that are told by a function -/
theorem f_mapA {α : Type} {enc : α → D} {xs : List α} {wi : TI} {vs : List Nat} (f : α → D) (hI : Id K wi ρ (xs.map enc)) (hw : Gw g vs)
    (hs : ∀ (i : Nat) (x : α), xs[i]? = some x → ∃ ρ2, Gd K g (enc x) (wipeE ρ vs) ρ2 ∧ Ev K te ρ2 (f x)) (hl : xs.length ≤ 100000) : EvF K (tLc wi g tYes te vs) ρ (xs.map f) :=
  f_maps (xs.map f) hI hw (by rw [List.length_map, List.length_map]) (fun i d e hd he => by
    rw [List.getElem?_map] at hd he
    cases q : xs[i]? with
    | none => rw [q] at hd; cases hd
    | some x =>
      rw [q] at hd he
      obtain rfl := Option.some.inj hd
      obtain rfl := Option.some.inj he
      exact hs i x q) (by rw [List.length_map]; exact hl)
/-- in, not in: a whole number among whole numbers -/
theorem inV_ints {i : Int} : ∀ {ns : List Int}, inV (.int i) (ns.map V.int) = ns.contains i
  | [] => rfl
  | n :: r => by
    have ih : inV (.int i) (r.map V.int) = r.contains i := inV_ints
    show ((n == i) || inV (.int i) (r.map V.int)) = (n :: r).contains i
    rw [ih, List.contains_cons]
    have e : (n == i) = (i == n) := by
      by_cases z : n = i
      · subst z; rfl
      · have z' : ¬ i = n := fun q => z q.symm
        rw [beq_eq_false_iff_ne.mpr z, beq_eq_false_iff_ne.mpr z']
    rw [e]
theorem ints_flat : ∀ ns : List Int, (ns.map V.int).all flatV = true
  | [] => rfl
  | _ :: r => by
    rw [List.map_cons, List.all_cons, ints_flat r]
    rfl
theorem a_inI {i : Int} {ns : List Int} (ha : Ev K ta ρ (.int i)) (hb : EvL K tb ρ (ns.map PyData.int)) : Ev K (tOp (rIn K false) ta tb) ρ (.bool (ns.contains i)) := fun R0 H0 R σ H a Q q =>
  ha R0 H0 R σ H a _ fun x R1 H1 g1 dx => hb R0 H0 R1 σ H1 (a.grow g1) _ fun p vs R2 H2 g2 sq dy => by
    cases dx
    obtain rfl := dpa_ints dy
    refine ⟨p, _, rfl, .inl sq, rfl, ints_flat ns, ?_⟩
    show Q (.bl (inV (.int i) (ns.map V.int))) H2
    rw [inV_ints]
    exact q _ R2 H2 (g1.trans g2) (.bl _)
theorem a_niI {i : Int} {ns : List Int} (ha : Ev K ta ρ (.int i)) (hb : EvL K tb ρ (ns.map PyData.int)) : Ev K (tOp (rIn K true) ta tb) ρ (.bool (!ns.contains i)) := fun R0 H0 R σ H a Q q =>
  ha R0 H0 R σ H a _ fun x R1 H1 g1 dx => hb R0 H0 R1 σ H1 (a.grow g1) _ fun p vs R2 H2 g2 sq dy => by
    cases dx
    obtain rfl := dpa_ints dy
    refine ⟨p, _, rfl, .inl sq, rfl, ints_flat ns, ?_⟩
    show Q (.bl (!inV (.int i) (ns.map V.int))) H2
    rw [inV_ints]
    exact q _ R2 H2 (g1.trans g2) (.bl _)
end
/-! ### slices -/
theorem cut_from (ds : List D) (k : Nat) : cutD ds (some (k : Int)) none = ds.drop k := by
  unfold cutD
  rw [HT.sIx_none, HT.sIx_nat]
  by_cases h : k ≤ ds.length
  · rw [Nat.min_eq_left h, List.take_of_length_le (by rw [List.length_drop]; omega)]
  · rw [Nat.min_eq_right (by omega), Nat.sub_self, List.take_zero, List.drop_of_length_le (by omega)]
/-! ### sums of fractions -/
def qsum : List Rat → Rat
  | [] => 0
  | q :: r => q + qsum r
theorem qsum_append : ∀ (xs ys : List Rat), qsum (xs ++ ys) = qsum xs + qsum ys
  | [], ys => (Rat.zero_add _).symm
  | x :: xs, ys => by
    show x + qsum (xs ++ ys) = x + qsum xs + qsum ys
    rw [qsum_append xs ys, Rat.add_assoc]
def fls (qs : List Rat) : List D := qs.map fr
theorem fls_get {qs : List Rat} {i : Nat} {d : D} (h : (fls qs)[i]? = some d) : ∃ q, qs[i]? = some q ∧ d = fr q := by
  unfold fls at h
  rw [List.getElem?_map] at h
  cases e : qs[i]? with
  | none => rw [e] at h; cases h
  | some q => rw [e] at h; exact ⟨q, rfl, (Option.some.inj h).symm⟩
theorem fls_len (qs : List Rat) : (fls qs).length = qs.length := List.length_map _
def cTotal : Ct := fun ds k => ∃ (qs : List Rat) (n B : Nat), ds = [.list (fls qs)] ∧ (∀ q ∈ qs, bt q n) ∧ (∀ i, i ≤ qs.length → bt (qsum (qs.take i)) B) ∧ B + n ≤ 40000000 ∧ k.rt (fr (qsum qs))
theorem total_v {qs : List Rat} {n B : Nat} (h : ∀ q ∈ qs, bt q n) (hB : ∀ i, i ≤ qs.length → bt (qsum (qs.take i)) B) (hl : B + n ≤ 40000000) : cTotal [.list (fls qs)] (kv (fr (qsum qs))) := ⟨qs, n, B, rfl, h, hB, hl, rfl⟩
/-- what can be compared: numbers, texts that are laid, lists and tuples of such, not too deep -/
theorem depth_le {n : Nat} : ∀ {ds : List D}, (∀ d ∈ ds, d.depth ≤ n) → PyData.depthAll ds ≤ n
  | [], _ => Nat.zero_le _
  | d :: r, h => by
    unfold PyData.depthAll
    have := h d List.mem_cons_self
    have := depth_le (n := n) (ds := r) fun e m => h e (List.mem_cons_of_mem _ m)
    omega
theorem canLay_all : ∀ {ds : List D}, (∀ d ∈ ds, d.canLay0 = true) → PyData.canLayAll0 ds = true
  | [], _ => rfl
  | d :: r, h => by
    unfold PyData.canLayAll0
    rw [h d List.mem_cons_self, canLay_all fun e m => h e (List.mem_cons_of_mem _ m)]
    rfl
/-- of depth n at most -/
def Sh (n : Nat) (d : D) : Prop := d.canLay0 = true ∧ d.depth ≤ n
theorem Sh.mono {n m : Nat} {d : D} (h : Sh n d) (e : n ≤ m) : Sh m d := ⟨h.1, Nat.le_trans h.2 e⟩
theorem Sh.shaped {n : Nat} {d : D} (h : Sh n d) (hn : n ≤ 64) : SeqAt.shaped d = true := by
  unfold SeqAt.shaped
  rw [h.1, decide_eq_true (Nat.le_trans h.2 hn)]
  rfl
theorem sh_int {i : Int} : Sh 0 (.int i) := ⟨rfl, Nat.le_refl _⟩
theorem sh_list {n : Nat} {ds : List D} (h : ∀ d ∈ ds, Sh n d) : Sh (n + 1) (.list ds) := ⟨by unfold PyData.canLay0; exact canLay_all fun d m => (h d m).1, by unfold PyData.depth; exact Nat.succ_le_succ (depth_le fun d m => (h d m).2)⟩
theorem sh_tuple {n : Nat} {ds : List D} (h : ∀ d ∈ ds, Sh n d) : Sh (n + 1) (.tuple ds) := ⟨by unfold PyData.canLay0; exact canLay_all fun d m => (h d m).1, by unfold PyData.depth; exact Nat.succ_le_succ (depth_le fun d m => (h d m).2)⟩
theorem sh_ints {ns : List Int} : Sh 1 (.list (ns.map PyData.int)) := sh_list fun d m => by
  obtain ⟨q, _, rfl⟩ := List.mem_map.mp m
  exact sh_int
/-! ### the script's numbers: their size -/
/-! ### constants of the module -/
theorem pe_gInt {X : Cx} {x : Str} {n : Int} {pos : Pos} (hg : Gl X x) (h : ∃ t, X.mg x = some (.int n t)) (hd : (x == ("__debug__" : Str)) = false := by decide) : PE X (.Name x pos) (tC (.int n)) := by
  obtain ⟨t, h⟩ := h
  exact pe_glob (v := .int n) hg h ⟨t, rfl⟩ hd
theorem dp_kT {K : Frag} {a : Addr} {dd : Option Addr} {its : Array Value} {n : Nat} {sl : Array (Option Value)} {vs : List V} {ds : List D} (l : K.lookup a = some ⟨.type "tuple", dd, .seq its n, sl⟩) (hv : Vals vs its.toList) (hd : ∀ H, DpAll K H vs ds) (hs : its.size ≤ 1000) : ∀ H, Dp K H (.ref a) (.tuple ds) := fun H =>
  .tup (.inr ⟨_, its, n, l, rfl, rfl, Nat.le_trans hs (by decide), hv⟩) (hd H)
/-! ### a list told over and over; picks -/
theorem at_2 {α : Type} {a b : α} {k : Int} (h0 : 0 ≤ k) (h : k < 2) : atI [a, b] k = some (if k = 0 then a else b) := by
  rcases (by omega : k = 0 ∨ k = 1) with rfl | rfl <;> rfl
end Pu
set_option maxRecDepth 100000
namespace Pu
open PySem PySem.Spec PyProof.Rows L2
/-! ### broken lines -/
abbrev Pt := Rat × Rat
def pt (p : Pt) : D := .tuple [fr p.1, fr p.2]
def pts (ps : List Pt) : List D := ps.map pt
def bp (p : Pt) (n : Nat) : Prop := bt p.1 n ∧ bt p.2 n
def bl (ps : List Pt) (n : Nat) : Prop := ∀ p ∈ ps, bp p n
def straight (a b c : Pt) : Prop := (b.2 - a.2) * (c.1 - b.1) = (c.2 - b.2) * (b.1 - a.1)
instance (a b c : Pt) : Decidable (straight a b c) := inferInstanceAs (Decidable (_ = _))
/-- on and never down -/
def goodFrom : Pt → List Pt → Prop
  | _, [] => True
  | p, q :: r => p.1 < q.1 ∧ p.2 ≤ q.2 ∧ goodFrom q r
def goodDec : (p : Pt) → (r : List Pt) → Decidable (goodFrom p r)
  | _, [] => .isTrue trivial
  | p, q :: r =>
    have := goodDec q r
    inferInstanceAs (Decidable (p.1 < q.1 ∧ p.2 ≤ q.2 ∧ goodFrom q r))
instance (p : Pt) (r : List Pt) : Decidable (goodFrom p r) := goodDec p r
def GoodL : List Pt → Prop
  | [] => False
  | p :: r => p = (0, 0) ∧ goodFrom p r
instance : (ps : List Pt) → Decidable (GoodL ps)
  | [] => .isFalse id
  | p :: r => inferInstanceAs (Decidable (p = (0, 0) ∧ goodFrom p r))
/-! #### values -/
def interp (p q : Pt) (x : Rat) : Rat := p.2 + (x - p.1) * ((q.2 - p.2) / (q.1 - p.1))
def evF : Pt → List Pt → Rat → Rat
  | p, [], _ => p.2
  | p, q :: r, x => if x ≤ q.1 then interp p q x else evF q r x
def lineEv : List Pt → Rat → Rat
  | [], _ => 0
  | p :: r, x => evF p r x
def lastP : Pt → List Pt → Pt
  | p, [] => p
  | _, q :: r => lastP q r
theorem interp_ends {a b : Pt} (h : a.1 < b.1) : interp a b a.1 = a.2 ∧ interp a b b.1 = b.2 := by
  unfold interp
  have e : b.1 - a.1 ≠ 0 := by grind
  constructor <;> grind
/-- no point lies straight between its neighbours -/
def canonFrom : Pt → List Pt → Prop
  | a, b :: c :: r => ¬ straight a b c ∧ canonFrom b (c :: r)
  | _, _ => True
/-- of canonical lines there is just one for each course -/
theorem evF_at {a b : Pt} {r : List Pt} {x : Rat} (h : x ≤ b.1) : evF a (b :: r) x = interp a b x := if_pos h
theorem evF_beyond {a b : Pt} {r : List Pt} {x : Rat} (h : ¬ x ≤ b.1) : evF a (b :: r) x = evF b r x := if_neg h
theorem lastP_ge : ∀ (r : List Pt) (a : Pt), goodFrom a r → a.1 ≤ (lastP a r).1
  | [], a, _ => Rat.le_refl
  | b :: r, a, h => by
    have := lastP_ge r b h.2.2
    have := h.1
    show a.1 ≤ (lastP b r).1
    grind
theorem canon_step {a b q : Pt} {r s : List Pt} (hg : goodFrom a (b :: r)) (hs : goodFrom a (q :: s)) (hc : canonFrom a (b :: r)) (hl : (lastP a (b :: r)).1 = (lastP a (q :: s)).1)
    (he : ∀ x, a.1 ≤ x → x ≤ (lastP a (b :: r)).1 → evF a (b :: r) x = evF a (q :: s) x) (hbq : b.1 < q.1) : False := by
  obtain ⟨h1, h2, h3⟩ := id hg
  have hql : q.1 ≤ (lastP a (q :: s)).1 := lastP_ge s q hs.2.2
  cases r with
  | nil =>
    have hl' : b.1 = (lastP a (q :: s)).1 := hl
    grind
  | cons c t =>
    obtain ⟨h4, h5, h6⟩ := id h3
    have hL : c.1 ≤ (lastP a (b :: c :: t)).1 := lastP_ge t c h6
    -- a place beyond b that is on the first way of the other line
    have key : ∀ m : Rat, b.1 < m → m ≤ c.1 → m ≤ q.1 → interp b c m = interp a q m := fun m m1 m2 m3 => by
      have z := he m (by grind) (by grind)
      rw [evF_beyond (by grind), evF_at m2, evF_at m3] at z
      exact z
    have hb : b.2 = interp a q b.1 := by
      have z := he b.1 (by grind) (by grind)
      rw [evF_at Rat.le_refl, evF_at (by grind), (interp_ends h1).2] at z
      exact z
    have e1 : q.1 - a.1 ≠ 0 := by grind
    have e2 : b.1 - a.1 ≠ 0 := by grind
    have e3 : c.1 - b.1 ≠ 0 := by grind
    refine hc.1 ?_
    by_cases hcq : c.1 ≤ q.1
    · have z := key c.1 h4 Rat.le_refl hcq
      rw [(interp_ends h4).2] at z
      unfold interp at hb z
      unfold straight
      grind
    · have z := key q.1 hbq (by grind) Rat.le_refl
      unfold interp at hb z
      unfold straight
      have e4 : q.1 - b.1 ≠ 0 := by grind
      grind
theorem canon_uniq : ∀ (r s : List Pt) (a : Pt), goodFrom a r → goodFrom a s → canonFrom a r → canonFrom a s → (lastP a r).1 = (lastP a s).1 → (∀ x, a.1 ≤ x → x ≤ (lastP a r).1 → evF a r x = evF a s x) → r = s
  | [], [], _, _, _, _, _, _, _ => rfl
  | [], q :: s, a, _, hs, _, _, hl, _ => by
    have := lastP_ge s q hs.2.2
    have := hs.1
    have hl' : a.1 = (lastP q s).1 := hl
    grind
  | b :: r, [], a, hg, _, _, _, hl, _ => by
    have := lastP_ge r b hg.2.2
    have := hg.1
    have hl' : (lastP b r).1 = a.1 := hl
    grind
  | b :: r, q :: s, a, hg, hs, hc, hd, hl, he => by
    have hbq : b.1 = q.1 := by
      rcases Rat.le_iff_lt_or_eq.mp (Rat.le_total (a := b.1) (b := q.1) |>.elim id fun h => by
        rcases Rat.le_iff_lt_or_eq.mp h with z | z
        · exact (canon_step hs hg hd hl.symm (fun x h1 h2 => (he x h1 (by rw [hl]; exact h2)).symm) z).elim
        · rw [z]; exact Rat.le_refl) with z | z
      · exact (canon_step hg hs hc hl he z).elim
      · exact z
    have hL : b.1 ≤ (lastP a (b :: r)).1 := lastP_ge r b hg.2.2
    have h2 : b.2 = q.2 := by
      have z := he b.1 (by have := hg.1; grind) hL
      rw [evF_at Rat.le_refl, evF_at (by rw [hbq]; exact Rat.le_refl), (interp_ends hg.1).2, hbq, (interp_ends hs.1).2] at z
      exact z
    obtain rfl : b = q := Prod.ext hbq h2
    have hcr : canonFrom b r := by
      cases r with
      | nil => trivial
      | cons c t => exact hc.2
    have hds : canonFrom b s := by
      cases s with
      | nil => trivial
      | cons c t => exact hd.2
    have ih := canon_uniq r s b hg.2.2 hs.2.2 hcr hds hl fun x h1 h2' => by
      have hL' : x ≤ (lastP b r).1 := h2'
      by_cases hx : x ≤ b.1
      · have ex : x = b.1 := by grind
        subst ex
        have f : ∀ t, goodFrom b t → evF b t b.1 = b.2 := fun t ht => by
          cases t with
          | nil => rfl
          | cons c t => rw [evF_at (by have := ht.1; grind), (interp_ends ht.1).1]
        rw [f r hg.2.2, f s hs.2.2]
      · have z := he x (by have := hg.1; grind) h2'
        rw [evF_beyond hx, evF_beyond hx] at z
        exact z
    rw [ih]
/-! ### what the program's lines do -/
/-- a list or a tuple -/
def SeqD (d : D) (ds : List D) : Prop := d = .list ds ∨ d = .tuple ds
/-- top and bottom of the second less the first -/
def gapN (p q : Rat) : Int := q.num * (p.den : Int) - p.num * (q.den : Int)
def gapD (p q : Rat) : Int := (p.den : Int) * (q.den : Int)
def cGap : Ct := fun ds k => ∃ (p q : Rat) (n : Nat), ds = [fr p, fr q] ∧ bt p n ∧ bt q n ∧ n ≤ 10000000 ∧ k.rt (.tuple [.int (gapN p q), .int (gapD p q)])
theorem gap_v {p q : Rat} {n : Nat} (hp : bt p n) (hq : bt q n) (h : n ≤ 10000000) : cGap [fr p, fr q] (kv (.tuple [.int (gapN p q), .int (gapD p q)])) := ⟨p, q, n, rfl, hp, hq, h, rfl⟩
def slN (a b : Pt) : Int := gapN a.2 b.2 * gapD a.1 b.1
def slD (a b : Pt) : Int := gapD a.2 b.2 * gapN a.1 b.1
def cSlope : Ct := fun ds k => ∃ (a b : Pt) (n : Nat), ds = [pt a, pt b] ∧ bp a n ∧ bp b n ∧ n ≤ 5000000 ∧ k.rt (.tuple [.int (slN a b), .int (slD a b)])
theorem slope_v {a b : Pt} {n : Nat} (hp : bp a n) (hq : bp b n) (h : n ≤ 5000000) : cSlope [pt a, pt b] (kv (.tuple [.int (slN a b), .int (slD a b)])) := ⟨a, b, n, rfl, hp, hq, h, rfl⟩
def cStraight : Ct := fun ds k => ∃ (a b c : Pt) (n : Nat), ds = [pt a, pt b, pt c] ∧ bp a n ∧ bp b n ∧ bp c n ∧ n ≤ 2000000 ∧ k.rt (.bool (decide (straight a b c)))
theorem straight_v {a b c : Pt} {n : Nat} (ha : bp a n) (hb : bp b n) (hc : bp c n) (h : n ≤ 2000000) : cStraight [pt a, pt b, pt c] (kv (.bool (decide (straight a b c)))) := ⟨a, b, c, n, rfl, ha, hb, hc, h, rfl⟩
/-- a line's end -/
def lineEnd (ps : List Pt) : Pt := match ps with | [] => (0, 0) | p :: r => lastP p r
def cLength : Ct := fun ds k => ∃ ps : List Pt, ds = [.tuple (pts ps)] ∧ ps ≠ [] ∧ k.rt (fr (lineEnd ps).1)
theorem length_v {ps : List Pt} (h : ps ≠ []) : cLength [.tuple (pts ps)] (kv (fr (lineEnd ps).1)) := ⟨ps, rfl, h, rfl⟩
def cHeight : Ct := fun ds k => ∃ ps : List Pt, ds = [.tuple (pts ps)] ∧ ps ≠ [] ∧ k.rt (fr (lineEnd ps).2)
theorem height_v {ps : List Pt} (h : ps ≠ []) : cHeight [.tuple (pts ps)] (kv (fr (lineEnd ps).2)) := ⟨ps, rfl, h, rfl⟩
/-! ### lines told with fewest points -/
def Canon : List Pt → Prop
  | [] => True
  | a :: r => canonFrom a r
/-! #### values found -/
theorem goodFrom_le : ∀ (r : List Pt) (a : Pt) (j : Nat) (p : Pt), goodFrom a r → (a :: r)[j]? = some p → a.1 ≤ p.1
  | r, a, 0, p, _, h => by
    obtain rfl := Option.some.inj h
    exact Rat.le_refl
  | [], a, j + 1, p, _, h => by simp at h
  | b :: r, a, j + 1, p, g, h => by
    have := goodFrom_le r b j p g.2.2 h
    have := g.1
    grind
theorem goodFrom_lt {r : List Pt} {a p : Pt} {j : Nat} (g : goodFrom a r) (h : (a :: r)[j + 1]? = some p) : a.1 < p.1 := by
  cases r with
  | nil => simp at h
  | cons b r =>
    have := goodFrom_le r b j p g.2.2 h
    have := g.1
    grind
theorem evF_pt : ∀ (r : List Pt) (a : Pt) (j : Nat) (p : Pt), goodFrom a r → (a :: r)[j]? = some p → evF a r p.1 = p.2
  | [], a, 0, p, _, h => by
    obtain rfl := Option.some.inj h
    rfl
  | [], a, j + 1, p, _, h => by simp at h
  | b :: r, a, 0, p, g, h => by
    obtain rfl := Option.some.inj h
    have := g.1
    rw [evF_at (by grind)]
    exact (interp_ends g.1).1
  | b :: r, a, 1, p, g, h => by
    obtain rfl : b = p := Option.some.inj h
    rw [evF_at Rat.le_refl]
    exact (interp_ends g.1).2
  | b :: r, a, j + 2, p, g, h => by
    have := goodFrom_lt g.2.2 (j := j) h
    rw [evF_beyond (by grind)]
    exact evF_pt r b (j + 1) p g.2.2 h
theorem lineEv_pt {ps : List Pt} {j : Nat} {p : Pt} (g : GoodL ps) (h : ps[j]? = some p) : lineEv ps p.1 = p.2 := by
  cases ps with
  | nil => cases h
  | cons a r => exact evF_pt r a j p g.2 h
theorem good_nonneg {ps : List Pt} (h : GoodL ps) {p : Pt} (hp : p ∈ ps) : 0 ≤ p.1 ∧ p.1 ≤ (lineEnd ps).1 := by
  cases ps with
  | nil => exact h.elim
  | cons a r =>
    obtain ⟨rfl, g⟩ := h
    obtain ⟨j, hj⟩ := List.getElem?_of_mem hp
    refine ⟨goodFrom_le r (0, 0) j p g hj, ?_⟩
    have q : ∀ (r : List Pt) (a : Pt) (j : Nat), goodFrom a r → (a :: r)[j]? = some p → p.1 ≤ (lastP a r).1 := by
      intro r
      induction r with
      | nil =>
        intro a j _ h
        cases j with
        | zero => obtain rfl := Option.some.inj h; exact Rat.le_refl
        | succ j => simp at h
      | cons b r ih =>
        intro a j g h
        cases j with
        | zero =>
          obtain rfl := Option.some.inj h
          exact lastP_ge (b :: r) a g
        | succ j => exact ih b j g.2.2 h
    exact q r (0, 0) j g hj
theorem num_posR {q : Rat} (h : 0 < q) : 0 < q.num := by
  have := Rat.lt_iff (a := 0) (b := q) |>.mp h
  have e : (0 : Rat).num * (q.den : Int) < q.num * ((0 : Rat).den : Int) := this
  rw [show (0 : Rat).num = 0 from rfl, show ((0 : Rat).den : Int) = 1 from rfl] at e
  omega
theorem fr_inv {q : Rat} (h : 0 < q) : PyData.tuple [.int (q.den : Int), .int q.num] = fr q⁻¹ := by
  have hn : 0 < q.num := num_posR h
  have e := Rat.inv_def q
  have e1 : q⁻¹.num = q.den := by
    rw [Rat.num_inv, Int.sign_eq_one_of_pos hn]; omega
  have e2 : (q⁻¹.den : Int) = q.num := by
    rw [Rat.den_inv]
    split
    · omega
    · omega
  unfold fr
  rw [e1, e2]
end Pu
set_option maxRecDepth 100000
namespace Pu
open PySem PySem.Spec PyProof.Rows L2
/-! ### slices with a step -/
def rInt1 : List V → Hp → VK → Prop := fun xs H Q => (∃ i, xs = [.int i] ∧ Q (.int i) H) ∨ ∃ k, xs = [.bl k] ∧ Q (.int (if k then 1 else 0)) H
theorem c_intA {X : Cx} : CallR X (.type "int") rInt1 := call_int1
theorem v_intB {K : Frag} {ta : TE} {ρ : En} {b : Bool} (ha : Ev K ta ρ (.bool b)) : Ev K (tCB rInt1 (tCons ta tNil)) ρ (.int (if b then 1 else 0)) := v_call1 ha fun R H x s dx Q q => by
  cases dx
  exact .inr ⟨b, rfl, q _ R H (Grow.refl s) (.int _)⟩
end Pu
set_option maxRecDepth 100000
namespace Pu
open PySem PySem.Spec PyProof.Rows L2
/-! ### walks: reversed, zip, enumerate -/
section
variable {X : Cx} {K : Frag} {tg e e2 : Expr} {te te2 : TE} {ta : TA} {p pos tpos : Pos} {elts : List Expr} {kk : Nat}
theorem w_enum (hg : Gl X "enumerate") (hm : X.mg "enumerate" = none) (ha : PA X [e] ta) (hs : starEach [e] X.env = [(false, eval e X.env)] := by rfl) (hK : X.K = K := by rfl) : PI X (.Tuple elts kk tpos) (.Call (.Name "enumerate" p) [e] [] pos) (iEnum K ta) := by
  subst hK
  exact pi_enum hg hm ha hs
end
section
variable {K : Frag} {ρ : En} {te : TE} {ta tb : TE} {ds es : List D}
def zipD (ds es : List D) : List D := List.zipWith (fun d e => .tuple [d, e]) ds es
theorem zipD_at {i : Nat} {d : D} (h : (zipD ds es)[i]? = some d) : ∃ x y, ds[i]? = some x ∧ es[i]? = some y ∧ d = .tuple [x, y] := by
  unfold zipD at h
  rw [List.getElem?_zipWith] at h
  cases h1 : ds[i]? with
  | none => rw [h1] at h; simp at h
  | some x =>
    cases h2 : es[i]? with
    | none => rw [h1, h2] at h; simp at h
    | some y =>
      rw [h1, h2] at h
      exact ⟨x, y, rfl, rfl, (Option.some.inj h).symm⟩
theorem zipD_len : (zipD ds es).length = min ds.length es.length := by unfold zipD; rw [List.length_zipWith]
def enumD (ds : List D) : List D := ds.zipIdx.map fun x => .tuple [.int (x.2 : Int), x.1]
theorem enumD_at {i : Nat} {d : D} (h : (enumD ds)[i]? = some d) : ∃ x, ds[i]? = some x ∧ d = .tuple [.int (i : Int), x] := by
  unfold enumD at h
  rw [List.getElem?_map, List.getElem?_zipIdx] at h
  cases h1 : ds[i]? with
  | none => rw [h1] at h; simp at h
  | some x =>
    rw [h1] at h
    refine ⟨x, rfl, ?_⟩
    have := Option.some.inj h
    rw [← this]
    simp
theorem enumD_len : (enumD ds).length = ds.length := by unfold enumD; rw [List.length_map, List.length_zipIdx]
theorem id_enumL (h : EvA K (tCons te tNil) ρ [.list ds]) : Id K (iEnum K (tCons te tNil)) ρ (enumD ds) := fun R0 H0 R σ H a Rr q => h R0 H0 R σ H a _ fun vs R1 H1 g1 dv => by
  cases dv with
  | cons e1 dv =>
    cases dv
    cases e1 with
    | lst hs ha =>
      rename_i p xs
      refine ⟨p, xs, rfl, g1.sub.seq hs, q _ R1 H1 g1 fun R2 H2 s2 sh => ⟨fun i d e => ?_, ?_⟩⟩
      · obtain ⟨x, ex, rfl⟩ := enumD_at e
        obtain ⟨v, h1, h2⟩ := dpa_get ha ex
        refine ⟨⟨xs, v, sh.seq (s2.seq hs), h1⟩, fun z H3 yl => ?_⟩
        obtain ⟨T, v', rfl, hT, rfl, y1⟩ := yl
        have z1 := y1 xs (sh.seq (s2.seq hs))
        rw [h1] at z1
        cases z1
        have g := Grow.alloc (o := .tup [.int ((i : Nat) : Int), v]) sh hT
        exact ⟨_, g, .tup (SqT.of upd_same) (.cons (.int _) (.cons (dp_mono (s2.trans g.rd) _ _ h2) .nil))⟩
      · refine ⟨xs, sh.seq (s2.seq hs), ?_⟩
        rw [enumD_len, dpa_len ha]
        exact Nat.le_refl _
/-- a list or a tuple -/
theorem ev_ixQ {d0 d : D} {i : Int} (hd : SeqD d0 ds) (ha : Ev K ta ρ d0) (hb : Ev K tb ρ (.int i)) (e : atI ds i = some d) : Ev K (tOp (rIx K) ta tb) ρ d := by
  rcases hd with rfl | rfl
  · exact ev_ixSL ha.l hb e
  · exact ev_ixST ha hb e
theorem a_lenQ {d0 : D} (hd : SeqD d0 ds) (ha : Ev K ta ρ d0) : Ev K (tCB (rLenA K) (tCons ta tNil)) ρ (.int ds.length) := by
  rcases hd with rfl | rfl
  · exact a_lenL ha.l
  · exact a_lenT ha
theorem w_seqQ {d0 : D} (hd : SeqD d0 ds) (ha : Ev K ta ρ d0) : Id K (iSeq K ta) ρ ds := by
  rcases hd with rfl | rfl
  · exact w_list ha
  · exact w_tup ha
end
end Pu
set_option maxRecDepth 100000
namespace Pu
open PySem PySem.Spec PyProof.Rows L2
/-! ### lines that follow a function; two lines merged -/
theorem line_uniq {p q : List Pt} (gp : GoodL p) (gq : GoodL q) (cp : Canon p) (cq : Canon q) (he : (lineEnd p).1 = (lineEnd q).1) (h : ∀ x, 0 ≤ x → x ≤ (lineEnd p).1 → lineEv p x = lineEv q x) : p = q := by
  cases p with
  | nil => exact gp.elim
  | cons a ps =>
    cases q with
    | nil => exact gq.elim
    | cons b qs =>
      obtain ⟨rfl, hgp⟩ := gp
      obtain ⟨rfl, hgq⟩ := gq
      rw [canon_uniq ps qs (0, 0) hgp hgq cp cq he h]
theorem fr_unit {d : Int} (h : 0 < d) : PyData.tuple [.int 1, .int d] = fr ((d : Rat))⁻¹ := by
  have := fr_inv (q := (d : Rat)) (by exact_mod_cast h)
  exact this
end Pu
set_option maxRecDepth 100000
namespace Pu
open PySem PySem.Spec PyProof.Rows L2
/-! ### one line behind another -/
end Pu
set_option maxRecDepth 100000
namespace Pu
open PySem PySem.Spec PyProof.Rows L2
/-! ### a line turned about; stretches -/
end Pu
set_option maxRecDepth 100000
namespace Pu
open PySem PySem.Spec PyProof.Rows L2
/-! ### sums, the least and the greatest, of lists and of tuples; places of items; texts among texts -/
section
variable {prog : Program} {w : World} {A : Around} {E : Value → Shared → Prop} {s : Shared} {l : Addr} {its : List Value} {ns : List Int} {Q : Value → Shared → Prop}
/-- the start of a walk over a tuple -/
theorem tup_walk {items : Array Value} (hl : s.heap.IsTuple l items)
    (h : ∀ s₂ : Shared, s₂ = { s with heap := s.heap.push { cls := .type "tuple_iterator", data := .fields #[.ref l, .int 0 0] } } → (s₂.heap.IsTupleIter s.heap.objs.size l 0 ∧ s₂.heap.IsTuple l items) → (∀ b ∈ [s.heap.objs.size, l], b < s₂.heap.objs.size) → l ≠ s.heap.objs.size →
      (∀ h' : Heap, (∀ b o, b ∉ [s.heap.objs.size] → s₂.heap.get? b = some o → h'.get? b = some o) → ∀ b o, s.heap.get? b = some o → h'.get? b = some o) → Q (.ref s.heap.objs.size) s₂) : wpAny (model prog w) A (pyIter (.ref l)) Q E s := by
  have hlt : l < s.heap.objs.size := by
    obtain ⟨o, e, _⟩ := hl
    exact Heap.lt_size e
  have hp : (s.heap.push { cls := .type "tuple_iterator", data := .fields #[.ref l, .int 0 0] }).IsTuple l items := by
    obtain ⟨o, e, r⟩ := hl
    exact ⟨o, Heap.get?_push_of_some _ e, r⟩
  refine wpAny_pyIter_tuple hl (h _ rfl ⟨⟨_, Heap.get?_push_size _ rfl, rfl, rfl⟩, hp⟩ (fun b hb => ?_) (Nat.ne_of_lt hlt) fun h' hk b o e => hk b o (fun hm => ?_) (Heap.get?_push_of_some _ e))
  · have hb' : b = s.heap.objs.size ∨ b = l := by simpa using hb
    show b < (s.heap.push _).objs.size
    rw [Heap.size_push]
    rcases hb' with e | e
    · rw [e]; exact Nat.lt_succ_self _
    · rw [e]; exact Nat.lt_succ_of_lt hlt
  · have hb' : b = s.heap.objs.size := by simpa using hm
    exact absurd (hb' ▸ Heap.lt_size e) (Nat.lt_irrefl _)
theorem val_at (hi : Vals (ns.map V.int) its) : ∀ (i : Nat) (v : Value), its.toArray[i]? = some v → ∃ t, v = .int (ns.getD i 0) t := fun i v h => by
  have h' : its[i]? = some v := by simpa using h
  have hl := hi.length
  have hlt := (List.getElem?_eq_some_iff.mp h').1
  rw [List.length_map] at hl
  have hx : (ns.map V.int)[i]? = some (.int (ns.getD i 0)) := by
    rw [List.getElem?_map, List.getD_eq_getElem?_getD, List.getElem?_eq_getElem (by omega)]
    rfl
  obtain ⟨u, hu, ru⟩ := hi.get hx
  rw [h'] at hu
  cases hu
  exact ru
theorem preSum_take (ns : List Int) : ∀ n, preSum (fun i => ns.getD i 0) n = (ns.take n).sum
  | 0 => by rw [List.take_zero]; rfl
  | n + 1 => by
    show preSum _ n + ns.getD n 0 = _
    rw [preSum_take ns n, List.take_add_one, List.sum_append, List.getD_eq_getElem?_getD]
    cases ns[n]? with
    | none => rfl
    | some x => show _ + x = _ + (x + 0); omega
theorem sum_tup (hh : A.handled = none) (hl : s.heap.IsTuple l its.toArray) (hi : Vals (ns.map V.int) its)
    (h : ∀ h' tk t', (∀ b o, s.heap.get? b = some o → h'.get? b = some o) → Q (.int ns.sum t') { s with heap := h', toks := tk }) : wpAny (model prog w) A (call (.builtin "sum") [.ref l]) Q E s := by
  refine call_sum_walkG (tup_walk hl fun s₂ e st hfp hne hk => ?_)
  subst e
  refine ⟨_, _, _, _, _, _, fun i => ns.getD i 0, rfl, Walks.tuple (A := A.in1) hh _ l hne its.toArray, st, hfp, val_at hi, fun h' tk t' k => ?_⟩
  rw [preSum_take, List.take_of_length_le (by have := hi.length; rw [List.length_map] at this; rw [List.size_toArray]; omega)]
  exact h h' tk t' (hk h' k)
theorem getD_mem' {ns : List Int} {j : Nat} (h : j < ns.length) : ns.getD j 0 ∈ ns := by
  rw [List.getD_eq_getElem?_getD, List.getElem?_eq_getElem h]
  exact List.getElem_mem h
theorem mem_getD' {ns : List Int} {a : Int} (h : a ∈ ns) : ∃ j, j < ns.length ∧ ns.getD j 0 = a := by
  obtain ⟨j, hj⟩ := List.getElem?_of_mem h
  exact ⟨j, (List.getElem?_eq_some_iff.mp hj).1, by rw [List.getD_eq_getElem?_getD, hj]; rfl⟩
theorem max_tup (hh : A.handled = none) (hl : s.heap.IsTuple l its.toArray) (hi : Vals (ns.map V.int) its) (hn : 0 < ns.length)
    (h : ∀ h' tk m t', (∀ b o, s.heap.get? b = some o → h'.get? b = some o) → m ∈ ns → (∀ a, a ∈ ns → a ≤ m) → Q (.int m t') { s with heap := h', toks := tk }) : wpAny (model prog w) A (call (.builtin "max") [.ref l]) Q E s := by
  have hsz : its.toArray.size = ns.length := by
    have := hi.length
    rw [List.length_map] at this
    rw [List.size_toArray, this]
  refine call_max_walk (tup_walk hl fun s₂ e st hfp hne hk => ?_)
  subst e
  refine ⟨_, _, _, _, _, _, _, rfl, Walks.tuple (A := A.in1) hh _ l hne its.toArray, st, hfp, by omega, CmpOf.ints_gt (fun i => ns.getD i 0) (val_at hi), fun v h' tk hv k => ?_⟩
  obtain ⟨t, rfl⟩ := val_at hi _ _ hv
  obtain ⟨h1, h2⟩ := argBest_gt (fun i => ns.getD i 0) (its.toArray.size - 1)
  refine h h' tk _ t (hk h' k) (getD_mem' (by omega)) fun a ha => ?_
  obtain ⟨j, hj, rfl⟩ := mem_getD' ha
  exact h2 j (by omega)
theorem min_tup (hh : A.handled = none) (hl : s.heap.IsTuple l its.toArray) (hi : Vals (ns.map V.int) its) (hn : 0 < ns.length)
    (h : ∀ h' tk m t', (∀ b o, s.heap.get? b = some o → h'.get? b = some o) → m ∈ ns → (∀ a, a ∈ ns → m ≤ a) → Q (.int m t') { s with heap := h', toks := tk }) : wpAny (model prog w) A (call (.builtin "min") [.ref l]) Q E s := by
  have hsz : its.toArray.size = ns.length := by
    have := hi.length
    rw [List.length_map] at this
    rw [List.size_toArray, this]
  refine call_min_walk (tup_walk hl fun s₂ e st hfp hne hk => ?_)
  subst e
  refine ⟨_, _, _, _, _, _, _, rfl, Walks.tuple (A := A.in1) hh _ l hne its.toArray, st, hfp, by omega, CmpOf.ints_lt (fun i => ns.getD i 0) (val_at hi), fun v h' tk hv k => ?_⟩
  obtain ⟨t, rfl⟩ := val_at hi _ _ hv
  obtain ⟨h1, h2⟩ := argBest_lt (fun i => ns.getD i 0) (its.toArray.size - 1)
  refine h h' tk _ t (hk h' k) (getD_mem' (by omega)) fun a ha => ?_
  obtain ⟨j, hj, rfl⟩ := mem_getD' ha
  exact h2 j (by omega)
end
def rSumA (K : Frag) : List V → Hp → VK → Prop := fun vs H Q => ∃ (a : Addr) (ns : List Int), vs = [V.ref a] ∧ (SqL K H a (ns.map V.int) ∨ SqT K H a (ns.map V.int)) ∧ Q (.int ns.sum) H
def rMaxA (K : Frag) : List V → Hp → VK → Prop := fun vs H Q => ∃ (a : Addr) (ns : List Int), vs = [V.ref a] ∧ (SqL K H a (ns.map V.int) ∨ SqT K H a (ns.map V.int)) ∧ 0 < ns.length ∧ ∀ m, m ∈ ns → (∀ y, y ∈ ns → y ≤ m) → Q (.int m) H
def rMinA (K : Frag) : List V → Hp → VK → Prop := fun vs H Q => ∃ (a : Addr) (ns : List Int), vs = [V.ref a] ∧ (SqL K H a (ns.map V.int) ∨ SqT K H a (ns.map V.int)) ∧ 0 < ns.length ∧ ∀ m, m ∈ ns → (∀ y, y ∈ ns → m ≤ y) → Q (.int m) H
section
variable {X : Cx} {K : Frag}
theorem c_sumA (hc : X.calm = true) (hK : X.K = K := by rfl) : CallR X (.builtin "sum") (rSumA K) := by
  subst hK
  intro pins s σ H vs us Q I r h
  obtain ⟨a, ns, rfl, hs | hs, q⟩ := h
  · exact cr_sum hc pins s σ H _ us Q I r ⟨a, ns, rfl, hs, q⟩
  · obtain ⟨its, rv, hl, _⟩ := I.tuple hs
    rw [Vals.ref1 r]
    exact sum_tup (I.ok.hd hc) hl rv fun h' tk t' hk => ⟨.int _, H, I.kept hk, ⟨_, rfl⟩, q⟩
theorem c_maxL (hc : X.calm = true) (hK : X.K = K := by rfl) : CallR X (.builtin "max") (rMaxA K) := by
  subst hK
  intro pins s σ H vs us Q I r h
  obtain ⟨a, ns, rfl, hs | hs, hn, q⟩ := h
  · exact cr_max hc pins s σ H _ us Q I r ⟨a, ns, rfl, hs, hn, q⟩
  · obtain ⟨its, rv, hl, _⟩ := I.tuple hs
    rw [Vals.ref1 r]
    exact max_tup (I.ok.hd hc) hl rv hn fun h' tk m t' hk h1 h2 => ⟨.int _, H, I.kept hk, ⟨_, rfl⟩, q m h1 h2⟩
theorem c_minL (hc : X.calm = true) (hK : X.K = K := by rfl) : CallR X (.builtin "min") (rMinA K) := by
  subst hK
  intro pins s σ H vs us Q I r h
  obtain ⟨a, ns, rfl, hs | hs, hn, q⟩ := h
  · exact cr_min hc pins s σ H _ us Q I r ⟨a, ns, rfl, hs, hn, q⟩
  · obtain ⟨its, rv, hl, _⟩ := I.tuple hs
    rw [Vals.ref1 r]
    exact min_tup (I.ok.hd hc) hl rv hn fun h' tk m t' hk h1 h2 => ⟨.int _, H, I.kept hk, ⟨_, rfl⟩, q m h1 h2⟩
theorem m_index (hK : X.K = K := by rfl) : MtR X "list.index" (rIndex K) := by subst hK; exact mt_index
/-- t.index(x), t a tuple of texts that stands from the beginning -/
def rIndexT (K : Frag) : V → List V → Hp → VK → Prop := fun x xs H Q => ∃ (a : Addr) (zs : List Str) (z : Str), x = V.ref a ∧ xs = [.str z] ∧ SqT K H a (zs.map V.str) ∧ z ∈ zs ∧ Q (.int (zs.idxOf z : Nat)) H
theorem strs_are : ∀ {zs : List Str} {us : List Value}, Vals (zs.map V.str) us → StrsAre us zs
  | [], _, h => by cases h; exact .nil
  | z :: zs, _, h => by
    cases h with
    | cons h1 h2 =>
      obtain ⟨t, rfl⟩ := h1
      exact .cons z t (strs_are h2)
theorem m_indexT (hK : X.K = K := by rfl) : MtR X "tuple.index" (rIndexT K) := by
  subst hK
  intro pins s σ H x xs v us Q I rx rxs h
  obtain ⟨a, zs, z, rfl, rfl, hs, hz, q⟩ := h
  cases rx
  cases rxs with
  | cons ry rt =>
    cases rt
    obtain ⟨t, rfl⟩ := ry
    obtain ⟨its, rv, hl, _⟩ := I.tuple hs
    exact SeqAt.tuple_index_strs hl (strs_are rv) hz ⟨.int _, H, I.tok _, ⟨_, rfl⟩, q⟩
end
section
variable {K : Frag} {ρ : En} {ta tb te : TE} {ds es : List D} {d d0 : D}
theorem v_sumQ {ns : List Int} (hd : SeqD d0 (ns.map PyData.int)) (ha : Ev K ta ρ d0) : Ev K (tCB (rSumA K) (tCons ta tNil)) ρ (.int ns.sum) := v_call1 ha fun R H x s dx Q q => by
  rcases hd with rfl | rfl
  · cases dx with
    | lst hs hall =>
      obtain rfl := dpa_ints hall
      exact ⟨_, ns, rfl, .inl (s.seq hs), q _ R H (Grow.refl s) (.int _)⟩
  · cases dx with
    | tup hs hall =>
      obtain rfl := dpa_ints hall
      exact ⟨_, ns, rfl, .inr (sqt_mono s hs), q _ R H (Grow.refl s) (.int _)⟩
theorem v_maxQ {ns : List Int} {m : Int} (hd : SeqD d0 (ns.map PyData.int)) (ha : Ev K ta ρ d0) (hm : m ∈ ns) (hle : ∀ y ∈ ns, y ≤ m) : Ev K (tCB (rMaxA K) (tCons ta tNil)) ρ (.int m) := v_call1 ha fun R H x s dx Q q => by
  have key : ∀ k, k ∈ ns → (∀ y, y ∈ ns → y ≤ k) → Q (.int k) H := fun k h1 h2 => by
    have : k = m := Int.le_antisymm (hle k h1) (h2 m hm)
    subst this
    exact q _ R H (Grow.refl s) (.int _)
  rcases hd with rfl | rfl
  · cases dx with
    | lst hs hall =>
      obtain rfl := dpa_ints hall
      exact ⟨_, ns, rfl, .inl (s.seq hs), List.length_pos_of_mem hm, key⟩
  · cases dx with
    | tup hs hall =>
      obtain rfl := dpa_ints hall
      exact ⟨_, ns, rfl, .inr (sqt_mono s hs), List.length_pos_of_mem hm, key⟩
theorem v_minQ {ns : List Int} {m : Int} (hd : SeqD d0 (ns.map PyData.int)) (ha : Ev K ta ρ d0) (hm : m ∈ ns) (hle : ∀ y ∈ ns, m ≤ y) : Ev K (tCB (rMinA K) (tCons ta tNil)) ρ (.int m) := v_call1 ha fun R H x s dx Q q => by
  have key : ∀ k, k ∈ ns → (∀ y, y ∈ ns → k ≤ y) → Q (.int k) H := fun k h1 h2 => by
    have : k = m := Int.le_antisymm (h2 m hm) (hle k h1)
    subst this
    exact q _ R H (Grow.refl s) (.int _)
  rcases hd with rfl | rfl
  · cases dx with
    | lst hs hall =>
      obtain rfl := dpa_ints hall
      exact ⟨_, ns, rfl, .inl (s.seq hs), List.length_pos_of_mem hm, key⟩
  · cases dx with
    | tup hs hall =>
      obtain rfl := dpa_ints hall
      exact ⟨_, ns, rfl, .inr (sqt_mono s hs), List.length_pos_of_mem hm, key⟩
/-- the greatest and the least there are -/
theorem int_max : ∀ {ns : List Int}, ns ≠ [] → ∃ m ∈ ns, ∀ y ∈ ns, y ≤ m
  | [], h => absurd rfl h
  | [n], _ => ⟨n, List.mem_cons_self, fun y hy => by rw [List.mem_singleton.mp hy]; exact Int.le_refl _⟩
  | n :: k :: r, _ => by
    obtain ⟨m, hm, hle⟩ := int_max (ns := k :: r) (by simp)
    by_cases h : m ≤ n
    · exact ⟨n, List.mem_cons_self, fun y hy => by
        rcases List.mem_cons.mp hy with e | hy
        · omega
        · have := hle y hy; omega⟩
    · exact ⟨m, List.mem_cons_of_mem _ hm, fun y hy => by
        rcases List.mem_cons.mp hy with e | hy
        · omega
        · exact hle y hy⟩
theorem int_min : ∀ {ns : List Int}, ns ≠ [] → ∃ m ∈ ns, ∀ y ∈ ns, m ≤ y
  | [], h => absurd rfl h
  | [n], _ => ⟨n, List.mem_cons_self, fun y hy => by rw [List.mem_singleton.mp hy]; exact Int.le_refl _⟩
  | n :: k :: r, _ => by
    obtain ⟨m, hm, hle⟩ := int_min (ns := k :: r) (by simp)
    by_cases h : n ≤ m
    · exact ⟨n, List.mem_cons_self, fun y hy => by
        rcases List.mem_cons.mp hy with e | hy
        · omega
        · have := hle y hy; omega⟩
    · exact ⟨m, List.mem_cons_of_mem _ hm, fun y hy => by
        rcases List.mem_cons.mp hy with e | hy
        · omega
        · exact hle y hy⟩
/-! texts -/
theorem dpa_strs : ∀ {R : Hp} {vs : List V} {zs : List Str}, DpAll K R vs (zs.map PyData.str) → vs = zs.map V.str
  | _, [], [], _ => rfl
  | _, _, [], h => by cases h; rfl
  | _, _, z :: zs, h => by
    cases h with
    | cons h1 h2 =>
      cases h1
      rw [dpa_strs h2]
      rfl
theorem inV_strs {z : Str} : ∀ {zs : List Str}, inV (.str z) (zs.map V.str) = zs.contains z
  | [] => rfl
  | y :: r => by
    have ih : inV (.str z) (r.map V.str) = r.contains z := inV_strs
    show ((y == z) || inV (.str z) (r.map V.str)) = (y :: r).contains z
    rw [ih, List.contains_cons]
    congr 1
    by_cases e : y = z
    · subst e; rfl
    · have e' : ¬ z = y := fun q => e q.symm
      rw [beq_eq_false_iff_ne.mpr e, beq_eq_false_iff_ne.mpr e']
theorem strs_flat : ∀ zs : List Str, (zs.map V.str).all flatV = true
  | [] => rfl
  | _ :: r => by
    rw [List.map_cons, List.all_cons, strs_flat r]
    rfl
theorem in_strs {z : Str} {zs : List Str} (neg : Bool) (hd : SeqD d0 (zs.map PyData.str)) (ha : Ev K ta ρ (.str z)) (hb : Ev K tb ρ d0) : Ev K (tOp (rIn K neg) ta tb) ρ (.bool (if neg then !zs.contains z else zs.contains z)) := fun R0 H0 R σ H a Q q =>
  ha R0 H0 R σ H a _ fun x R1 H1 g1 dx => hb R0 H0 R1 σ H1 (a.grow g1) _ fun y R2 H2 g2 dy => by
    cases dx
    have fin : ∀ vs, DpAll K R2 vs (zs.map PyData.str) → vs.all flatV = true ∧ Q (.bl (if neg then !inV (.str z) vs else inV (.str z) vs)) H2 := fun vs h => by
      obtain rfl := dpa_strs h
      refine ⟨strs_flat zs, ?_⟩
      rw [inV_strs]
      exact q _ R2 H2 (g1.trans g2) (.bl _)
    rcases hd with rfl | rfl
    · cases dy with
      | lst hs hall =>
        obtain ⟨f1, f2⟩ := fin _ hall
        exact ⟨_, _, rfl, .inl (g2.sub.seq hs), rfl, f1, f2⟩
    · cases dy with
      | tup hs hall =>
        obtain ⟨f1, f2⟩ := fin _ hall
        exact ⟨_, _, rfl, .inr (sqt_mono g2.sub hs), rfl, f1, f2⟩
theorem a_inS {z : Str} {zs : List Str} (hd : SeqD d0 (zs.map PyData.str)) (ha : Ev K ta ρ (.str z)) (hb : Ev K tb ρ d0) : Ev K (tOp (rIn K false) ta tb) ρ (.bool (zs.contains z)) := in_strs false hd ha hb
theorem a_niS {z : Str} {zs : List Str} (hd : SeqD d0 (zs.map PyData.str)) (ha : Ev K ta ρ (.str z)) (hb : Ev K tb ρ d0) : Ev K (tOp (rIn K true) ta tb) ρ (.bool (!zs.contains z)) := in_strs true hd ha hb
theorem str_eqv {a b : Str} : PyData.eqv (.str a) (.str b) = decide (a = b) := by
  show (a == b) = decide (a = b)
  by_cases e : a = b
  · subst e; simp
  · rw [decide_eq_false e]; simpa using e
theorem ev_eqS {a b : Str} (ha : Ev K ta ρ (.str a)) (hb : Ev K tb ρ (.str b)) (h1 : SeqAt.shaped (.str a) = true) (h2 : SeqAt.shaped (.str b) = true) : Ev K (tOp (rEqD K) ta tb) ρ (.bool (decide (a = b))) := Ev.is (ev_eqD ha hb h1 h2) (by rw [str_eqv])
/-- the place of a text in a list; in a tuple of the module's own -/
theorem strs_at {zs : List Str} {z : Str} (h : z ∈ zs) : (zs.map V.str)[zs.idxOf z]? = some (.str z) := by
  have hl := List.idxOf_lt_length_of_mem h
  rw [List.getElem?_map, List.getElem?_eq_getElem hl, List.getElem_idxOf hl]
  rfl
theorem idx_first {α : Type} [BEq α] [LawfulBEq α] {zs : List α} {z y : α} {m : Nat} (h : m < zs.idxOf z) (e : zs[m]? = some y) : (y == z) = false := by
  induction zs generalizing m with
  | nil => cases e
  | cons a r ih =>
    rw [List.idxOf_cons] at h
    by_cases q : (a == z) = true
    · rw [q] at h; exact absurd h (Nat.not_lt_zero _)
    · rw [Bool.not_eq_true] at q
      rw [q] at h
      cases m with
      | zero =>
        obtain rfl := Option.some.inj e
        exact q
      | succ m => exact ih (Nat.lt_of_succ_lt_succ h) e
theorem v_indexS {z : Str} {zs : List Str} (ha : EvL K ta ρ (zs.map PyData.str)) (hb : Ev K tb ρ (.str z)) (hz : z ∈ zs) : Ev K (tBM K "list" (rIndex K) ta (tCons tb tNil)) ρ (.int (zs.idxOf z : Nat)) := fun R0 H0 R σ H a Q q =>
  ha R0 H0 R σ H a _ fun p vs R1 H1 g1 sq dx => ⟨.inl ⟨rfl, _, sq⟩, hb R0 H0 R1 σ H1 (a.grow g1) _ fun y R2 H2 g2 dy => by
    cases dy
    obtain rfl := dpa_strs dx
    refine ⟨p, _, .str z, zs.idxOf z, .str z, rfl, rfl, g2.hp.seq sq, rfl, strs_flat zs, strs_at hz, ?_, fun m z' hm hz' => ?_, q _ R2 H2 (g1.trans g2) (.int _)⟩
    · show (z == z) = true
      simp
    · rw [List.getElem?_map] at hz'
      cases e : zs[m]? with
      | none => rw [e] at hz'; cases hz'
      | some y =>
        rw [e] at hz'
        obtain rfl := Option.some.inj hz'
        exact idx_first hm e⟩
theorem v_indexB {z : Bool} {zs : List Bool} (ha : EvL K ta ρ (zs.map PyData.bool)) (hb : Ev K tb ρ (.bool z)) (hz : z ∈ zs) : Ev K (tBM K "list" (rIndex K) ta (tCons tb tNil)) ρ (.int (zs.idxOf z : Nat)) := fun R0 H0 R σ H a Q q =>
  ha R0 H0 R σ H a _ fun p vs R1 H1 g1 sq dx => ⟨.inl ⟨rfl, _, sq⟩, hb R0 H0 R1 σ H1 (a.grow g1) _ fun y R2 H2 g2 dy => by
    cases dy
    obtain rfl := dpa_bools dx
    have hl := List.idxOf_lt_length_of_mem hz
    refine ⟨p, _, .bl z, zs.idxOf z, .bl z, rfl, rfl, g2.hp.seq sq, rfl, ?_, ?_, ?_, fun m z' hm hz' => ?_, q _ R2 H2 (g1.trans g2) (.int _)⟩
    · rw [List.all_eq_true]
      intro x hx
      obtain ⟨b, _, rfl⟩ := List.mem_map.mp hx
      rfl
    · rw [List.getElem?_map, List.getElem?_eq_getElem hl, List.getElem_idxOf hl]
      rfl
    · show (z == z) = true
      simp
    · rw [List.getElem?_map] at hz'
      cases e : zs[m]? with
      | none => rw [e] at hz'; cases hz'
      | some y =>
        rw [e] at hz'
        obtain rfl := Option.some.inj hz'
        exact idx_first hm e⟩
theorem v_indexT {z : Str} {zs : List Str} {p : Addr} (hd : ∀ H, Dp K H (.ref p) (.tuple (zs.map PyData.str))) (ht : ∃ o, K.lookup p = some o ∧ o.cls = .type "tuple" ∧ o.dict = none) (hb : Ev K tb ρ (.str z)) (hz : z ∈ zs) : Ev K (tBM K "tuple" (rIndexT K) (tC (.ref p)) (tCons tb tNil)) ρ (.int (zs.idxOf z : Nat)) := fun R0 H0 R σ H a Q q =>
  ⟨.inr (.inl ⟨rfl, ht⟩), hb R0 H0 R σ H a _ fun y R2 H2 g2 dy => by
    cases dy
    have := hd H2
    cases this with
    | tup hs hall =>
      obtain rfl := dpa_strs hall
      exact ⟨p, zs, z, rfl, rfl, hs, hz, q _ R2 H2 g2 (.int _)⟩⟩
theorem sh_str {z : Str} (h : (PyData.str z).canLay0 = true) : Sh 0 (.str z) := ⟨h, Nat.le_refl _⟩
end
end Pu
set_option maxRecDepth 100000
set_option maxHeartbeats 1000000
namespace Pu
open PySem PySem.Spec PyProof.Rows L2
/-! ### list(reversed(x)), x a list or a tuple -/
section
variable {prog : Program} {w : World} {A : Around} {E : Value → Shared → Prop} {s : Shared}
/-- list(it), it an iterator that walks -/
theorem list_walk {it : Addr} {T : String} {fp wr : List Addr} {n : Nat} {P : Nat → Value → Prop} {St : Nat → Heap → Prop} {Q : Value → Shared → Prop}
    (W : Walks prog w A.in1.in1 it fp wr n P St) (hself : ∀ (s' : Shared) (Q' : Value → Shared → Prop), St 0 s'.heap → Q' (.ref it) s' → wpAny (model prog w) A.in1.in1 (pyIter (.ref it)) Q' E s') (W' : Walks prog w A.in1.in1 it fp wr n P St)
    (hlt : it < s.heap.objs.size) (hfp : ∀ b ∈ fp, b < s.heap.objs.size) (hst : St 0 s.heap)
    (hty : ∀ s' : Shared, (∀ b o, s.heap.get? b = some o → s'.heap.get? b = some o) → s'.TypeIs (.ref it) T) (hT1 : (Value.type T == Value.type "list") = false) (hT2 : (Value.type T == Value.type "tuple") = false)
    (hhint : ∀ (s' : Shared) (Q' : Bool → Shared → Prop), (∀ b o, s.heap.get? b = some o → s'.heap.get? b = some o) → (∀ (r : Bool) (tk : Nat), Q' r { s' with toks := tk }) → wpAny (model prog w) A.in1.in1 (Builtin.List.listLengthHint (.ref it)) Q' E s')
    (hn : n ≤ sizeLine)
    (hQ : ∀ (h' : Heap) (tk : Nat) (acc : Array Value) (c : Nat), (∀ b o, b ∉ wr → s.heap.get? b = some o → h'.get? b = some o) → h'.get? s.heap.objs.size = some { cls := .type "list", dict := none, data := .seq acc c, slots := #[] } → ItemsOf P acc n → Q (.ref s.heap.objs.size) { s with heap := h', toks := tk }) :
    wpAny (model prog w) A (call (.type "list") [.ref it]) Q E s := by
  have hne : s.heap.objs.size ≠ it := Nat.ne_of_gt hlt
  refine callType_codes (Q₁ := fun obj s₁ => obj = .ref s.heap.objs.size ∧ s₁ = { s with heap := s.heap.push { cls := .type "list", data := .seq #[] } }) F.called_list (F.typeCall_list_1 _) F.entry_list_init (code_list_new _ ⟨rfl, rfl⟩) fun obj s₁ e1 => ?_
  obtain ⟨rfl, rfl⟩ := e1
  have g0 : (s.heap.push { cls := .type "list", data := .seq #[] }).get? s.heap.objs.size = some { cls := .type "list", data := .seq #[] } := Heap.get?_push_size _ rfl
  refine ⟨⟨_, g0, rfl⟩, F.args_list_init_2 _ _, ?_⟩
  show wpAny _ A.in1.in1 (do
    let old ← Builtin.List.listItems (.ref s.heap.objs.size)
    Builtin.List.listUpdate (.ref s.heap.objs.size) (fun _ => #[])
    letGo old.toList.reverse
    Builtin.List.listExtendWith (.ref s.heap.objs.size) (.ref it) .none) _ _ _
  refine wpAny_bind ?_
  unfold Builtin.List.listItems
  refine wpAny_bind (wpAny_seqItems g0 rfl (wpAny_pure ?_))
  refine wpAny_bind ?_
  show wpAny _ A.in1.in1 (updateSeq s.heap.objs.size (fun _ => #[])) _ _ _
  refine wpAny_updateSeq g0 rfl ?_
  have g2 := Heap.get?_update_self (Obj.mapSeq (fun _ => (#[] : Array Value))) g0 rfl
  refine wpAny_bind (wpAny_letGo ?_)
  have keep : ∀ (h : Heap) (f : Obj → Obj), (∀ b o, s.heap.get? b = some o → h.get? b = some o) → ∀ b o, s.heap.get? b = some o → (h.update s.heap.objs.size f).get? b = some o := fun h f q b o e =>
    (Heap.get?_update_other _ _ (Nat.ne_of_gt (Heap.lt_size e))).trans (q b o e)
  have k1 : ∀ b o, s.heap.get? b = some o → (s.heap.push { cls := .type "list", data := .seq #[] }).get? b = some o := fun b o e => Heap.get?_push_of_some _ e
  have k2 := keep _ (Obj.mapSeq (fun _ => (#[] : Array Value))) k1
  have stay : ∀ {h : Heap}, (∀ b o, s.heap.get? b = some o → h.get? b = some o) → St 0 h := fun {h} q => W.frame 0 _ _ hst fun b _ o e => q b o e
  unfold Builtin.List.listExtendWith
  refine wpAny_bind (wpAny_typeOf (hty _ k2) ?_)
  have n1 : Builtin.List.listSameRef (.ref s.heap.objs.size) (.ref it) = false := beq_eq_false_iff_ne.mpr hne
  simp only [n1, hT1, hT2, Bool.or_false, Bool.false_eq_true, if_false]
  refine wpAny_bind (hself _ _ (stay k2) ?_)
  refine wpAny_bind (wpAny_holding (hhint _ _ k2 fun r tk => ?_))
  have fin : ∀ (h : Heap) (tk c : Nat), (∀ b o, s.heap.get? b = some o → h.get? b = some o) → h.get? s.heap.objs.size = some { cls := .type "list", dict := none, data := .seq #[] c, slots := #[] } →
      wpAny (model prog w) A.in1.in1 (again (.builtin "list.extend.loop" ⟨[.ref s.heap.objs.size, .ref it, .none], []⟩)) (fun fin s' => match fin with | .done f => wants (fun r s₂ => r = .none ∧ Q (.ref s.heap.objs.size) s₂) E (.ok f) s' | .again c' => c'.quiet = true ∧ codeAny (model prog w) A.in1 c' (wants (fun r s₂ => r = .none ∧ Q (.ref s.heap.objs.size) s₂) E) s')
        (fun e s' => wants (fun r s₂ => r = .none ∧ Q (.ref s.heap.objs.size) s₂) E (.error e) s') { s with heap := h, toks := tk } := fun h tk c kh g => by
    refine wpAny_pure ⟨plainId_quiet F.plain_extend_loop _, codeAny_extend_loopS W'.toS hn _ (fun z => Nat.lt_irrefl _ (hfp _ z)) _ n 0 _ _ _ rfl (Nat.zero_le _) (stay kh) g (ItemsOf.nil _) fun s' acc' c' mv gS hacc => ?_⟩
    refine ⟨rfl, ?_⟩
    rw [Moved.eq_with mv]
    refine hQ s'.heap s'.toks acc' c' (fun b o hb e => mv.heap b o (fun hm => ?_) (kh b o e)) gS hacc
    rcases List.mem_cons.mp hm with e' | hm
    · exact Nat.lt_irrefl _ (e' ▸ Heap.lt_size e)
    · exact hb hm
  split
  · show wpAny _ A.in1.in1 (rule "list.extend.makes-room" >>= fun _ => Builtin.List.listTouch (.ref s.heap.objs.size) >>= fun _ => again (.builtin "list.extend.loop" ⟨[.ref s.heap.objs.size, .ref it, .none], []⟩)) _ _ _
    refine wpAny_bind (wpAny_rule (wpAny_bind ?_))
    show wpAny _ A.in1.in1 (updateSeq s.heap.objs.size (·.push .none) >>= fun _ => updateSeq s.heap.objs.size (·.pop)) _ _ _
    refine wpAny_bind (wpAny_updateSeq g2 rfl ?_)
    have g3 := Heap.get?_update_self (Obj.mapSeq (·.push Value.none)) g2 rfl
    refine wpAny_updateSeq (hz := by seq_fits) g3 rfl ?_
    have g4 := Heap.get?_update_self (Obj.mapSeq (·.pop)) g3 rfl
    exact fin _ tk _ (keep _ (Obj.mapSeq (·.pop)) (keep _ (Obj.mapSeq (·.push Value.none)) k2)) g4
  · exact fin _ tk _ k2 g2
/-- how long a reversed thing says it is -/
theorem hint_list {it l : Addr} {i : Int} {Q : Bool → Shared → Prop} (hit : s.heap.IsRevIter it l i) (h : ∀ (r : Bool) (tk : Nat), Q r { s with toks := tk }) : wpAny (model prog w) A (Builtin.List.listLengthHint (.ref it)) Q E s := by
  have hT : s.TypeIs (.ref it) "list_reverseiterator" := hit.typeIs
  unfold Builtin.List.listLengthHint
  refine wpAny_bind (wpAny_specialOf hT RT.nolen_lri ?_)
  show wpAny _ A (specialOf (Value.ref it) (Str.ofString "__length_hint__") >>= _) _ _ _
  refine wpAny_bind (wpAny_specialOf hT RT.hint_lri ?_)
  generalize hid : ("list_reverseiterator.__length_hint__" : String) = id0
  wp_delta
  rw [show splitId id0 = some ("list_reverseiterator", "__length_hint__") from by subst hid; decide +kernel]
  subst hid
  refine wpAny_bind (wpAny_isInstance (b := true) hT (by rw [isSubtype_type]; kernel_rfl) ?_)
  refine wpAny_pure ?_
  exact h false s.toks
/-! the same of a tuple -/
theorem nolen_rt : typeLookup (.type "reversed") "__len__" = pure none := by rw [typeLookup_type, builtinLookup_eq_fast]; kernel_rfl
theorem hint_rt : typeLookup (.type "reversed") "__length_hint__" = pure (some (.builtin "reversed.__length_hint__")) := by rw [typeLookup_type, builtinLookup_eq_fast]; kernel_rfl
theorem slot_rt_hint : Slot "reversed" "__length_hint__" "reversed.__length_hint__" :=
  .of (owner := "reversed") (n := "__length_hint__") hint_rt (by decide +kernel) (by decide +kernel) (by decide +kernel) (by first | exact .inl (by decide +kernel) | exact .inr (by decide +kernel)) (by rw [isSubtype_type]; kernel_rfl)
theorem entry_rt_hint : entryFor table "reversed.__length_hint__" = some Builtin.«reversed.__length_hint__» := entryFor_of_tree (by kernel_rfl)
theorem args_rt_hint (a : Value) : argsOk "reversed.__length_hint__" ⟨[a], []⟩ := by
  unfold argsOk
  rw [signature?_of (id := "reversed.__length_hint__") (n := ['_', '_', 't', 'n', 'i', 'h', '_', 'h', 't', 'g', 'n', 'e', 'l', '_', '_']) (o := ['d', 'e', 's', 'r', 'e', 'v', 'e', 'r']) (by kernel_rfl) RT.owner_rt]
  kernel_rfl
theorem type_rt_hint : typeOf (.builtin "reversed.__length_hint__") = pure (.type "method_descriptor") := by
  show builtinType _ = _
  rw [builtinType_eq_fast]
  kernel_rfl
theorem hint_tup {it l : Addr} {items : Array Value} {Q : Bool → Shared → Prop} (hit : RT.IsRt s.heap it l ((items.size : Int) - 1)) (ht : IsTup s.heap l items) (hz : items.size ≤ sizeLine) (h : ∀ (r : Bool) (tk : Nat), Q r { s with toks := tk }) : wpAny (model prog w) A (Builtin.List.listLengthHint (.ref it)) Q E s := by
  have hT : s.TypeIs (.ref it) "reversed" := hit.typeIs
  have hn := line63
  obtain ⟨o, ho, hc, hd⟩ := id hit
  unfold Builtin.List.listLengthHint
  refine wpAny_bind (wpAny_specialOf hT nolen_rt ?_)
  show wpAny _ A (specialOf (Value.ref it) (Str.ofString "__length_hint__") >>= _) _ _ _
  refine wpAny_bind (wpAny_specialOf hT hint_rt ?_)
  generalize hid : ("reversed.__length_hint__" : String) = id0
  wp_delta
  rw [show splitId id0 = some ("reversed", "__length_hint__") from by subst hid; decide +kernel]
  subst hid
  refine wpAny_bind (wpAny_isInstance (b := true) hT (by rw [isSubtype_type]; kernel_rfl) ?_)
  rw [if_neg (by decide)]
  try dsimp only
  rw [if_neg (by decide +kernel)]
  refine wpAny_bind (wpAny_rule ?_)
  unfold bindSpecial
  refine wpAny_bind (wpAny_bind (wpAny_of_eq type_rt_hint ?_))
  rw [if_pos (by decide)]
  refine wpAny_pure ?_
  try dsimp only
  refine wpAny_bind (wpAny_attempt (wpAny_call_entry slot_rt_hint hT entry_rt_hint ?_ (args_rt_hint _)))
  unfold Builtin.«reversed.__length_hint__»
  refine wpAny_bind (wpAny_of_eq (a := Value.ref it) rfl ?_)
  refine wpAny_bind (wpAny_field ho hd (x := .ref l) rfl ?_)
  rw [if_neg (show ¬ ((Value.ref l == Value.none) = true) from by simp)]
  try dsimp only
  refine wpAny_bind (PyProof.Rows.len_tuple ht (by omega) ?_)
  refine wpAny_bind (wpAny_pure ?_)
  try dsimp only
  refine wpAny_bind (wpAny_field (s := { s with toks := s.toks + 1 + 1 }) ho hd (x := rawInt ((items.size : Int) - 1)) rfl ?_)
  show wpAny _ _ (if (items.size : Int) < (items.size : Int) - 1 + 1 then _ else _) _ _ _
  rw [if_neg (by omega)]
  show wpAny _ _ (mkInt ((items.size : Int) - 1 + 1) >>= fun v => ret v) _ _ _
  refine wpAny_bind (wpAny_mkInt ?_)
  refine wpAny_pure ⟨_, rfl, ?_⟩
  try dsimp only
  refine wpAny_bind (wpAny_pure ?_)
  try dsimp only
  have f1 : Builtin.List.listFitsIndex ((items.size : Int) - 1 + 1) = true := by
    unfold Builtin.List.listFitsIndex
    rw [Bool.and_eq_true]
    exact ⟨decide_eq_true (by omega), decide_eq_true (by omega)⟩
  have f2 : Builtin.List.listTooLong ((items.size : Int) - 1 + 1).toNat = false := by
    unfold Builtin.List.listTooLong
    exact decide_eq_false (by omega)
  rw [if_neg (by rw [f1]; decide), if_neg (by omega), if_neg (by rw [f2]; decide)]
  exact wpAny_pure (h _ _)
end
theorem walks_rt {prog : Program} {w : World} {A : Around} (hh : A.handled = none) (I l : Addr) (hne : l ≠ I) (items : Array Value) (hz : items.size ≤ sizeLine) :
    Walks prog w A I [I, l] [I] items.size (fun i v => items[items.size - 1 - i]? = some v) (fun i h => i ≤ items.size ∧ RT.IsRt h I l ((items.size : Int) - 1 - (i : Int)) ∧ IsTup h l items) where
  sub := fun b hb => by
    obtain rfl := List.mem_singleton.mp hb
    exact List.mem_cons_self
  frame := fun _ _ _ x hk => ⟨x.1, x.2.1.at fun o e => hk I (by simp) o e, (let ⟨o, e, r⟩ := x.2.2; ⟨o, hk l (by simp) o e, r⟩)⟩
  item := fun i s Q E hi x hQ => by
    obtain ⟨_, hit, ht⟩ := x
    rw [show (items.size : Int) - 1 - (i : Int) = ((items.size - 1 - i : Nat) : Int) by omega] at hit
    have hx : items[items.size - 1 - i]? = some (items[items.size - 1 - i]'(by omega)) := Array.getElem?_eq_getElem (by omega)
    refine RT.next_rt_item hit ht hx hz fun h' hit' sb => ?_
    rw [show ((items.size - 1 - i : Nat) : Int) - 1 = (items.size : Int) - 1 - ((i + 1 : Nat) : Int) by omega] at hit'
    exact hQ _ h' _ hx ⟨hi, hit', (let ⟨o, e, r⟩ := ht; ⟨o, (sb.2 l hne).trans e, r⟩)⟩ fun b o hb eo => (sb.2 b (fun z => hb (by rw [z]; exact List.mem_cons_self))).trans eo
  done := fun s Q E x hQ => by
    obtain ⟨_, hit, ht⟩ := x
    rw [show (items.size : Int) - 1 - (items.size : Int) = -1 by omega] at hit
    exact RT.next_rt_end hh hit fun h' he => hQ h' s.toks fun b o hb eo => he b o (fun z => hb (by rw [z]; exact List.mem_cons_self)) eo
  self := fun _ _ _ _ x hQ => RT.iter_rt x.2.1 hQ
section
variable {X : Cx} {K : Frag}
/-- list(reversed(x)) -/
def tListRev (K : Frag) (te : TE) : TE := fun σ H Q => te σ H fun v H1 => ∃ (a : Addr) (xs : List V), v = .ref a ∧ (SqL K H1 a xs ∨ SqT K H1 a xs) ∧ ∀ q, H1 q = none → Q (.ref q) (upd H1 q (.lst xs.reverse))
theorem pe_listRev {e : Expr} {te : TE} {p p2 pos pos2 : Pos} (hc : X.calm = true) (hg : Gl X "list") (hm : X.mg "list" = none) (hg2 : Gl X "reversed") (hm2 : X.mg "reversed" = none) (he : PE X e te)
    (hs : starEach [e] X.env = (false, eval e X.env) :: starEach [] X.env := by rfl)
    (hs2 : starEach [.Call (.Name "reversed" p2) [e] [] pos2] X.env = (false, eval (.Call (.Name "reversed" p2) [e] [] pos2) X.env) :: starEach [] X.env := by rfl) (hK : X.K = K := by rfl) :
    PE X (.Call (.Name "list" p) [.Call (.Name "reversed" p2) [e] [] pos2] [] pos) (tListRev K te) := by
  subst hK
  refine ⟨fun pins s σ H Q I h => ?_⟩
  refine Call_ (ld_blt I hg hm boot_list (PyProof.Rows.callWith_type1 (args_cons (Call_ (ld_blt I hg2 hm2 PyProof.Rows.boot_reversed (PyProof.Rows.callWith_type1 (args_cons (thn (he.run pins s σ H _ I h) fun u s1 ⟨v, H1, I1, r1, q1⟩ => args_nil ?_) hs) hs rfl))) hs2) hs2 rfl))
  obtain ⟨a, xs, ev, hq, q⟩ := q1
  subst ev
  obtain rfl : u = Value.ref a := r1
  rcases hq with hq | hq
  case inr =>
    obtain ⟨its, rv, p', hz⟩ := I1.tuple hq
    have hn := line63
    have hnz : its.toArray.size ≤ sizeLine := by rw [List.size_toArray, ← rv.length]; exact hz
    refine RT.call_reversed_tup p' (fun A E Q k => len_tuple p' (by omega) k) (args_nil ?_)
    obtain ⟨ol, hol, hoc⟩ := id p'
    have hne : a ≠ s1.heap.objs.size := Nat.ne_of_lt (Heap.lt_size hol)
    obtain ⟨hr, ehr⟩ : ∃ h, h = s1.heap.push (RT.rtObj a ((its.toArray.size : Int) - 1)) := ⟨_, rfl⟩
    have k0 : ∀ b o, s1.heap.get? b = some o → hr.get? b = some o := fun b o e => by rw [ehr]; exact Heap.get?_push_of_some _ e
    have I2 : Inv X pins σ H1 { s1 with heap := hr, toks := s1.toks + 1 + 1 } := I1.kept (t' := s1.toks + 1 + 1) k0
    have e0 : ((its.toArray.size : Nat) : Int) - 1 - ((0 : Nat) : Int) = (its.toArray.size : Int) - 1 := by omega
    have hri : RT.IsRt hr s1.heap.objs.size a ((its.toArray.size : Int) - 1) := by rw [ehr]; exact ⟨_, Heap.get?_push_size _ rfl, rfl, rfl⟩
    have hlr : IsTup hr a its.toArray := ⟨ol, k0 _ _ hol, hoc⟩
    have hsz : hr.objs.size = s1.heap.objs.size + 1 := by rw [ehr, Heap.size_push]
    rw [← ehr]
    have W := walks_rt (prog := X.prog) (w := X.w) (A := X.A.in1.in1) (I1.ok.hd hc) s1.heap.objs.size a hne its.toArray hnz
    refine list_walk (s := { s1 with heap := hr, toks := s1.toks + 1 + 1 }) (T := "reversed") W (fun s' Q' st h' => RT.iter_rt st.2.1 h') W (by show _ < hr.objs.size; omega) (fun b hb => ?_) ⟨Nat.zero_le _, by rw [e0]; exact hri, hlr⟩
      (fun s' k => RT.IsRt.typeIs (s := s') (hri.at fun o e => k _ o e)) (by decide) (by decide) (fun s' Q' k h' => hint_tup (hri.at fun o e => k _ o e) ⟨ol, k _ _ (k0 _ _ hol), hoc⟩ hnz h') hnz fun h' tk acc c hk hS hacc => ?_
    · have hb' : b = s1.heap.objs.size ∨ b = a := by simpa using hb
      show b < hr.objs.size
      rw [hsz]
      rcases hb' with e | e
      · rw [e]; exact Nat.lt_succ_self _
      · rw [e]; exact Nat.lt_succ_of_lt (Heap.lt_size hol)
    · have hb2 : H1 s1.heap.objs.size = none := I1.hok.fresh (Nat.le_refl _)
      have hf : ∀ b ∈ [s1.heap.objs.size], FpOk X pins H1 b := fun b hb => by
        obtain rfl := List.mem_singleton.mp hb
        exact I1.fpOk (Nat.le_refl _) hb2
      have hfree : H1 hr.objs.size = none := I1.hok.fresh (by rw [hsz]; exact Nat.le_succ _)
      have new : ObjOk X.prog X.w (upd H1 hr.objs.size (.lst xs.reverse)) h' hr.objs.size (.lst xs.reverse) :=
        ⟨by rw [List.length_reverse]; exact hz, acc.toList, c, RT.vals_rev rv hacc, by rw [Array.toArray_toList]; exact hS⟩
      exact ⟨.ref hr.objs.size, upd H1 hr.objs.size (.lst xs.reverse), I2.turnedNew (t' := tk) (ch := [s1.heap.objs.size]) (fun b o hb e => hk b o hb e) hf (Nat.le_refl _) new, rfl, q _ hfree⟩
  obtain ⟨its, rv, p', hz⟩ := I1.list hq
  refine call_reversed_list p'.isList (args_nil ?_)
  have hl := p'.isList
  obtain ⟨ol, hol, _⟩ := id hl
  have hne : a ≠ s1.heap.objs.size := Nat.ne_of_lt (Heap.lt_size hol)
  have hn : its.toArray.size ≤ sizeLine := by rw [List.size_toArray, ← rv.length]; exact hz
  obtain ⟨hr, ehr⟩ : ∃ h, h = s1.heap.push (revObj a ((its.toArray.size : Int) - 1)) := ⟨_, rfl⟩
  have k0 : ∀ b o, s1.heap.get? b = some o → hr.get? b = some o := fun b o e => by rw [ehr]; exact Heap.get?_push_of_some _ e
  have I2 : Inv X pins σ H1 { s1 with heap := hr } := I1.kept (t' := s1.toks) k0
  have e0 : ((its.toArray.size : Nat) : Int) - 1 - ((0 : Nat) : Int) = (its.toArray.size : Int) - 1 := by omega
  have hri : hr.IsRevIter s1.heap.objs.size a ((its.toArray.size : Int) - 1) := by rw [ehr]; exact ⟨_, Heap.get?_push_size _ rfl, rfl, rfl⟩
  have hlr : hr.IsList a its.toArray := by rw [ehr]; exact hl.push _
  have hsz : hr.objs.size = s1.heap.objs.size + 1 := by rw [ehr, Heap.size_push]
  rw [← ehr]
  have W := Walks.listRev (prog := X.prog) (w := X.w) (A := X.A.in1.in1) (I1.ok.hd hc) s1.heap.objs.size a hne its.toArray
  refine list_walk (s := { s1 with heap := hr }) (T := "list_reverseiterator") W (fun s' Q' st h' => wpAny_pyIter_revIter st.2.1 h') W (by show _ < hr.objs.size; omega) (fun b hb => ?_) ⟨Nat.zero_le _, by rw [e0]; exact hri, hlr⟩
    (fun s' k => Heap.IsRevIter.typeIs (s := s') (hri.at fun o e => k _ o e)) (by decide) (by decide) (fun s' Q' k h' => hint_list (hri.at fun o e => k _ o e) h') hn fun h' tk acc c hk hS hacc => ?_
  · have hb' : b = s1.heap.objs.size ∨ b = a := by simpa using hb
    show b < hr.objs.size
    rw [hsz]
    rcases hb' with e | e
    · rw [e]; exact Nat.lt_succ_self _
    · rw [e]; exact Nat.lt_succ_of_lt (Heap.lt_size hol)
  · have hb2 : H1 s1.heap.objs.size = none := I1.hok.fresh (Nat.le_refl _)
    have hf : ∀ b ∈ [s1.heap.objs.size], FpOk X pins H1 b := fun b hb => by
      obtain rfl := List.mem_singleton.mp hb
      exact I1.fpOk (Nat.le_refl _) hb2
    have hfree : H1 hr.objs.size = none := I1.hok.fresh (by rw [hsz]; exact Nat.le_succ _)
    have hlen := rv.length
    have new : ObjOk X.prog X.w (upd H1 hr.objs.size (.lst xs.reverse)) h' hr.objs.size (.lst xs.reverse) := by
      have hv := RT.vals_rev rv hacc
      exact ⟨by rw [List.length_reverse]; exact hz, acc.toList, c, hv, by rw [Array.toArray_toList]; exact hS⟩
    exact ⟨.ref hr.objs.size, upd H1 hr.objs.size (.lst xs.reverse), I2.turnedNew (t' := tk) (ch := [s1.heap.objs.size]) (fun b o hb e => hk b o hb e) hf (Nat.le_refl _) new, rfl, q _ hfree⟩
end
section
variable {K : Frag} {ρ : En} {te : TE} {ds : List D}
theorem f_listRevL (h : EvL K te ρ ds) : EvF K (tListRev K te) ρ ds.reverse := fun R0 H0 R σ H a Q q => h R0 H0 R σ H a _ fun p vs R1 H1 g1 sq dv =>
  ⟨p, vs, rfl, .inl sq, fun l hl => q l _ R1 _ (g1.trans (Grow.hide g1.sub hl)) (g1.hp.free hl) (g1.sub.free hl) upd_same (dpa_rev dv)⟩
theorem f_listRevQ {d0 : D} (hd : SeqD d0 ds) (h : Ev K te ρ d0) : EvF K (tListRev K te) ρ ds.reverse := by
  rcases hd with rfl | rfl
  · exact f_listRevL h.l
  · intro R0 H0 R σ H a Q q
    refine h R0 H0 R σ H a _ fun v R1 H1 g1 dv => ?_
    cases dv with
    | tup hs hall => exact ⟨_, _, rfl, .inr (sqt_mono g1.sub hs), fun l hl => q l _ R1 _ (g1.trans (Grow.hide g1.sub hl)) (g1.hp.free hl) (g1.sub.free hl) upd_same (dpa_rev hall)⟩
end
end Pu
set_option maxRecDepth 100000
set_option maxHeartbeats 1000000
namespace Pu
open PySem PySem.Spec PyProof.Rows L2
/-! ### zip of a list or a tuple with a list or a tuple -/
def SqQ (K : Frag) (t : Bool) (H : Hp) (a : Addr) (xs : List V) : Prop := if t then SqT K H a xs else SqL K H a xs
def itCls (t : Bool) : String := if t then "tuple_iterator" else "list_iterator"
def ItAt (t : Bool) (h : Heap) (it a : Addr) (i : Nat) : Prop := if t then h.IsTupleIter it a i else h.IsListIter it a i
def SeqIs (t : Bool) (h : Heap) (a : Addr) (items : Array Value) : Prop := if t then h.IsTuple a items else h.IsList a items
theorem SeqIs.keep {t : Bool} {h h' : Heap} {a : Addr} {items : Array Value} (x : SeqIs t h a items) (e : ∀ o, h.get? a = some o → h'.get? a = some o) : SeqIs t h' a items := by
  cases t
  · exact Heap.IsList.at x e
  · obtain ⟨o, ho, r⟩ := x
    exact ⟨o, e o ho, r⟩
theorem SeqIs.there {t : Bool} {h : Heap} {a : Addr} {items : Array Value} (x : SeqIs t h a items) : ∃ o, h.get? a = some o := by
  cases t
  · obtain ⟨o, ho, _⟩ := x
    exact ⟨o, ho⟩
  · obtain ⟨o, ho, _⟩ := x
    exact ⟨o, ho⟩
theorem ItAt.keep {t : Bool} {h h' : Heap} {it a : Addr} {i : Nat} (x : ItAt t h it a i) (e : ∀ o, h.get? it = some o → h'.get? it = some o) : ItAt t h' it a i := by
  cases t
  · obtain ⟨o, ho, r⟩ := x
    exact ⟨o, e o ho, r⟩
  · obtain ⟨o, ho, r⟩ := x
    exact ⟨o, e o ho, r⟩
theorem ItAt.there {t : Bool} {h : Heap} {it a : Addr} {i : Nat} (x : ItAt t h it a i) : ∃ o c, h.get? it = some o ∧ o.data = .fields #[.ref a, c] := by
  cases t
  · obtain ⟨o, ho, _, hd⟩ := x
    exact ⟨o, _, ho, hd⟩
  · obtain ⟨o, ho, _, hd⟩ := x
    exact ⟨o, _, ho, hd⟩
theorem draws_seq {prog : Program} {w : World} {A : Around} (t : Bool) (hh : A.handled = none) (it l : Addr) (hne : l ≠ it) (items : Array Value) :
    Draws prog w A it [it, l] items.size (fun i v => items[i]? = some v) (fun i h => ItAt t h it l i ∧ SeqIs t h l items) := by
  cases t
  · exact Draws.list hh it l hne items
  · exact Draws.tuple hh it l hne items
theorem sqQ_seq {X : Cx} {pins : List (Addr × Obj)} {σ : L2.St} {H : Hp} {s : Shared} {t : Bool} {a : Addr} {xs : List V} (I : Inv X pins σ H s) (h : SqQ X.K t H a xs) : ∃ its : List Value, Vals xs its ∧ SeqIs t s.heap a its.toArray := by
  cases t
  · obtain ⟨its, r, p, _⟩ := I.list h
    exact ⟨its, r, p.isList⟩
  · obtain ⟨its, r, p, _⟩ := I.tuple h
    exact ⟨its, r, p⟩
theorem sqQ_inj {X : Cx} {pins : List (Addr × Obj)} {σ : L2.St} {H : Hp} {s : Shared} {t : Bool} {a : Addr} {xs ys : List V} (I : Inv X pins σ H s) (h : SqQ X.K t H a xs) (h' : SqQ X.K t H a ys) : xs = ys := by
  cases t
  · exact I.list_inj h h'
  · exact I.tuple_inj h h'
def ItzQ (K : Frag) (t1 t2 : Bool) (a b : Addr) : It :=
  ⟨fun i H => ∃ (xs ys : List V) (x y : V), SqQ K t1 H a xs ∧ SqQ K t2 H b ys ∧ xs[i]? = some x ∧ ys[i]? = some y,
    fun i H v H' => ∃ T x y, v = .ref T ∧ H T = none ∧ H' = upd H T (.tup [x, y]) ∧ (∀ xs, SqQ K t1 H a xs → xs[i]? = some x) ∧ ∀ ys, SqQ K t2 H b ys → ys[i]? = some y,
    fun i H => ∃ xs ys : List V, SqQ K t1 H a xs ∧ SqQ K t2 H b ys ∧ (xs.length = i ∨ ys.length = i) ∧ i ≤ xs.length ∧ i ≤ ys.length⟩
theorem turn_zipQ {P : Program} {w : World} {K : Frag} {elts : List Expr} {kk : Nat} {tpos : Pos} {t1 t2 : Bool} {a b z TI TO i1 i2 : Addr} (n1 : a ≠ i1) (n2 : b ≠ i2) (S : ZipSep2 z TI TO i1 i2 [i1, a] [i2, b]) :
    Turn P w K (.Tuple elts kk tpos) (ItzQ K t1 t2 a b) [z, TI, TO, i1, i2] z (fun i h => IsZip h z TI TO .none ∧ IsTupOf2 h TI (.ref i1) (.ref i2) ∧ (∃ x y, IsTupOf2 h TO x y) ∧ ItAt t1 h i1 a i ∧ ItAt t2 h i2 b i) where
  mem := List.mem_cons_self
  obj := fun i h st c hc => by
    obtain ⟨hz, hTI, ⟨x, y, hTO⟩, h1, h2⟩ := st
    obtain ⟨o1, c1, e1, d1⟩ := h1.there
    obtain ⟨o2, c2, e2, d2⟩ := h2.there
    have e' : c = z ∨ c = TI ∨ c = TO ∨ c = i1 ∨ c = i2 := by simpa using hc
    rcases e' with q | q | q | q | q
    · rw [q]; exact ⟨_, hz, fun v q => nomatch q⟩
    · rw [q]; exact ⟨_, hTI, fun v q => nomatch q⟩
    · rw [q]; exact ⟨_, hTO, fun v q => nomatch q⟩
    · rw [q]; exact ⟨o1, e1, fun v q => by rw [d1] at q; cases q⟩
    · rw [q]; exact ⟨o2, e2, fun v q => by rw [d2] at q; cases q⟩
  keep := fun i h h' st k => by
    obtain ⟨hz, hTI, ⟨x, y, hTO⟩, h1, h2⟩ := st
    exact ⟨k z (by simp) _ hz, k TI (by simp) _ hTI, ⟨x, y, k TO (by simp) _ hTO⟩, h1.keep fun o q => k i1 (by simp) o q, h2.keep fun o q => k i2 (by simp) o q⟩
  item := by
    intro X hP hw hK hc i pins s σ H E I hf st hg
    subst hP hw hK
    obtain ⟨hz, hTI, ⟨x0, y0, hTO⟩, h1, h2⟩ := st
    obtain ⟨xs, ys, x, y, hqx, hqy, hx, hy⟩ := hg
    obtain ⟨its, rv, p⟩ := sqQ_seq I hqx
    obtain ⟨its2, rv2, p2⟩ := sqQ_seq I hqy
    obtain ⟨u, hu, ru⟩ := rv.get hx
    obtain ⟨u2, hu2, ru2⟩ := rv2.get hy
    have hzl : z < s.heap.objs.size := Heap.lt_size hz
    have D1 := draws_seq (prog := X.prog) (w := X.w) (A := X.A.in1) t1 (I.ok.hd hc) i1 a n1 its.toArray
    have D2 := draws_seq (prog := X.prog) (w := X.w) (A := X.A.in1) t2 (I.ok.hd hc) i2 b n2 its2.toArray
    have l1 : i < its.toArray.size := by rw [List.size_toArray]; exact (List.getElem?_eq_some_iff.mp hu).1
    have l2 : i < its2.toArray.size := by rw [List.size_toArray]; exact (List.getElem?_eq_some_iff.mp hu2).1
    refine wpAny_pyNext_zipD2_item S D1 D2 hz hTI hTO ⟨h1, p⟩ ⟨h2, p2⟩ l1 l2 fun x1 x2 h' tk e1 e2 z' TO' st1 st2 hT hsz hk => ?_
    have q1 : x1 = u := Option.some.inj (e1.symm.trans (by simpa using hu))
    have q2 : x2 = u2 := Option.some.inj (e2.symm.trans (by simpa using hu2))
    subst q1 q2
    refine ⟨_, rfl, wpAny_letOwnedTupleGo_zip (s := { s with heap := h', toks := tk }) z' fun h'' z'' sb => ?_⟩
    have hT2 : h''.get? s.heap.objs.size = some { cls := .type "tuple", data := .seq #[x1, x2] } := (sb.2 _ (Nat.ne_of_gt hzl)).trans hT
    have new : ObjOk X.prog X.w (upd H s.heap.objs.size (.tup [x, y])) h'' s.heap.objs.size (.tup [x, y]) :=
      ⟨by show 2 ≤ sizeLine; decide, [x1, x2], .cons ru (.cons ru2 .nil), ⟨_, hT2, rfl, _, rfl⟩⟩
    have I1 : Inv X pins σ (upd H s.heap.objs.size (.tup [x, y])) { s with heap := h'', toks := tk } :=
      I.turnedNew (t' := tk) (ch := [z, TI, TO, i1, i2]) (fun c o hb q => (sb.2 c (fun q' => hb (by simp [q']))).trans (hk c o (fun q' => hb (by simp [q'])) (fun q' => hb (by simp [q'])) (fun q' => hb (by simp [q'])) (fun q' => hb (by simp [q'])) q)) hf (Nat.le_refl _) new
    refine ⟨.ref s.heap.objs.size, _, I1, rfl, ⟨_, x, y, rfl, I.hok.fresh (Nat.le_refl _), rfl, fun l hl => by rw [sqQ_inj I hl hqx]; exact hx, fun l hl => by rw [sqQ_inj I hl hqy]; exact hy⟩, ⟨z'', ?_, ⟨x1, x2, ?_⟩, ?_, ?_⟩, fun c hcm => ?_⟩
    · exact (sb.2 _ S.TIz).trans (hk _ _ S.TIz S.TITO S.TIi1 S.TIi2 hTI)
    · exact (sb.2 _ S.TOz).trans TO'
    · exact st1.1.keep fun o q => (sb.2 _ (Ne.symm S.zi1)).trans q
    · exact st2.1.keep fun o q => (sb.2 _ (Ne.symm S.zi2)).trans q
    · have hlt : c < s.heap.objs.size := by
        have e' : c = z ∨ c = TI ∨ c = TO ∨ c = i1 ∨ c = i2 := by simpa using hcm
        obtain ⟨_, _, g1, _⟩ := h1.there
        obtain ⟨_, _, g2, _⟩ := h2.there
        rcases e' with q | q | q | q | q
        · rw [q]; exact hzl
        · rw [q]; exact Heap.lt_size hTI
        · rw [q]; exact Heap.lt_size hTO
        · rw [q]; exact Heap.lt_size g1
        · rw [q]; exact Heap.lt_size g2
      rw [upd_ne (Nat.ne_of_lt hlt)]
      exact (hf c hcm).1
  done := by
    intro X hP hw hK hc i pins s σ H E I hf st hg
    subst hP hw hK
    obtain ⟨hz, hTI, ⟨x0, y0, hTO⟩, h1, h2⟩ := st
    obtain ⟨xs, ys, hqx, hqy, hend, hle1, hle2⟩ := hg
    obtain ⟨its, rv, p⟩ := sqQ_seq I hqx
    obtain ⟨its2, rv2, p2⟩ := sqQ_seq I hqy
    have l1 := rv.length
    have l2 := rv2.length
    have D1 := draws_seq (prog := X.prog) (w := X.w) (A := X.A.in1) t1 (I.ok.hd hc) i1 a n1 its.toArray
    have D2 := draws_seq (prog := X.prog) (w := X.w) (A := X.A.in1) t2 (I.ok.hd hc) i2 b n2 its2.toArray
    exact wpAny_pyNext_zipD2_end S D1 D2 hz hTI hTO ⟨h1, p⟩ ⟨h2, p2⟩ (by rw [List.size_toArray]; omega) (by rw [List.size_toArray]; omega) (by rw [List.size_toArray, List.size_toArray]; omega) fun h' tk hk => ⟨rfl, I.turnedL (t' := tk) (ch := [z, TI, TO, i1, i2]) (fun c o hb q =>
      hk c o (fun q' => hb (by simp [q'])) (fun q' => hb (by simp [q'])) (fun q' => hb (by simp [q'])) (fun q' => hb (by simp [q'])) q) hf⟩
  self := fun A i s Q E st h => wpAny_pyIter_zip st.1 h
theorem pyIter_seq {prog : Program} {w : World} {A : Around} {E : Value → Shared → Prop} {s : Shared} {t : Bool} {l : Addr} {items : Array Value} {Q : Value → Shared → Prop} (hl : SeqIs t s.heap l items)
    (hQ : Q (.ref s.heap.objs.size) { s with heap := s.heap.push { cls := .type (itCls t), data := .fields #[.ref l, .int 0 0] } }) : wpAny (model prog w) A (pyIter (.ref l)) Q E s := by
  cases t
  · exact wpAny_pyIter_list hl hQ
  · exact wpAny_pyIter_tuple hl hQ
abbrev zq1 (t1 : Bool) (h : Heap) (l1 : Addr) : Heap := h.push { cls := .type (itCls t1), data := .fields #[.ref l1, .int 0 0] }
abbrev zq2 (t1 t2 : Bool) (h : Heap) (l1 l2 : Addr) : Heap := (zq1 t1 h l1).push { cls := .type (itCls t2), data := .fields #[.ref l2, .int 0 0] }
abbrev zq3 (t1 t2 : Bool) (h : Heap) (l1 l2 : Addr) : Heap := (zq2 t1 t2 h l1 l2).push { cls := .type "tuple", data := .seq #[.ref h.objs.size, .ref (zq1 t1 h l1).objs.size] }
abbrev zq4 (t1 t2 : Bool) (h : Heap) (l1 l2 : Addr) : Heap := (zq3 t1 t2 h l1 l2).push { cls := .type "tuple", data := .seq #[.none, .none] }
abbrev zq5 (t1 t2 : Bool) (h : Heap) (l1 l2 : Addr) : Heap := (zq4 t1 t2 h l1 l2).push { cls := .type "zip", data := .fields #[.none, .bool false, .bool false, .ref (zq2 t1 t2 h l1 l2).objs.size, .ref (zq3 t1 t2 h l1 l2).objs.size] }
theorem meets_zipQ (t1 t2 : Bool) (l1 l2 : Addr) (xs ys : Array Value) :
    PySem.Meets (Builtin.«zip.__new__» ⟨[.type "zip", .ref l1, .ref l2], []⟩) (fun _ R s => SeqIs t1 s.heap l1 xs ∧ SeqIs t2 s.heap l2 ys ∧ R (.ok (.ret (.ref (zq4 t1 t2 s.heap l1 l2).objs.size))) { s with heap := zq5 t1 t2 s.heap l1 l2 }) :=
  .of_wp fun prog w A R s h => by
    obtain ⟨hp, g, d, tk, os⟩ := s
    obtain ⟨hl1, hl2, h⟩ := h
    have hsub := sub_zip
    have L1 : SeqIs t1 (Shared.heap ⟨hp, g, d, tk, os⟩) l1 xs := hl1
    have L2 : SeqIs t2 (Shared.heap ⟨hp.push { cls := .type (itCls t1), data := .fields #[.ref l1, .int 0 0] }, g, d, tk, os⟩) l2 ys := hl2.keep fun o e => Heap.get?_push_of_some _ e
    wp_walk using pyIter_seq L1, pyIter_seq L2
    exact ⟨_, rfl, h⟩
theorem call_zipQ {prog : Program} {w : World} {A : Around} {E : Value → Shared → Prop} {s : Shared} {t1 t2 : Bool} {l1 l2 : Addr} {xs ys : Array Value} {Q : Value → Shared → Prop} (hl1 : SeqIs t1 s.heap l1 xs) (hl2 : SeqIs t2 s.heap l2 ys)
    (h : ∀ h', IsZip h' (s.heap.objs.size + 4) (s.heap.objs.size + 2) (s.heap.objs.size + 3) .none → IsTupOf2 h' (s.heap.objs.size + 2) (.ref s.heap.objs.size) (.ref (s.heap.objs.size + 1)) → IsTupOf2 h' (s.heap.objs.size + 3) .none .none →
      ItAt t1 h' s.heap.objs.size l1 0 → ItAt t2 h' (s.heap.objs.size + 1) l2 0 → (∀ c o, s.heap.get? c = some o → h'.get? c = some o) → Q (.ref (s.heap.objs.size + 4)) { s with heap := h' }) :
    wpAny (model prog w) A (call (.type "zip") [.ref l1, .ref l2]) Q E s := by
  refine callType_new F.called_zip (by decide) (F.typeCall_zip_2 _ _) (F.newCall_zip_2 _ _) (fun obj => F.args_object_init_3 obj _ _) F.entry_zip_new (meets_zipQ t1 t2 l1 l2 xs ys) ⟨hl1, hl2, ?_⟩
  have s1 : (zq1 t1 s.heap l1).objs.size = s.heap.objs.size + 1 := Heap.size_push ..
  have s2 : (zq2 t1 t2 s.heap l1 l2).objs.size = s.heap.objs.size + 2 := by rw [Heap.size_push, s1]
  have s3 : (zq3 t1 t2 s.heap l1 l2).objs.size = s.heap.objs.size + 3 := by rw [Heap.size_push, s2]
  have s4 : (zq4 t1 t2 s.heap l1 l2).objs.size = s.heap.objs.size + 4 := by rw [Heap.size_push, s3]
  have up : ∀ {h : Heap} {o o' : Obj} {a : Addr}, h.get? a = some o → (h.push o').get? a = some o := fun e => Heap.get?_push_of_some _ e
  have g5 : (zq5 t1 t2 s.heap l1 l2).get? (zq4 t1 t2 s.heap l1 l2).objs.size = some _ := Heap.get?_push_size _ rfl
  have g4 : (zq5 t1 t2 s.heap l1 l2).get? (zq3 t1 t2 s.heap l1 l2).objs.size = some _ := up (Heap.get?_push_size _ rfl)
  have g3 : (zq5 t1 t2 s.heap l1 l2).get? (zq2 t1 t2 s.heap l1 l2).objs.size = some _ := up (up (Heap.get?_push_size _ rfl))
  have g2 : (zq5 t1 t2 s.heap l1 l2).get? (zq1 t1 s.heap l1).objs.size = some _ := up (up (up (Heap.get?_push_size _ rfl)))
  have g1 : (zq5 t1 t2 s.heap l1 l2).get? s.heap.objs.size = some _ := up (up (up (up (Heap.get?_push_size _ rfl))))
  show _ ∧ _
  rw [s2, s3, s4] at g5
  rw [s1, s2] at g3
  rw [s3] at g4
  rw [s1] at g2
  rw [s4]
  refine ⟨⟨_, g5, rfl⟩, h _ g5 g3 g4 ?_ ?_ fun c o x => up (up (up (up (up x))))⟩
  · cases t1
    · exact ⟨_, g1, rfl, rfl⟩
    · exact ⟨_, g1, rfl, rfl⟩
  · cases t2
    · exact ⟨_, g2, rfl, rfl⟩
    · exact ⟨_, g2, rfl, rfl⟩
def iZipQ (K : Frag) (ta : TA) : TI := fun σ H R => ta σ H fun vs H1 => ∃ a b xs ys t1 t2, vs = [.ref a, .ref b] ∧ SqQ K t1 H1 a xs ∧ SqQ K t2 H1 b ys ∧ R (ItzQ K t1 t2 a b) H1
theorem w_zipQ {X : Cx} {K : Frag} {e e2 : Expr} {ta : TA} {p pos tpos : Pos} {elts : List Expr} {kk : Nat} (hg : Gl X "zip") (hm : X.mg "zip" = none) (ha : PA X [e, e2] ta)
    (hs : starEach [e, e2] X.env = (false, eval e X.env) :: starEach [e2] X.env := by rfl) (hpl : (backTo pos (starEach [e2] X.env)).any (·.1) = false := by rfl) (hK : X.K = K := by rfl) : PI X (.Tuple elts kk tpos) (.Call (.Name "zip" p) [e, e2] [] pos) (iZipQ K ta) := by
  subst hK
  refine ⟨fun pins s σ H R I h => ?_⟩
  refine Call_ (ld_blt I hg hm PyProof.Rows.boot_zip (PyProof.Rows.callWith_type1 (thn (ha.run pos pins s σ H _ I h) fun us s1 ⟨vs, H1, I1, r1, q1⟩ => ?_) hs hpl))
  obtain ⟨a, b, xs, ys, t1, t2, rfl, hqx, hqy, q⟩ := q1
  cases r1 with
  | cons r rr =>
    cases rr with
    | cons r' rr =>
      cases rr
      cases r
      cases r'
      obtain ⟨n, hn⟩ : ∃ n, n = s1.heap.objs.size := ⟨_, rfl⟩
      have fresh5 : ∀ c, c ∈ [s1.heap.objs.size + 4, s1.heap.objs.size + 2, s1.heap.objs.size + 3, s1.heap.objs.size, s1.heap.objs.size + 1] → FpOk X pins H1 c := fun c hcm => by
        have hle : s1.heap.objs.size ≤ c := by
          have e' : c = s1.heap.objs.size + 4 ∨ c = s1.heap.objs.size + 2 ∨ c = s1.heap.objs.size + 3 ∨ c = s1.heap.objs.size ∨ c = s1.heap.objs.size + 1 := by simpa using hcm
          rw [← hn] at e' ⊢
          have e2 : c = n + 4 ∨ c = n + 2 ∨ c = n + 3 ∨ c = n ∨ c = n + 1 := e'
          rcases e2 with z | z | z | z | z <;> rw [z] <;> first | exact Nat.le_refl _ | exact Nat.le_add_right _ _
        exact I1.fpOk hle (I1.hok.fresh hle)
      obtain ⟨its, rv, p1⟩ := sqQ_seq I1 hqx
      obtain ⟨its2, rv2, p2⟩ := sqQ_seq I1 hqy
      obtain ⟨oa, ha1⟩ := p1.there
      obtain ⟨ob, hb1⟩ := p2.there
      have la : a < s1.heap.objs.size := Heap.lt_size ha1
      have lb : b < s1.heap.objs.size := Heap.lt_size hb1
      refine call_zipQ p1 p2 fun h' hz hTI hTO h1 h2 hk => wpAny_pyIter_zip hz ?_
      have I2 : Inv X pins σ H1 { s1 with heap := h' } := I1.kept (t' := s1.toks) hk
      refine ⟨s1.heap.objs.size + 4, [s1.heap.objs.size + 4, s1.heap.objs.size + 2, s1.heap.objs.size + 3, s1.heap.objs.size, s1.heap.objs.size + 1], _, _, H1, rfl, I2, turn_zipQ (Nat.ne_of_lt la) (Nat.ne_of_lt (Nat.lt_succ_of_lt lb)) ?_, ⟨hz, hTI, ⟨_, _, hTO⟩, h1, h2⟩, fresh5, q⟩
      have nea : ∀ k : Nat, s1.heap.objs.size + k ≠ a := fun k => Nat.ne_of_gt (Nat.lt_of_lt_of_le la (Nat.le_add_right _ _))
      have neb : ∀ k : Nat, s1.heap.objs.size + k ≠ b := fun k => Nat.ne_of_gt (Nat.lt_of_lt_of_le lb (Nat.le_add_right _ _))
      have ne : ∀ j k : Nat, j ≠ k → s1.heap.objs.size + j ≠ s1.heap.objs.size + k := fun j k h e => h (Nat.add_left_cancel e)
      have n0 : ∀ k : Nat, 0 ≠ k → s1.heap.objs.size ≠ s1.heap.objs.size + k := fun k h => ne 0 k h
      have nk : ∀ k : Nat, k ≠ 0 → s1.heap.objs.size + k ≠ s1.heap.objs.size := fun k h => ne k 0 h
      exact {
        TIz := ne 2 4 (by decide), TOz := ne 3 4 (by decide), TITO := ne 2 3 (by decide), TIi1 := nk 2 (by decide), mem1 := List.mem_cons_self
        zf1 := by
          intro z
          rcases List.mem_cons.mp z with z | z
          · exact nk 4 (by decide) z
          · exact nea 4 (List.mem_singleton.mp z)
        Tf1 := by
          intro z
          rcases List.mem_cons.mp z with z | z
          · exact nk 3 (by decide) z
          · exact nea 3 (List.mem_singleton.mp z)
        TIi2 := ne 2 1 (by decide), mem2 := List.mem_cons_self
        zf2 := by
          intro z
          rcases List.mem_cons.mp z with z | z
          · exact ne 4 1 (by decide) z
          · exact neb 4 (List.mem_singleton.mp z)
        Tf2 := by
          intro z
          rcases List.mem_cons.mp z with z | z
          · exact ne 3 1 (by decide) z
          · exact neb 3 (List.mem_singleton.mp z)
        sep1_2 := by
          intro z
          rcases List.mem_cons.mp z with z | z
          · exact n0 1 (by decide) z
          · exact neb 0 (List.mem_singleton.mp z)
        sep2_1 := by
          intro z
          rcases List.mem_cons.mp z with z | z
          · exact nk 1 (by decide) z
          · exact nea 1 (List.mem_singleton.mp z) }
section
variable {K : Frag} {ρ : En} {ta tb : TE} {ds es : List D} {d1 d2 : D}
theorem dp_seqQ {R H : Hp} {v : V} (hd : SeqD d1 ds) (h : Dp K R v d1) : ∃ (p : Addr) (vs : List V) (t : Bool), v = .ref p ∧ DpAll K R vs ds ∧ ∀ H', Same R H' → SqQ K t H' p vs := by
  rcases hd with rfl | rfl
  · cases h with
    | lst hs ha => exact ⟨_, _, false, rfl, ha, fun H' s => s.seq hs⟩
  · cases h with
    | tup hs ha => exact ⟨_, _, true, rfl, ha, fun H' s => sqt_mono s hs⟩
theorem id_zipQ (h1 : SeqD d1 ds) (h2 : SeqD d2 es) (ha : Ev K ta ρ d1) (hb : Ev K tb ρ d2) : Id K (iZipQ K (tCons ta (tCons tb tNil))) ρ (zipD ds es) := fun R0 H0 R σ H a Rr q =>
  ha R0 H0 R σ H a _ fun v R1 H1 g1 dv => hb R0 H0 R1 σ H1 (a.grow g1) _ fun w R2 H2 g2 dw => by
    obtain ⟨p, xs, t1, rfl, dx, kx⟩ := dp_seqQ (H := H1) h1 (dp_mono g2.rd _ _ dv)
    obtain ⟨p', ys, t2, rfl, dy, ky⟩ := dp_seqQ (H := H2) h2 dw
    have lx := dpa_len dx
    have ly := dpa_len dy
    refine ⟨p, p', xs, ys, t1, t2, rfl, kx H2 g2.sub, ky H2 g2.sub, q _ R2 H2 (g1.trans g2) fun R3 H3 s3 sh => ⟨fun i d e => ?_, ?_⟩⟩
    · obtain ⟨x, y, ex, ey, rfl⟩ := zipD_at e
      obtain ⟨v, f1, f2⟩ := dpa_get dx ex
      obtain ⟨w, f3, f4⟩ := dpa_get dy ey
      refine ⟨⟨xs, ys, v, w, kx _ (s3.trans sh), ky _ (s3.trans sh), f1, f3⟩, fun z H4 yl => ?_⟩
      obtain ⟨T, v', w', rfl, hT, rfl, y1, y2⟩ := yl
      have z1 := y1 xs (kx _ (s3.trans sh))
      have z2 := y2 ys (ky _ (s3.trans sh))
      rw [f1] at z1
      rw [f3] at z2
      cases z1
      cases z2
      have g := Grow.alloc (o := .tup [v, w]) sh hT
      exact ⟨_, g, .tup (SqT.of upd_same) (.cons (dp_mono (s3.trans g.rd) _ _ f2) (.cons (dp_mono (s3.trans g.rd) _ _ f4) .nil))⟩
    · refine ⟨xs, ys, kx _ (s3.trans sh), ky _ (s3.trans sh), ?_⟩
      rw [zipD_len]
      omega
end
end Pu
set_option maxRecDepth 100000
namespace Pu
open PySem PySem.Spec PyProof.Rows L2
/-! ### ways of dealing: the plain law -/
def qlist (ns : List Int) : List Rat := ns.map fun i : Int => (i : Rat)
def leAll : List Rat → List Rat → Prop
  | [], [] => True
  | x :: xs, y :: ys => x ≤ y ∧ leAll xs ys
  | _, _ => False
theorem leAll_len : ∀ {xs ys : List Rat}, leAll xs ys → xs.length = ys.length
  | [], [], _ => rfl
  | x :: xs, y :: ys, h => congrArg (· + 1) (leAll_len h.2)
  | [], y :: ys, h => h.elim
  | x :: xs, [], h => h.elim
theorem leAll_get : ∀ {xs ys : List Rat} {i : Nat} {x y : Rat}, leAll xs ys → xs[i]? = some x → ys[i]? = some y → x ≤ y
  | [], [], i, x, y, _, h, _ => by simp at h
  | x :: xs, y :: ys, 0, a, b, h, h1, h2 => by
    obtain rfl := Option.some.inj h1
    obtain rfl := Option.some.inj h2
    exact h.1
  | x :: xs, y :: ys, i + 1, a, b, h, h1, h2 => leAll_get (i := i) h.2 h1 h2
  | [], y :: ys, i, _, _, h, _, _ => h.elim
  | x :: xs, [], i, _, _, h, _, _ => h.elim
theorem leAll_of : ∀ {xs ys : List Rat}, xs.length = ys.length → (∀ (i : Nat) (x y : Rat), xs[i]? = some x → ys[i]? = some y → x ≤ y) → leAll xs ys
  | [], [], _, _ => trivial
  | x :: xs, y :: ys, hl, h => ⟨h 0 x y rfl rfl, leAll_of (Nat.succ.inj hl) fun i a b h1 h2 => h (i + 1) a b h1 h2⟩
  | [], y :: ys, hl, _ => absurd hl (by simp)
  | x :: xs, [], hl, _ => absurd hl (by simp)
def zeros (cs : List Rat) : List Rat := cs.map fun _ => 0
theorem zeros_sum : ∀ cs : List Rat, qsum (zeros cs) = 0
  | [] => rfl
  | c :: cs => by
    show (0 : Rat) + qsum (zeros cs) = 0
    rw [zeros_sum cs]
    exact Rat.add_zero 0
/-- a dealing: each from nought to its claim, the catch in sum -/
structure Dl (cs g : List Rat) (q : Rat) : Prop where
  lo : leAll (zeros cs) g
  hi : leAll g cs
  sum : qsum g = q
theorem Dl.len {cs g : List Rat} {q : Rat} (h : Dl cs g q) : g.length = cs.length := leAll_len h.hi
theorem Dl.get {cs g : List Rat} {q : Rat} (h : Dl cs g q) {i : Nat} {x c : Rat} (h1 : g[i]? = some x) (h2 : cs[i]? = some c) : 0 ≤ x ∧ x ≤ c := by
  refine ⟨leAll_get h.lo ?_ h1, leAll_get h.hi h1 h2⟩
  unfold zeros
  rw [List.getElem?_map, h2]
  rfl
theorem Dl.of {cs g : List Rat} {q : Rat} (hl : g.length = cs.length) (h : ∀ (i : Nat) (x c : Rat), g[i]? = some x → cs[i]? = some c → 0 ≤ x ∧ x ≤ c) (hs : qsum g = q) : Dl cs g q := by
  refine ⟨leAll_of (by unfold zeros; rw [List.length_map, hl]) fun i z x hz hx => ?_, leAll_of hl fun i x c hx hc => (h i x c hx hc).2, hs⟩
  unfold zeros at hz
  rw [List.getElem?_map] at hz
  cases e : cs[i]? with
  | none => rw [e] at hz; cases hz
  | some c =>
    rw [e] at hz
    obtain rfl := Option.some.inj hz
    exact (h i x c hx e).1
theorem qsum_nonneg : ∀ {xs : List Rat}, (∀ x ∈ xs, 0 ≤ x) → 0 ≤ qsum xs
  | [], _ => Rat.le_refl
  | x :: xs, h => by
    have := h x List.mem_cons_self
    have := qsum_nonneg (xs := xs) fun y hy => h y (List.mem_cons_of_mem _ hy)
    show 0 ≤ x + qsum xs
    grind
theorem qsum_reverse : ∀ xs : List Rat, qsum xs.reverse = qsum xs
  | [] => rfl
  | x :: xs => by
    rw [List.reverse_cons, qsum_append, qsum_reverse xs]
    show qsum xs + (x + 0) = x + qsum xs
    grind
theorem qsum_map_mul (k : Rat) : ∀ xs : List Rat, qsum (xs.map fun x => x * k) = qsum xs * k
  | [] => (Rat.zero_mul k).symm
  | x :: xs => by
    show x * k + qsum (xs.map fun x => x * k) = (x + qsum xs) * k
    rw [qsum_map_mul k xs, Rat.add_mul]
theorem qsum_perm {xs ys : List Rat} (h : xs.Perm ys) : qsum xs = qsum ys := by
  induction h with
  | nil => rfl
  | cons x _ ih => show x + _ = x + _; rw [ih]
  | swap x y l => show y + (x + qsum l) = x + (y + qsum l); grind
  | trans _ _ h1 h2 => rw [h1, h2]
/-! #### one behind the other -/
def rowD : List Rat → Rat → List Rat
  | [], _ => []
  | c :: r, q => (if q < c then q else c) :: rowD r (q - if q < c then q else c)
/-- the same, claim by claim -/
def clip (c q : Rat) : Rat := if q < 0 then 0 else if c < q then c else q
def fillD : Rat → List Rat → Rat → List Rat
  | _, [], _ => []
  | a, c :: r, q => clip c (q - a) :: fillD (a + c) r q
theorem clip_b {c q : Rat} (h : 0 ≤ c) : 0 ≤ clip c q ∧ clip c q ≤ c := by
  unfold clip
  split
  · exact ⟨Rat.le_refl, h⟩
  · split
    · exact ⟨h, Rat.le_refl⟩
    · constructor <;> grind
theorem fillD_len : ∀ (cs : List Rat) (a q : Rat), (fillD a cs q).length = cs.length
  | [], _, _ => rfl
  | c :: r, a, q => congrArg (· + 1) (fillD_len r (a + c) q)
theorem fillD_low : ∀ (cs : List Rat) (a q : Rat), (∀ c ∈ cs, 0 ≤ c) → q ≤ a → qsum (fillD a cs q) = 0
  | [], _, _, _, _ => rfl
  | c :: r, a, q, h, hq => by
    have hc := h c List.mem_cons_self
    show clip c (q - a) + qsum (fillD (a + c) r q) = 0
    rw [fillD_low r (a + c) q (fun x hx => h x (List.mem_cons_of_mem _ hx)) (by grind)]
    unfold clip
    split <;> grind
theorem fillD_sum : ∀ (cs : List Rat) (a q : Rat), (∀ c ∈ cs, 0 ≤ c) → a ≤ q → q ≤ a + qsum cs → qsum (fillD a cs q) = q - a
  | [], a, q, _, h1, h2 => by
    have h2' : q ≤ a + 0 := h2
    show (0 : Rat) = q - a
    grind
  | c :: r, a, q, h, h1, h2 => by
    have hc := h c List.mem_cons_self
    have hr : ∀ x ∈ r, 0 ≤ x := fun x hx => h x (List.mem_cons_of_mem _ hx)
    have h2' : q ≤ a + (c + qsum r) := h2
    show clip c (q - a) + qsum (fillD (a + c) r q) = q - a
    by_cases z : q ≤ a + c
    · rw [fillD_low r (a + c) q hr z]
      unfold clip
      split <;> (try split) <;> grind
    · rw [fillD_sum r (a + c) q hr (by grind) (by grind)]
      unfold clip
      split <;> (try split) <;> grind
theorem fillD_at : ∀ (cs : List Rat) (a q : Rat) (i : Nat) (x : Rat), (fillD a cs q)[i]? = some x → ∃ c, cs[i]? = some c ∧ x = clip c (q - (a + qsum (cs.take i)))
  | [], _, _, i, x, h => by simp [fillD] at h
  | c :: r, a, q, 0, x, h => by
    obtain rfl := Option.some.inj h
    exact ⟨c, rfl, by show clip c (q - a) = clip c (q - (a + 0)); rw [Rat.add_zero]⟩
  | c :: r, a, q, i + 1, x, h => by
    obtain ⟨d, h1, h2⟩ := fillD_at r (a + c) q i x h
    refine ⟨d, h1, ?_⟩
    rw [h2]
    show clip d (q - (a + c + qsum (r.take i))) = clip d (q - (a + (c + qsum (r.take i))))
    rw [Rat.add_assoc]
theorem rowD_fill : ∀ (cs : List Rat) (a q l : Rat), (∀ c ∈ cs, 0 ≤ c) → l = (if q - a < 0 then 0 else q - a) → rowD cs l = fillD a cs q
  | [], _, _, _, _, _ => rfl
  | c :: r, a, q, l, h, hl => by
    have hc := h c List.mem_cons_self
    show (if l < c then l else c) :: rowD r (l - if l < c then l else c) = clip c (q - a) :: fillD (a + c) r q
    have e1 : (if l < c then l else c) = clip c (q - a) := by
      rw [hl]
      unfold clip
      split <;> split <;> (try split) <;> grind
    rw [rowD_fill r (a + c) q _ (fun x hx => h x (List.mem_cons_of_mem _ hx)), e1]
    rw [e1, hl]
    unfold clip
    split <;> (try split) <;> (try split) <;> grind
theorem rowD_is {cs : List Rat} {q : Rat} (h : ∀ c ∈ cs, 0 ≤ c) (hq : 0 ≤ q) : rowD cs q = fillD 0 cs q := rowD_fill cs 0 q q h (by rw [if_neg (by grind)]; grind)
theorem rowD_ok {cs : List Rat} {q : Rat} (h : ∀ c ∈ cs, 0 ≤ c) (h0 : 0 ≤ q) (h1 : q ≤ qsum cs) : Dl cs (rowD cs q) q := by
  rw [rowD_is h h0]
  refine Dl.of (fillD_len cs 0 q) (fun i x c hx hc => ?_) (by rw [fillD_sum cs 0 q h h0 (by grind)]; grind)
  obtain ⟨d, h1, rfl⟩ := fillD_at cs 0 q i x hx
  rw [hc] at h1
  obtain rfl := Option.some.inj h1
  exact clip_b (h c (List.mem_of_getElem? hc))
/-! #### orders by insertion -/
def insF (le : Nat → Nat → Bool) (x : Nat) : List Nat → List Nat
  | [] => [x]
  | y :: r => if le y x then y :: insF le x r else x :: y :: r
def byF (le : Nat → Nat → Bool) (n : Nat) : List Nat := (List.range n).foldl (fun s x => insF le x s) []
theorem insF_perm (le : Nat → Nat → Bool) (x : Nat) : ∀ s : List Nat, (insF le x s).Perm (x :: s)
  | [] => List.Perm.refl _
  | y :: r => by
    unfold insF
    split
    · exact ((insF_perm le x r).cons y).trans (List.Perm.swap x y r)
    · exact List.Perm.refl _
theorem insF_sorted {le : Nat → Nat → Bool} {x : Nat} (ok : Nat → Prop) (tr : ∀ a b c, ok a → ok b → ok c → le a b = true → le b c = true → le a c = true) (tot : ∀ a b, le a b = false → le b a = true) (hx : ok x) :
    ∀ s : List Nat, (∀ y ∈ s, ok y) → s.Pairwise (fun a b => le a b = true) → (insF le x s).Pairwise (fun a b => le a b = true)
  | [], _, _ => List.pairwise_singleton _ _
  | y :: r, hs, h => by
    have hy := hs y List.mem_cons_self
    obtain ⟨h1, h2⟩ := List.pairwise_cons.mp h
    unfold insF
    split
    · rename_i z
      refine List.pairwise_cons.mpr ⟨fun b hb => ?_, insF_sorted ok tr tot hx r (fun a ha => hs a (List.mem_cons_of_mem _ ha)) h2⟩
      rcases List.mem_cons.mp ((insF_perm le x r).mem_iff.mp hb) with rfl | hb
      · exact z
      · exact h1 b hb
    · rename_i z
      have z' := tot y x (by simpa using z)
      refine List.pairwise_cons.mpr ⟨fun b hb => ?_, h⟩
      rcases List.mem_cons.mp hb with rfl | hb
      · exact z'
      · exact tr x y b hx hy (hs b (List.mem_cons_of_mem _ hb)) z' (h1 b hb)
theorem byF_succ (le : Nat → Nat → Bool) (n : Nat) : byF le (n + 1) = insF le n (byF le n) := by
  unfold byF
  rw [List.range_succ, List.foldl_append]
  rfl
theorem byF_perm (le : Nat → Nat → Bool) : ∀ n, (byF le n).Perm (List.range n)
  | 0 => List.Perm.refl _
  | n + 1 => by
    rw [byF_succ, List.range_succ]
    exact (insF_perm le n _).trans (((byF_perm le n).cons n).trans (by
      have := List.perm_append_comm (l₁ := [n]) (l₂ := List.range n)
      exact this))
theorem byF_sorted {le : Nat → Nat → Bool} (ok : Nat → Prop) (tr : ∀ a b c, ok a → ok b → ok c → le a b = true → le b c = true → le a c = true) (tot : ∀ a b, le a b = false → le b a = true) : ∀ n, (∀ i, i < n → ok i) → (byF le n).Pairwise (fun a b => le a b = true)
  | 0, _ => List.Pairwise.nil
  | n + 1, h => by
    rw [byF_succ]
    refine insF_sorted ok tr tot (h n (Nat.lt_succ_self n)) _ (fun y hy => h y ?_) (byF_sorted ok tr tot n fun i hi => h i (Nat.lt_succ_of_lt hi))
    have := List.mem_range.mp ((byF_perm le n).mem_iff.mp hy)
    omega
theorem byF_len (le : Nat → Nat → Bool) (n : Nat) : (byF le n).length = n := by rw [(byF_perm le n).length_eq, List.length_range]
/-! #### levels -/
def lvl (w c l : Rat) : Rat := if w * l < c then w * l else c
def lvls (ws cs : List Rat) (l : Rat) : List Rat := List.zipWith (fun w c => lvl w c l) ws cs
theorem lvl_b {w c l : Rat} (hw : 0 < w) (hc : 0 ≤ c) (hl : 0 ≤ l) : 0 ≤ lvl w c l ∧ lvl w c l ≤ c := by
  have := Rat.mul_nonneg (Rat.le_of_lt hw) hl
  unfold lvl
  split <;> constructor <;> grind
theorem lvls_at {ws cs : List Rat} {l x : Rat} {i : Nat} (h : (lvls ws cs l)[i]? = some x) : ∃ w c, ws[i]? = some w ∧ cs[i]? = some c ∧ x = lvl w c l := by
  unfold lvls at h
  rw [List.getElem?_zipWith] at h
  cases h1 : ws[i]? with
  | none => rw [h1] at h; simp at h
  | some w =>
    cases h2 : cs[i]? with
    | none => rw [h1, h2] at h; simp at h
    | some c =>
      rw [h1, h2] at h
      exact ⟨w, c, rfl, rfl, (Option.some.inj h).symm⟩
theorem lvls_of {ws cs : List Rat} {l w c : Rat} {i : Nat} (h1 : ws[i]? = some w) (h2 : cs[i]? = some c) : (lvls ws cs l)[i]? = some (lvl w c l) := by
  unfold lvls
  rw [List.getElem?_zipWith, h1, h2]
theorem lvls_len {ws cs : List Rat} {l : Rat} (h : ws.length = cs.length) : (lvls ws cs l).length = cs.length := by
  unfold lvls
  rw [List.length_zipWith, h, Nat.min_self]
/-- the program's way to the level -/
def gD (xs : List Rat) (i : Nat) : Rat := xs.getD i 0
def fullLe (ws cs : List Rat) (i j : Nat) : Bool := decide (gD cs i * gD ws j ≤ gD cs j * gD ws i)
def fillAll (ws : List Rat) (l : Rat) (s : List Rat) (ps : List Nat) : List Rat := ps.foldl (fun s o => s.set o (gD ws o * l)) s
def evenGo (ws cs : List Rat) : List Nat → Rat → Rat → List Rat → List Rat
  | [], _, _, s => s
  | p :: r, left, rest, s => if gD ws p * left < gD cs p * rest then fillAll ws (left / rest) s (p :: r) else evenGo ws cs r (left - gD cs p) (rest - gD ws p) s
def evenD (ws cs : List Rat) (q : Rat) : List Rat := evenGo ws cs (byF (fullLe ws cs) cs.length) q (qsum ws) cs
theorem fillAll_len (ws : List Rat) (l : Rat) : ∀ (ps : List Nat) (s : List Rat), (fillAll ws l s ps).length = s.length
  | [], s => rfl
  | p :: r, s => by
    show (fillAll ws l (s.set p _) r).length = _
    rw [fillAll_len ws l r, List.length_set]
theorem fillAll_at (ws : List Rat) (l : Rat) : ∀ (ps : List Nat) (s : List Rat) (i : Nat), i < s.length → (fillAll ws l s ps)[i]? = if i ∈ ps then some (gD ws i * l) else s[i]?
  | [], s, i, _ => by rw [if_neg (by simp)]; rfl
  | p :: r, s, i, hi => by
    show (fillAll ws l (s.set p _) r)[i]? = _
    rw [fillAll_at ws l r _ i (by rw [List.length_set]; exact hi)]
    by_cases h1 : i ∈ r
    · rw [if_pos h1, if_pos (List.mem_cons_of_mem _ h1)]
    · rw [if_neg h1]
      by_cases h2 : i = p
      · subst h2
        rw [if_pos List.mem_cons_self, List.getElem?_set_self hi]
      · rw [if_neg (by
          intro z
          rcases List.mem_cons.mp z with z | z
          · exact h2 z
          · exact h1 z), List.getElem?_set_ne (fun z => h2 z.symm)]
def psum (f : Nat → Rat) (ps : List Nat) : Rat := qsum (ps.map f)
theorem psum_cons (f : Nat → Rat) (p : Nat) (r : List Nat) : psum f (p :: r) = f p + psum f r := rfl
theorem psum_mul (f : Nat → Rat) (k : Rat) (ps : List Nat) : psum (fun p => f p * k) ps = psum f ps * k := by
  unfold psum
  rw [← qsum_map_mul, List.map_map]
  rfl
theorem psum_congr {f g : Nat → Rat} {ps : List Nat} (h : ∀ p ∈ ps, f p = g p) : psum f ps = psum g ps := by
  unfold psum
  rw [List.map_congr_left h]
theorem psum_pos {f : Nat → Rat} : ∀ {ps : List Nat}, (∀ p ∈ ps, 0 < f p) → ps ≠ [] → 0 < psum f ps
  | [], _, h => absurd rfl h
  | [p], h, _ => by
    have := h p List.mem_cons_self
    show 0 < f p + 0
    grind
  | p :: q :: r, h, _ => by
    have h1 := h p List.mem_cons_self
    have h2 := psum_pos (ps := q :: r) (fun x hx => h x (List.mem_cons_of_mem _ hx)) (by simp)
    rw [psum_cons]
    grind
theorem div_le' {a b k : Rat} (h : 0 < b) (e : a ≤ k * b) : a / b ≤ k := by
  apply Rat.not_lt.mp
  intro z
  have := Rat.mul_lt_mul_of_pos_right z h
  rw [Rat.div_mul_cancel (by grind)] at this
  grind
theorem div_nonneg' {a b : Rat} (h : 0 < b) (e : 0 ≤ a) : 0 ≤ a / b := by
  rw [Rat.div_def]
  exact Rat.mul_nonneg e (Rat.le_of_lt (Rat.inv_pos.mpr h))
theorem le_of_mul {a b k : Rat} (h : 0 < k) (e : a * k ≤ b * k) : a ≤ b := by
  apply Rat.not_lt.mp
  intro z
  have := Rat.mul_lt_mul_of_pos_right z h
  grind
theorem lt_of_mul {a b k : Rat} (h : 0 < k) (e : a * k < b * k) : a < b := by
  apply Rat.not_le.mp
  intro z
  have := Rat.mul_le_mul_of_nonneg_right z (Rat.le_of_lt h)
  grind
theorem evenGo_ok (ws cs : List Rat) (hn : ws.length = cs.length) : ∀ (ps : List Nat) (left rest : Rat) (s : List Rat), s.length = cs.length → (∀ p ∈ ps, p < cs.length ∧ 0 < gD ws p ∧ 0 ≤ gD cs p) → ps.Nodup → ps.Pairwise (fun a b => fullLe ws cs a b = true) → (∀ p ∈ ps, s[p]? = some (gD cs p)) →
    rest = psum (gD ws) ps → 0 ≤ left → left ≤ psum (gD cs) ps → ps ≠ [] →
    ∃ l, 0 ≤ l ∧ left ≤ l * rest ∧ (evenGo ws cs ps left rest s).length = cs.length ∧ (∀ i, i < cs.length → (evenGo ws cs ps left rest s)[i]? = if i ∈ ps then some (lvl (gD ws i) (gD cs i) l) else s[i]?) ∧ psum (fun p => lvl (gD ws p) (gD cs p) l) ps = left
  | [], _, _, _, _, _, _, _, _, _, _, _, h => absurd rfl h
  | p :: r, left, rest, s, hs, hp, hnd, hsort, hsat, hrest, h0, h1, _ => by
    obtain ⟨p1, p2, p3⟩ := hp p List.mem_cons_self
    have hr : ∀ x ∈ r, x < cs.length ∧ 0 < gD ws x ∧ 0 ≤ gD cs x := fun x hx => hp x (List.mem_cons_of_mem _ hx)
    obtain ⟨n1, n2⟩ := List.nodup_cons.mp hnd
    obtain ⟨s1, s2⟩ := List.pairwise_cons.mp hsort
    have hrp : 0 < rest := by
      rw [hrest]
      exact psum_pos (fun x hx => (hp x hx).2.1) (by simp)
    rw [psum_cons] at h1
    have hrest' : rest = gD ws p + psum (gD ws) r := hrest
    unfold evenGo
    by_cases hstop : gD ws p * left < gD cs p * rest
    · rw [if_pos hstop]
      have e0 : left / rest * rest = left := Rat.div_mul_cancel (by grind)
      have hl0 : 0 ≤ left / rest := div_nonneg' hrp h0
      have key : ∀ x ∈ p :: r, gD ws x * (left / rest) < gD cs x := fun x hx => by
        obtain ⟨x1, x2, x3⟩ := hp x hx
        have hpx : gD ws p * (left / rest) < gD cs p := lt_of_mul hrp (by rw [Rat.mul_assoc, e0]; exact hstop)
        rcases List.mem_cons.mp hx with rfl | hxr
        · exact hpx
        · have hle : gD cs p * gD ws x ≤ gD cs x * gD ws p := of_decide_eq_true (s1 x hxr)
          have a1 := Rat.mul_lt_mul_of_pos_right hpx x2
          exact lt_of_mul p2 (by grind)
      refine ⟨left / rest, hl0, by rw [e0]; exact Rat.le_refl, by rw [fillAll_len, hs], fun i hi => ?_, ?_⟩
      · rw [fillAll_at ws _ _ s i (by omega)]
        by_cases hm : i ∈ p :: r
        · rw [if_pos hm, if_pos hm]
          unfold lvl
          rw [if_pos (key i hm)]
        · rw [if_neg hm, if_neg hm]
      · have e : psum (fun x => lvl (gD ws x) (gD cs x) (left / rest)) (p :: r) = psum (fun x => gD ws x * (left / rest)) (p :: r) := psum_congr fun x hx => by
          unfold lvl
          rw [if_pos (key x hx)]
        rw [e, psum_mul, ← hrest, Rat.mul_comm, e0]
    · rw [if_neg hstop]
      have hfill : gD cs p * rest ≤ gD ws p * left := Rat.not_lt.mp hstop
      cases r with
      | nil =>
        have er : rest = gD ws p := by rw [hrest']; show _ + (0 : Rat) = _; grind
        have el : left = gD cs p := by
          have a : left ≤ gD cs p + 0 := h1
          rw [er] at hfill
          have := le_of_mul p2 (a := gD cs p) (b := left) (by grind)
          grind
        have e0 : gD cs p / gD ws p * gD ws p = gD cs p := Rat.div_mul_cancel (by grind)
        have ev : lvl (gD ws p) (gD cs p) (gD cs p / gD ws p) = gD cs p := by
          unfold lvl
          rw [if_neg (by grind)]
        refine ⟨gD cs p / gD ws p, div_nonneg' p2 p3, by rw [er, e0, el]; exact Rat.le_refl, hs, fun i hi => ?_, ?_⟩
        · show s[i]? = _
          by_cases hm : i = p
          · subst hm
            rw [if_pos List.mem_cons_self, hsat i List.mem_cons_self, ev]
          · rw [if_neg (by simpa using hm)]
        · show lvl (gD ws p) (gD cs p) _ + 0 = left
          rw [ev, el]
          grind
      | cons p' r' =>
        have hrr : 0 < rest - gD ws p := by
          have := psum_pos (f := gD ws) (ps := p' :: r') (fun x hx => (hr x hx).2.1) (by simp)
          grind
        have hlc : gD cs p ≤ left := by
          have a1 : gD ws p ≤ rest := by grind
          have a2 := Rat.mul_le_mul_of_nonneg_left a1 p3
          exact le_of_mul p2 (by grind)
        obtain ⟨l, l0, l1, l2, l3, l4⟩ := evenGo_ok ws cs hn (p' :: r') (left - gD cs p) (rest - gD ws p) s hs hr n2 s2 (fun x hx => hsat x (List.mem_cons_of_mem _ hx)) (by grind) (by grind) (by grind) (by simp)
        have hcl : gD cs p ≤ gD ws p * l := by
          -- c * (rest - w) ≤ w * (left - c) ≤ w * l * (rest - w)
          have a1 : gD cs p * (rest - gD ws p) ≤ gD ws p * (left - gD cs p) := by grind
          have a2 := Rat.mul_le_mul_of_nonneg_left l1 (Rat.le_of_lt p2)
          exact le_of_mul hrr (by grind)
        have ev : lvl (gD ws p) (gD cs p) l = gD cs p := by
          unfold lvl
          rw [if_neg (by grind)]
        refine ⟨l, l0, by grind, l2, fun i hi => ?_, by rw [psum_cons, l4, ev]; grind⟩
        rw [l3 i hi]
        by_cases hm : i ∈ p' :: r'
        · rw [if_pos hm, if_pos (List.mem_cons_of_mem _ hm)]
        · rw [if_neg hm]
          by_cases hp' : i = p
          · subst hp'
            rw [if_pos List.mem_cons_self, ev]
            exact hsat i List.mem_cons_self
          · rw [if_neg (by
              intro z
              rcases List.mem_cons.mp z with z | z
              · exact hp' z
              · exact hm z)]
theorem gD_at {xs : List Rat} {i : Nat} {x : Rat} (h : xs[i]? = some x) : gD xs i = x := by
  unfold gD
  rw [List.getD_eq_getElem?_getD, h]
  rfl
theorem at_gD {xs : List Rat} {i : Nat} (h : i < xs.length) : xs[i]? = some (gD xs i) := by
  unfold gD
  rw [List.getD_eq_getElem?_getD, List.getElem?_eq_getElem h]
  rfl
theorem qsum_range (xs : List Rat) : psum (gD xs) (List.range xs.length) = qsum xs := by
  unfold psum
  congr 1
  apply List.ext_getElem?
  intro i
  rw [List.getElem?_map]
  by_cases h : i < xs.length
  · rw [List.getElem?_range h, at_gD h]
    rfl
  · rw [List.getElem?_eq_none (by rw [List.length_range]; omega), List.getElem?_eq_none (by omega)]
    rfl
/-- weights that fit: one for each claim, above nought -/
structure WOk (ws cs : List Rat) : Prop where
  len : ws.length = cs.length
  pos : ∀ w ∈ ws, 0 < w
  nn : ∀ c ∈ cs, 0 ≤ c
theorem evenD_level {ws cs : List Rat} {q : Rat} (h : WOk ws cs) (h0 : 0 ≤ q) (h1 : q ≤ qsum cs) (hne : cs ≠ []) : ∃ l, 0 ≤ l ∧ evenD ws cs q = lvls ws cs l ∧ qsum (evenD ws cs q) = q := by
  have hpos : ∀ i, i < cs.length → 0 < gD ws i := fun i hi => h.pos _ (List.mem_of_getElem? (at_gD (by rw [h.len]; exact hi)))
  have hnn : ∀ i, i < cs.length → 0 ≤ gD cs i := fun i hi => h.nn _ (List.mem_of_getElem? (at_gD hi))
  have hperm := byF_perm (fullLe ws cs) cs.length
  have hmem : ∀ p, p ∈ byF (fullLe ws cs) cs.length ↔ p < cs.length := fun p => by rw [hperm.mem_iff, List.mem_range]
  have hsort := byF_sorted (le := fullLe ws cs) (fun i => i < cs.length) (fun a b c ha hb hc h1 h2 => by
    have e1 : gD cs a * gD ws b ≤ gD cs b * gD ws a := of_decide_eq_true h1
    have e2 : gD cs b * gD ws c ≤ gD cs c * gD ws b := of_decide_eq_true h2
    refine decide_eq_true (le_of_mul (hpos b hb) ?_)
    have f1 := Rat.mul_le_mul_of_nonneg_right e1 (Rat.le_of_lt (hpos c hc))
    have f2 := Rat.mul_le_mul_of_nonneg_right e2 (Rat.le_of_lt (hpos a ha))
    grind) (fun a b h1 => by
    have e1 := of_decide_eq_false h1
    exact decide_eq_true (Rat.le_of_lt (Rat.not_le.mp e1))) cs.length fun i hi => hi
  have hsum : ∀ f : Nat → Rat, psum f (byF (fullLe ws cs) cs.length) = psum f (List.range cs.length) := fun f => qsum_perm (hperm.map f)
  obtain ⟨l, l0, _, l2, l3, l4⟩ := evenGo_ok ws cs h.len (byF (fullLe ws cs) cs.length) q (qsum ws) cs rfl (fun p hp => ⟨(hmem p).mp hp, hpos p ((hmem p).mp hp), hnn p ((hmem p).mp hp)⟩) (hperm.nodup_iff.mpr List.nodup_range) hsort (fun p hp => at_gD ((hmem p).mp hp)) (by rw [hsum, ← h.len, qsum_range]) h0 (by rw [hsum, qsum_range]; exact h1) (fun z => by
    have := byF_len (fullLe ws cs) cs.length
    rw [z] at this
    exact hne (List.eq_nil_of_length_eq_zero this.symm))
  have he : evenD ws cs q = lvls ws cs l := by
    apply List.ext_getElem?
    intro i
    by_cases hi : i < cs.length
    · show (evenGo ws cs _ q (qsum ws) cs)[i]? = _
      rw [l3 i hi, if_pos ((hmem i).mpr hi), lvls_of (at_gD (by rw [h.len]; exact hi)) (at_gD hi)]
    · rw [List.getElem?_eq_none (by show (evenGo ws cs _ q (qsum ws) cs).length ≤ i; rw [l2]; omega), List.getElem?_eq_none (by rw [lvls_len h.len]; omega)]
  refine ⟨l, l0, he, ?_⟩
  rw [he, ← l4, hsum, ← qsum_range (lvls ws cs l), lvls_len h.len]
  refine psum_congr fun i hi => ?_
  have hi' := List.mem_range.mp hi
  exact gD_at (lvls_of (at_gD (by rw [h.len]; exact hi')) (at_gD hi'))
theorem evenD_ok {ws cs : List Rat} {q : Rat} (h : WOk ws cs) (h0 : 0 ≤ q) (h1 : q ≤ qsum cs) (hne : cs ≠ []) : Dl cs (evenD ws cs q) q := by
  obtain ⟨l, l0, e, s⟩ := evenD_level h h0 h1 hne
  refine Dl.of (by rw [e, lvls_len h.len]) (fun i x c hx hc => ?_) s
  rw [e] at hx
  obtain ⟨w, d, h2, h3, rfl⟩ := lvls_at hx
  rw [hc] at h3
  obtain rfl := Option.some.inj h3
  exact lvl_b (h.pos w (List.mem_of_getElem? h2)) (h.nn c (List.mem_of_getElem? hc)) l0
/-! #### what lacks -/
def lackD (cs gs : List Rat) : List Rat := List.zipWith (fun c g => c - g) cs gs
theorem lackD_at {cs gs : List Rat} {i : Nat} {x : Rat} (h : (lackD cs gs)[i]? = some x) : ∃ c g, cs[i]? = some c ∧ gs[i]? = some g ∧ x = c - g := by
  unfold lackD at h
  rw [List.getElem?_zipWith] at h
  cases h1 : cs[i]? with
  | none => rw [h1] at h; simp at h
  | some c =>
    cases h2 : gs[i]? with
    | none => rw [h1, h2] at h; simp at h
    | some g =>
      rw [h1, h2] at h
      exact ⟨c, g, rfl, rfl, (Option.some.inj h).symm⟩
theorem lackD_len {cs gs : List Rat} (h : gs.length = cs.length) : (lackD cs gs).length = cs.length := by
  unfold lackD
  rw [List.length_zipWith, h, Nat.min_self]
theorem lackD_sum : ∀ {cs gs : List Rat}, gs.length = cs.length → qsum (lackD cs gs) = qsum cs - qsum gs
  | [], [], _ => by show (0 : Rat) = 0 - 0; rw [Rat.sub_self]
  | c :: cs, g :: gs, h => by
    show c - g + qsum (lackD cs gs) = c + qsum cs - (g + qsum gs)
    rw [lackD_sum (Nat.succ.inj h)]
    grind
  | [], g :: gs, h => absurd h (by simp)
  | c :: cs, [], h => absurd h (by simp)
theorem lackD_ok {cs gs : List Rat} {q : Rat} (h : Dl cs gs q) : Dl cs (lackD cs gs) (qsum cs - q) := by
  refine Dl.of (lackD_len h.len) (fun i x c hx hc => ?_) (by rw [lackD_sum h.len, h.sum])
  obtain ⟨d, g, h1, h2, rfl⟩ := lackD_at hx
  rw [hc] at h1
  obtain rfl := Option.some.inj h1
  obtain ⟨b1, b2⟩ := h.get h2 hc
  constructor <;> grind
/-! #### parts, halves -/
def partD (cs : List Rat) (q : Rat) : List Rat := if qsum cs = 0 then zeros cs else cs.map fun c => c / qsum cs * q
theorem qsum_zero : ∀ {cs : List Rat}, (∀ c ∈ cs, 0 ≤ c) → qsum cs = 0 → ∀ c ∈ cs, c = 0
  | [], _, _, c, h => nomatch h
  | x :: xs, hn, hs, c, h => by
    have a1 := hn x List.mem_cons_self
    have hr : ∀ c ∈ xs, 0 ≤ c := fun c hc => hn c (List.mem_cons_of_mem _ hc)
    have a2 := qsum_nonneg hr
    have hs' : x + qsum xs = 0 := hs
    rcases List.mem_cons.mp h with rfl | h
    · grind
    · exact qsum_zero hr (by grind) c h
theorem partD_map {cs : List Rat} {q : Rat} (hn : ∀ c ∈ cs, 0 ≤ c) : partD cs q = cs.map fun c => c * (q / qsum cs) := by
  unfold partD
  split
  · rename_i h
    unfold zeros
    exact List.map_congr_left fun c hc => by rw [qsum_zero hn h c hc, Rat.zero_mul]
  · exact List.map_congr_left fun c _ => by rw [Rat.div_def, Rat.div_def, Rat.mul_assoc, Rat.mul_comm q]
theorem partD_ok {cs : List Rat} {q : Rat} (hn : ∀ c ∈ cs, 0 ≤ c) (h0 : 0 ≤ q) (h1 : q ≤ qsum cs) : Dl cs (partD cs q) q := by
  rw [partD_map hn]
  have hw := qsum_nonneg hn
  by_cases hz : qsum cs = 0
  · have hq : q = 0 := by grind
    have e : cs.map (fun c => c * (q / qsum cs)) = zeros cs := by
      unfold zeros
      exact List.map_congr_left fun c hc => by rw [qsum_zero hn hz c hc, Rat.zero_mul]
    rw [e, hq]
    refine Dl.of (by unfold zeros; rw [List.length_map]) (fun i x c hx hc => ?_) (zeros_sum cs)
    unfold zeros at hx
    rw [List.getElem?_map, hc] at hx
    obtain rfl := Option.some.inj hx
    exact ⟨Rat.le_refl, hn c (List.mem_of_getElem? hc)⟩
  · have hp : 0 < qsum cs := by grind
    have t0 := div_nonneg' hp h0
    have t1 : q / qsum cs ≤ 1 := div_le' hp (by grind)
    refine Dl.of (by rw [List.length_map]) (fun i x c hx hc => ?_) (by rw [qsum_map_mul, Rat.mul_comm, Rat.div_mul_cancel hz])
    rw [List.getElem?_map, hc] at hx
    obtain rfl := Option.some.inj hx
    have c0 := hn c (List.mem_of_getElem? hc)
    have a2 := Rat.mul_le_mul_of_nonneg_left t1 c0
    exact ⟨Rat.mul_nonneg c0 t0, by grind⟩
def ones (cs : List Rat) : List Rat := cs.map fun _ => 1
def hv (xs : List Rat) : List Rat := xs.map fun x => 1 / 2 * x
def halfD (cs : List Rat) (q : Rat) : List Rat := if qsum cs < q + q then lackD cs (hv (evenD (ones cs) cs (qsum cs + qsum cs - (q + q)))) else hv (evenD (ones cs) cs (q + q))
theorem ones_ok {cs : List Rat} (hn : ∀ c ∈ cs, 0 ≤ c) : WOk (ones cs) cs := ⟨by unfold ones; rw [List.length_map], fun w hw => by
  obtain ⟨_, _, rfl⟩ := List.mem_map.mp hw
  decide, hn⟩
theorem hv_sum (xs : List Rat) : qsum (hv xs) = 1 / 2 * qsum xs := by
  have := qsum_map_mul (1 / 2) xs
  rw [Rat.mul_comm, ← this]
  unfold hv
  congr 1
  exact List.map_congr_left fun x _ => Rat.mul_comm _ _
theorem hv_at {xs : List Rat} {i : Nat} {x : Rat} (h : (hv xs)[i]? = some x) : ∃ y, xs[i]? = some y ∧ x = 1 / 2 * y := by
  unfold hv at h
  rw [List.getElem?_map] at h
  cases e : xs[i]? with
  | none => rw [e] at h; cases h
  | some y => rw [e] at h; exact ⟨y, rfl, (Option.some.inj h).symm⟩
theorem hv_len (xs : List Rat) : (hv xs).length = xs.length := List.length_map _
theorem half_dl {cs g : List Rat} {q : Rat} (hn : ∀ c ∈ cs, 0 ≤ c) (h : Dl cs g (q + q)) : Dl cs (hv g) q := by
  refine Dl.of (by rw [hv_len, h.len]) (fun i x c hx hc => ?_) (by rw [hv_sum, h.sum]; grind)
  obtain ⟨y, hy, rfl⟩ := hv_at hx
  obtain ⟨b1, b2⟩ := h.get hy hc
  have := hn c (List.mem_of_getElem? hc)
  constructor <;> grind
theorem halfD_ok {cs : List Rat} {q : Rat} (hn : ∀ c ∈ cs, 0 ≤ c) (h0 : 0 ≤ q) (h1 : q ≤ qsum cs) (hne : cs ≠ []) : Dl cs (halfD cs q) q := by
  unfold halfD
  split
  · rename_i h
    have e := evenD_ok (q := qsum cs + qsum cs - (q + q)) (ones_ok hn) (by grind) (by grind) hne
    have e' := half_dl (q := qsum cs - q) hn (by rw [show qsum cs - q + (qsum cs - q) = qsum cs + qsum cs - (q + q) by grind]; exact e)
    have := lackD_ok e'
    rw [show qsum cs - (qsum cs - q) = q by grind] at this
    exact this
  · exact half_dl hn (evenD_ok (ones_ok hn) (by grind) (by grind) hne)
/-! #### the six ways -/
inductive Wy where
  | row | back | even | lack | part | half
deriving DecidableEq
def Wy.s : Wy → Str
  | .row => "row" | .back => "back" | .even => "even" | .lack => "lack" | .part => "part" | .half => "half"
def Wy.con : Wy → Wy
  | .row => .back | .back => .row | .even => .lack | .lack => .even | .part => .part | .half => .half
/-- has weights -/
def Wy.wd : Wy → Bool
  | .even | .lack => true
  | _ => false
def dealOf (y : Wy) (ws cs : List Rat) (q : Rat) : List Rat :=
  match y with
  | .row => rowD cs q
  | .back => (rowD cs.reverse q).reverse
  | .even => evenD ws cs q
  | .lack => lackD cs (evenD ws cs (qsum cs - q))
  | .part => partD cs q
  | .half => halfD cs q
structure Fit (y : Wy) (ws cs : List Rat) : Prop where
  ne : cs ≠ []
  nn : ∀ c ∈ cs, 0 ≤ c
  wt : y.wd = true → ws.length = cs.length ∧ ∀ w ∈ ws, 0 < w
theorem Fit.ok {y : Wy} {ws cs : List Rat} (h : Fit y ws cs) (e : y.wd = true) : WOk ws cs := ⟨(h.wt e).1, (h.wt e).2, h.nn⟩
theorem Dl.rev {cs g : List Rat} {q : Rat} (h : Dl cs.reverse g q) : Dl cs g.reverse q := by
  have hl := h.len
  rw [List.length_reverse] at hl
  refine Dl.of (by rw [List.length_reverse, hl]) (fun i x c hx hc => ?_) (by rw [qsum_reverse, h.sum])
  have hi := getElem?_lt hc
  rw [List.getElem?_reverse (by omega)] at hx
  exact h.get hx (by rw [List.getElem?_reverse (by omega)]; rw [show cs.length - 1 - (g.length - 1 - i) = i by omega]; exact hc)
theorem dealOf_ok {y : Wy} {ws cs : List Rat} {q : Rat} (h : Fit y ws cs) (h0 : 0 ≤ q) (h1 : q ≤ qsum cs) : Dl cs (dealOf y ws cs q) q := by
  cases y with
  | row => exact rowD_ok h.nn h0 h1
  | back => exact (rowD_ok (cs := cs.reverse) (fun c hc => h.nn c (List.mem_reverse.mp hc)) h0 (by rw [qsum_reverse]; exact h1)).rev
  | even => exact evenD_ok (h.ok rfl) h0 h1 h.ne
  | lack =>
    have := lackD_ok (evenD_ok (q := qsum cs - q) (h.ok rfl) (by grind) (by grind) h.ne)
    rw [show qsum cs - (qsum cs - q) = q by grind] at this
    exact this
  | part => exact partD_ok h.nn h0 h1
  | half => exact halfD_ok h.nn h0 h1 h.ne
theorem Fit.con {y : Wy} {ws cs : List Rat} (h : Fit y ws cs) : Fit y.con ws cs := ⟨h.ne, h.nn, fun e => h.wt (by cases y <;> first | rfl | exact e)⟩
end Pu
set_option maxRecDepth 100000
namespace Pu
open PySem PySem.Spec PyProof.Rows L2
/-! ### ways: what the program's defs do -/
theorem sd_insert {K : Frag} {ρ : En} {ti te : TE} {d : D} {ds : List D} {W : WX} {ex : Value → En → Prop} {k : Ko} {i n : Nat} (e : ρ[i]? = some (.own ds)) (hi : Ev K ti ρ (.int (n : Int))) (h : Ev K te ρ d) (hl : ds.length ≤ 100000) (hn : n ≤ 100000) (hk : k.nx (ρ.set i (.own (ds.take n ++ [d] ++ ds.drop n)))) :
    Sd K W ex (tDrop (tBM K "list" rInsert (tVar i) (tCons ti (tCons te tNil)))) ρ k := fun R0 H0 ok R σ H a D m => by
  obtain ⟨p, vs, h1, h2, h3, h4, h5⟩ := a.own i ds e
  refine ⟨_, h1, .inl ⟨rfl, _, SqL.of h2⟩, hi R0 H0 R σ H a _ fun v R1 H1 g1 dv => h R0 H0 R1 σ H1 (a.grow g1) _ fun w R2 H2 g2 dw => ?_⟩
  cases dv
  have g := g1.trans g2
  refine ⟨p, vs, (n : Int), w, rfl, rfl, g.hp _ _ h2, ?_, by omega, ?_, m.nx _ R2 _ _ hk ((a.grow g).put e h1 ?_)⟩
  · rw [dpa_len h3]
    exact Nat.lt_of_le_of_lt hl (by decide)
  · have : (100000 : Int) < 2 ^ 63 := by decide
    omega
  · have q := dpa_mono g.rd _ _ h3
    exact dpa_append (dpa_append (dpa_take n q) (.cons dw .nil)) (dpa_drop n q)
theorem insF_cut {le : Nat → Nat → Bool} {x : Nat} : ∀ (s : List Nat) (j : Nat), j ≤ s.length → (∀ (m y : Nat), m < j → s[m]? = some y → le y x = true) → (∀ y, s[j]? = some y → le y x = false) → insF le x s = s.take j ++ [x] ++ s.drop j
  | [], j, hj, _, _ => by
    obtain rfl : j = 0 := by simpa using hj
    rfl
  | y :: r, 0, _, _, h => by
    have := h y rfl
    unfold insF
    rw [this]
    rfl
  | y :: r, j + 1, hj, h1, h2 => by
    have a := h1 0 y (Nat.succ_pos j) rfl
    unfold insF
    rw [a, if_pos rfl, insF_cut r j (by simpa using hj) (fun m z hm hz => h1 (m + 1) z (by omega) hz) fun z hz => h2 z hz]
    rfl
def WAYSL : List Str := ["row", "back", "even", "lack", "part", "half"]
def WEIGHEDL : List Str := ["even", "lack"]
theorem divInt_one (c : Int) : Rat.divInt c 1 = (c : Rat) := by
  rw [Rat.divInt_eq_div]
  show (c : Rat) / ((1 : Int) : Rat) = c
  rw [show ((1 : Int) : Rat) = 1 from rfl]
  grind
theorem made1_v {C : Addr} {c : Int} : cMade C [.int c, .int 1] (kv (fr (c : Rat))) := ⟨c, 1, rfl, fun z => absurd z (by decide), fun _ => by rw [divInt_one]; rfl⟩
theorem made2_v {C : Addr} {a b : Int} (h : b ≠ 0) : cMade C [.int a, .int b] (kv (fr ((a : Rat) / (b : Rat)))) := by
  have := made_v (C := C) (a := a) h
  rw [Rat.divInt_eq_div] at this
  exact this
theorem ints_at {ns : List Int} {i : Nat} {n : Int} {k : Int} (hk : k = (i : Int)) (h : ns[i]? = some n) : atI (ns.map PyData.int) k = some (.int n) := by
  rw [hk]
  exact atI_nat (by rw [List.getElem?_map, h] <;> rfl)
theorem qlist_at {ns : List Int} {i : Nat} {n : Int} (h : ns[i]? = some n) : (qlist ns)[i]? = some (n : Rat) := by
  unfold qlist
  rw [List.getElem?_map, h]
  rfl
theorem qlist_len (ns : List Int) : (qlist ns).length = ns.length := List.length_map _
theorem qlist_sum : ∀ ns : List Int, qsum (qlist ns) = ((ns.sum : Int) : Rat)
  | [] => rfl
  | n :: ns => by
    show (n : Rat) + qsum (qlist ns) = ((n + ns.sum : Int) : Rat)
    rw [qlist_sum ns, Rat.intCast_add]
def iD (ns : List Int) (i : Nat) : Int := ns.getD i 0
theorem iD_at {ns : List Int} {i : Nat} (h : i < ns.length) : ns[i]? = some (iD ns i) := by
  unfold iD
  rw [List.getD_eq_getElem?_getD, List.getElem?_eq_getElem h]
  rfl
theorem gD_qlist (ns : List Int) (i : Nat) : gD (qlist ns) i = ((iD ns i : Int) : Rat) := by
  unfold gD iD
  rw [List.getD_eq_getElem?_getD, List.getD_eq_getElem?_getD]
  unfold qlist
  rw [List.getElem?_map]
  cases ns[i]? <;> rfl
theorem fullLe_int (ws cs : List Int) (i j : Nat) : fullLe (qlist ws) (qlist cs) i j = decide (iD cs i * iD ws j ≤ iD cs j * iD ws i) := by
  unfold fullLe
  rw [gD_qlist, gD_qlist, gD_qlist, gD_qlist]
  congr 1
  rw [← Rat.intCast_mul, ← Rat.intCast_mul, Rat.intCast_le_intCast]
def small (ns : List Int) (B : Nat) : Prop := ∀ n ∈ ns, n.natAbs < 2 ^ B
theorem small_iD {ns : List Int} {B : Nat} (h : small ns B) (i : Nat) : (iD ns i).natAbs < 2 ^ B := by
  by_cases hi : i < ns.length
  · exact h _ (List.mem_of_getElem? (iD_at hi))
  · unfold iD
    rw [List.getD_eq_getElem?_getD, List.getElem?_eq_none (by omega)]
    exact Nat.two_pow_pos B
/-- sums of few -/
theorem sum_small : ∀ {ns : List Int} {B : Nat}, small ns B → ns.sum.natAbs ≤ ns.length * 2 ^ B
  | [], B, _ => by simp
  | n :: ns, B, h => by
    have h1 := h n List.mem_cons_self
    have h2 := sum_small (ns := ns) (B := B) fun m hm => h m (List.mem_cons_of_mem _ hm)
    rw [List.sum_cons, List.length_cons, Nat.succ_mul]
    omega
theorem sum_lt {ns : List Int} {B : Nat} (h : small ns B) (hl : ns.length ≤ 128) : ns.sum.natAbs < 2 ^ (B + 8) := by
  have a := sum_small h
  have e : 2 ^ (B + 8) = 256 * 2 ^ B := by rw [Nat.pow_add]; omega
  have p := Nat.two_pow_pos B
  have b : ns.length * 2 ^ B ≤ 128 * 2 ^ B := Nat.mul_le_mul_right _ hl
  omega
/-- weights that fit a way -/
def wfit (w : Str) (ws : List Int) (n : Nat) : Bool := if WEIGHEDL.contains w then (decide (ws.length = n) && ws.all fun x => decide (1 ≤ x) && decide (x ≤ 1000000)) else decide (ws.length = 0)
def cWFit : Ct := fun ds k => ∃ (w : Str) (dw : D) (ws : List Int) (n : Nat), ds = [.str w, dw, .int (n : Int)] ∧ SeqD dw (ws.map PyData.int) ∧ 1 ≤ n ∧ k.rt (.bool (wfit w ws n))
theorem wfit_v {w : Str} {dw : D} {ws : List Int} {n : Nat} (hd : SeqD dw (ws.map PyData.int)) (hn : 1 ≤ n) : cWFit [.str w, dw, .int (n : Int)] (kv (.bool (wfit w ws n))) := ⟨w, dw, ws, n, rfl, hd, hn, rfl⟩
def badC (cs : List Int) : Bool := decide (cs.length = 0) || cs.any fun c => decide (c < 0)
/-- which refusal comes first: 0 the way, 1 the claims, 2 the weights, 4 none -/
def lookC (w : Str) (ws cs : List Int) : Nat := if WAYSL.contains w then (if badC cs then 1 else if wfit w ws cs.length then 4 else 2) else 0
def cLooked (C0 C1 C2 : Addr) : Ct := fun ds k => ∃ (w : Str) (dw dc : D) (ws cs : List Int), ds = [.str w, dw, dc] ∧ SeqD dw (ws.map PyData.int) ∧ SeqD dc (cs.map PyData.int) ∧
  (lookC w ws cs = 0 → k.ex (.ref C0)) ∧ (lookC w ws cs = 1 → k.ex (.ref C1)) ∧ (lookC w ws cs = 2 → k.ex (.ref C2)) ∧ (lookC w ws cs = 4 → k.rt .none)
def bySort (ws cs : List Int) : List Nat := byF (fullLe (qlist ws) (qlist cs)) cs.length
def natD (ps : List Nat) : List D := ps.map fun p : Nat => .int (p : Int)
def cByFull : Ct := fun ds k => ∃ (dw dc : D) (ws cs : List Int) (B : Nat), ds = [dw, dc] ∧ SeqD dw (ws.map PyData.int) ∧ SeqD dc (cs.map PyData.int) ∧ ws.length = cs.length ∧ cs.length ≤ 1000 ∧ small ws B ∧ small cs B ∧ B ≤ 1000000 ∧ k.rl (natD (bySort ws cs))
theorem byFull_v {dw dc : D} {ws cs : List Int} {B : Nat} (h1 : SeqD dw (ws.map PyData.int)) (h2 : SeqD dc (cs.map PyData.int)) (hl : ws.length = cs.length) (hn : cs.length ≤ 1000) (h3 : small ws B) (h4 : small cs B) (hB : B ≤ 1000000) : cByFull [dw, dc] (kl (natD (bySort ws cs))) := ⟨dw, dc, ws, cs, B, rfl, h1, h2, hl, hn, h3, h4, hB, rfl⟩
theorem natD_len (ps : List Nat) : (natD ps).length = ps.length := List.length_map _
theorem natD_at {ps : List Nat} {i : Nat} {p : Nat} {k : Int} (hk : k = (i : Int)) (h : ps[i]? = some p) : atI (natD ps) k = some (.int (p : Int)) := by
  rw [hk]
  exact atI_nat (by unfold natD; rw [List.getElem?_map, h] <;> rfl)
/-- sizes of what is dealt -/
def dB (n B : Nat) : Nat := n + 200 * (B + 1) + 100
def cEven : Ct := fun ds k => ∃ (dw dc : D) (ws cs : List Int) (q : Rat) (B n : Nat), ds = [dw, dc, fr q] ∧ SeqD dw (ws.map PyData.int) ∧ SeqD dc (cs.map PyData.int) ∧ ws.length = cs.length ∧ cs.length ≤ 64 ∧ (∀ w ∈ ws, 0 < w) ∧ small ws B ∧ small cs B ∧ 0 < B ∧ bt q n ∧ B ≤ 10000 ∧ n ≤ 5000000 ∧ k.rl (fls (evenD (qlist ws) (qlist cs) q))
theorem even_v {dw dc : D} {ws cs : List Int} {q : Rat} {B n : Nat} (h1 : SeqD dw (ws.map PyData.int)) (h2 : SeqD dc (cs.map PyData.int)) (hl : ws.length = cs.length) (hn : cs.length ≤ 64) (hw : ∀ w ∈ ws, 0 < w) (h3 : small ws B) (h4 : small cs B) (hB : 0 < B) (hq : bt q n) (hB2 : B ≤ 10000) (hn2 : n ≤ 5000000) :
    cEven [dw, dc, fr q] (kl (fls (evenD (qlist ws) (qlist cs) q))) := ⟨dw, dc, ws, cs, q, B, n, rfl, h1, h2, hl, hn, hw, h3, h4, hB, hq, hB2, hn2, rfl⟩
theorem bt_div0 {p q : Rat} {a b : Nat} (hp : bt p a) (hq : bt q b) : bt (p / q) (a + b) := by
  by_cases h : q = 0
  · subst h
    rw [Rat.div_def, Rat.inv_zero, Rat.mul_zero]
    exact bt_zero.mono (by have := bt.pos hp; omega)
  · exact bt_over hp hq h
theorem bt_gD {ns : List Int} {B : Nat} (h : small ns B) (hB : 0 < B) (i : Nat) : bt (gD (qlist ns) i) B := by
  rw [gD_qlist]
  exact bt_int (small_iD h i) hB
theorem fillAll_all {P : Rat → Prop} {ws : List Rat} {l : Rat} : ∀ (ps : List Nat) (s : List Rat), (∀ o, P (gD ws o * l)) → (∀ x ∈ s, P x) → ∀ x ∈ fillAll ws l s ps, P x
  | [], s, _, h, x, hx => h x hx
  | p :: r, s, hf, h, x, hx => fillAll_all r (s.set p _) hf (fun y hy => by
    rcases List.mem_or_eq_of_mem_set hy with h1 | h1
    · exact h y h1
    · rw [h1]; exact hf p) x hx
theorem evenGo_bt {ws cs : List Int} {B : Nat} (h1 : small ws B) (h2 : small cs B) (hB : 0 < B) (N : Nat) : ∀ (ps : List Nat) (left rest : Rat) (s : List Rat) (n r : Nat), bt left n → bt rest r → (∀ x ∈ s, bt x N) → n + r + 2 * ps.length * (B + 1) + B ≤ N → ∀ x ∈ evenGo (qlist ws) (qlist cs) ps left rest s, bt x N
  | [], _, _, s, _, _, _, _, h, _, x, hx => h x hx
  | p :: ps, left, rest, s, n, r, hn, hr, h, hN, x, hx => by
    have e : 2 * (p :: ps).length * (B + 1) = 2 * ps.length * (B + 1) + 2 * (B + 1) := by rw [List.length_cons, ← Nat.add_mul]; rfl
    unfold evenGo at hx
    split at hx
    · exact fillAll_all (P := fun x => bt x N) (p :: ps) s (fun o => (bt_times (bt_gD h1 hB o) (bt_div0 hn hr)).mono (by omega)) h x hx
    · exact evenGo_bt h1 h2 hB N ps _ _ s (n + B + 1) (r + B + 1) (bt_minus hn (bt_gD h2 hB p)) (bt_minus hr (bt_gD h1 hB p)) h (by omega) x hx
theorem evenD_bt {ws cs : List Int} {q : Rat} {B n : Nat} (h1 : small ws B) (h2 : small cs B) (hB : 0 < B) (hl : ws.length = cs.length) (hn : cs.length ≤ 64) (hq : bt q n) : ∀ x ∈ evenD (qlist ws) (qlist cs) q, bt x (dB n B) := by
  have hs : bt (qsum (qlist ws)) (B + 8) := by
    rw [qlist_sum]
    exact bt_int (sum_lt h1 (by omega)) (by omega)
  refine evenGo_bt h1 h2 hB (dB n B) _ q _ _ n (B + 8) hq hs (fun x hx => ?_) ?_
  · obtain ⟨c, hc, rfl⟩ := List.mem_map.mp hx
    exact (bt_int (h2 c hc) hB).mono (by unfold dB; omega)
  · rw [byF_len, qlist_len]
    unfold dB
    have : 2 * cs.length * (B + 1) ≤ 128 * (B + 1) := Nat.mul_le_mul_right _ (by omega)
    omega
def cLacking : Ct := fun ds k => ∃ (dc : D) (cs : List Int) (gs : List Rat) (B n : Nat), ds = [dc, .list (fls gs)] ∧ SeqD dc (cs.map PyData.int) ∧ gs.length = cs.length ∧ cs.length ≤ 1000 ∧ small cs B ∧ 0 < B ∧ (∀ g ∈ gs, bt g n) ∧ B + n ≤ 40000000 ∧ k.rl (fls (lackD (qlist cs) gs))
theorem lacking_v {dc : D} {cs : List Int} {gs : List Rat} {B n : Nat} (hd : SeqD dc (cs.map PyData.int)) (hg : gs.length = cs.length) (hn : cs.length ≤ 1000) (h : small cs B) (hB : 0 < B) (hb : ∀ g ∈ gs, bt g n) (hl : B + n ≤ 40000000) : cLacking [dc, .list (fls gs)] (kl (fls (lackD (qlist cs) gs))) := ⟨dc, cs, gs, B, n, rfl, hd, hg, hn, h, hB, hb, hl, rfl⟩
def cRow : Ct := fun ds k => ∃ (dc : D) (cs : List Int) (q : Rat) (B n : Nat), ds = [dc, fr q] ∧ SeqD dc (cs.map PyData.int) ∧ cs.length ≤ 100 ∧ small cs B ∧ 0 < B ∧ bt q n ∧ B ≤ 10000 ∧ n ≤ 5000000 ∧ k.rl (fls (rowD (qlist cs) q))
theorem row_v {dc : D} {cs : List Int} {q : Rat} {B n : Nat} (hd : SeqD dc (cs.map PyData.int)) (hl : cs.length ≤ 100) (h : small cs B) (hB : 0 < B) (hq : bt q n) (hB2 : B ≤ 10000) (hn : n ≤ 5000000) : cRow [dc, fr q] (kl (fls (rowD (qlist cs) q))) := ⟨dc, cs, q, B, n, rfl, hd, hl, h, hB, hq, hB2, hn, rfl⟩
/-- what is left behind i claims -/
def rowL : List Rat → Rat → Nat → Rat
  | _, q, 0 => q
  | [], q, _ + 1 => q
  | c :: r, q, i + 1 => rowL r (q - if q < c then q else c) i
theorem rowL_step : ∀ (cs : List Rat) (q : Rat) (i : Nat) (c : Rat), cs[i]? = some c → rowL cs q (i + 1) = rowL cs q i - (if rowL cs q i < c then rowL cs q i else c) ∧ (rowD cs q)[i]? = some (if rowL cs q i < c then rowL cs q i else c)
  | [], q, i, c, h => by simp at h
  | a :: r, q, 0, c, h => by
    obtain rfl := Option.some.inj h
    refine ⟨?_, rfl⟩
    show rowL r _ 0 = _
    cases r <;> rfl
  | a :: r, q, i + 1, c, h => rowL_step r (q - if q < a then q else a) i c h
/-- left behind claims: nought, or the catch less some of the claims -/
theorem rowL_bt {B : Nat} (hB : 0 < B) : ∀ (cs : List Int) (q : Rat) (n i : Nat), small cs B → bt q n → i ≤ cs.length → bt (rowL (qlist cs) q i) (n + i * (B + 1) + 1)
  | cs, q, n, 0, _, h, _ => by
    have e : rowL (qlist cs) q 0 = q := by cases cs <;> rfl
    rw [e]
    exact h.mono (by omega)
  | [], q, n, i + 1, _, _, h => absurd h (by simp)
  | c :: cs, q, n, i + 1, hs, h, hi => by
    have hr : small cs B := fun x hx => hs x (List.mem_cons_of_mem _ hx)
    have hc := bt_int (hs c List.mem_cons_self) hB
    show bt (rowL (qlist cs) (q - if q < (c : Rat) then q else (c : Rat)) i) _
    rw [Nat.succ_mul]
    split
    · rw [Rat.sub_self]
      have := rowL_bt hB cs 0 1 i hr bt_zero (by simpa using hi)
      have hp := bt.pos h
      exact this.mono (by omega)
    · exact (rowL_bt hB cs _ (n + B + 1) i hr (bt_minus h hc) (by simpa using hi)).mono (by omega)
def cPart : Ct := fun ds k => ∃ (dc : D) (cs : List Int) (q : Rat) (B n : Nat), ds = [dc, fr q] ∧ SeqD dc (cs.map PyData.int) ∧ cs.length ≤ 100 ∧ small cs B ∧ 0 < B ∧ bt q n ∧ B ≤ 10000 ∧ n ≤ 5000000 ∧ k.rl (fls (partD (qlist cs) q))
theorem part_v {dc : D} {cs : List Int} {q : Rat} {B n : Nat} (hd : SeqD dc (cs.map PyData.int)) (hl : cs.length ≤ 100) (h : small cs B) (hB : 0 < B) (hq : bt q n) (hB2 : B ≤ 10000) (hn : n ≤ 5000000) : cPart [dc, fr q] (kl (fls (partD (qlist cs) q))) := ⟨dc, cs, q, B, n, rfl, hd, hl, h, hB, hq, hB2, hn, rfl⟩
def cHalf : Ct := fun ds k => ∃ (dc : D) (cs : List Int) (q : Rat) (B n : Nat), ds = [dc, fr q] ∧ SeqD dc (cs.map PyData.int) ∧ cs.length ≤ 64 ∧ cs ≠ [] ∧ (∀ c ∈ cs, 0 ≤ c) ∧ 0 ≤ q ∧ q ≤ qsum (qlist cs) ∧ small cs B ∧ 0 < B ∧ bt q n ∧ B ≤ 10000 ∧ n ≤ 1000000 ∧ k.rl (fls (halfD (qlist cs) q))
theorem ones_q (cs : List Int) : ones (qlist cs) = qlist (cs.map fun _ => 1) := by
  unfold ones qlist
  rw [List.map_map, List.map_map]
  rfl
theorem small_ones {cs : List Int} {B : Nat} (hB : 0 < B) : small (cs.map fun _ => 1) B := fun n hn => by
  obtain ⟨_, _, rfl⟩ := List.mem_map.mp hn
  exact Nat.one_lt_two_pow (by omega)
theorem bt_half : bt (1 / 2) 2 := by
  rw [show (1 / 2 : Rat) = Rat.divInt 1 2 from by rw [Rat.divInt_eq_div]; rfl]
  exact bt_divInt (by decide) (by decide) (by decide)
theorem fr_half : PyData.tuple [.int 1, .int 2] = fr (1 / 2) := by
  rw [fr_unit (by decide), Rat.div_def, Rat.one_mul]
  rfl
theorem bt_hv {gs : List Rat} {n : Nat} (h : ∀ g ∈ gs, bt g n) : ∀ x ∈ hv gs, bt x (n + 2) := fun x hx => by
  obtain ⟨g, hg, rfl⟩ := List.mem_map.mp hx
  have b2 : bt (1 / 2) 2 := by
    rw [show (1 / 2 : Rat) = Rat.divInt 1 2 from by rw [Rat.divInt_eq_div]; rfl]
    exact bt_divInt (by decide) (by decide) (by decide)
  exact (bt_times b2 (h g hg)).mono (by omega)
/-- sizes of whatever is dealt -/
def hB (n B : Nat) : Nat := n + 300 * (B + 1) + 300
theorem half_v {dc : D} {cs : List Int} {q : Rat} {B n : Nat} (hd : SeqD dc (cs.map PyData.int)) (hl : cs.length ≤ 64) (hne : cs ≠ []) (hnn : ∀ c ∈ cs, 0 ≤ c) (h0 : 0 ≤ q) (h1 : q ≤ qsum (qlist cs)) (h : small cs B) (hB : 0 < B) (hq : bt q n) (hB2 : B ≤ 10000) (hn : n ≤ 1000000) : cHalf [dc, fr q] (kl (fls (halfD (qlist cs) q))) := ⟨dc, cs, q, B, n, rfl, hd, hl, hne, hnn, h0, h1, h, hB, hq, hB2, hn, rfl⟩
/-- what is asked of claims and weights -/
structure Ask (y : Wy) (ws cs : List Int) (q : Rat) (B n : Nat) : Prop where
  ne : cs ≠ []
  nn : ∀ c ∈ cs, 0 ≤ c
  wt : y.wd = true → ws.length = cs.length ∧ ∀ w ∈ ws, 0 < w
  lo : 0 ≤ q
  hi : q ≤ qsum (qlist cs)
  len : cs.length ≤ 64
  sw : small ws B
  sc : small cs B
  b0 : 0 < B
  b1 : B ≤ 10000
  bq : bt q n
  n1 : n ≤ 1000000
theorem nn_q {cs : List Int} (h : ∀ c ∈ cs, 0 ≤ c) : ∀ c ∈ qlist cs, 0 ≤ c := fun c hc => by
  obtain ⟨c', h', rfl⟩ := List.mem_map.mp hc
  exact_mod_cast h c' h'
theorem Ask.fit {y : Wy} {ws cs : List Int} {q : Rat} {B n : Nat} (h : Ask y ws cs q B n) : Fit y (qlist ws) (qlist cs) :=
  ⟨fun z => h.ne (List.map_eq_nil_iff.mp z), nn_q h.nn, fun e => ⟨by rw [qlist_len, qlist_len]; exact (h.wt e).1, fun w hw => by
    obtain ⟨w', h', rfl⟩ := List.mem_map.mp hw
    exact_mod_cast (h.wt e).2 w' h'⟩⟩
theorem small_rev {cs : List Int} {B : Nat} (h : small cs B) : small cs.reverse B := fun c hc => h c (List.mem_reverse.mp hc)
theorem qlist_rev (cs : List Int) : (qlist cs).reverse = qlist cs.reverse := List.map_reverse.symm
def cDealtBy : Ct := fun ds k => ∃ (y : Wy) (dw dc : D) (ws cs : List Int) (q : Rat) (B n : Nat), ds = [.str y.s, dw, dc, fr q] ∧ SeqD dw (ws.map PyData.int) ∧ SeqD dc (cs.map PyData.int) ∧ Ask y ws cs q B n ∧ k.rl (fls (dealOf y (qlist ws) (qlist cs) q))
theorem dealtBy_v {y : Wy} {dw dc : D} {ws cs : List Int} {q : Rat} {B n : Nat} (h1 : SeqD dw (ws.map PyData.int)) (h2 : SeqD dc (cs.map PyData.int)) (h : Ask y ws cs q B n) : cDealtBy [.str y.s, dw, dc, fr q] (kl (fls (dealOf y (qlist ws) (qlist cs) q))) := ⟨y, dw, dc, ws, cs, q, B, n, rfl, h1, h2, h, rfl⟩
def wyOf (w : Str) : Wy := if w = "row" then .row else if w = "back" then .back else if w = "even" then .even else if w = "lack" then .lack else if w = "part" then .part else .half
theorem wyOf_s (y : Wy) : wyOf y.s = y := by cases y <;> decide
theorem way_cases {w : Str} (h : WAYSL.contains w = true) : ∃ y : Wy, w = y.s := by
  have h' : w ∈ WAYSL := List.contains_iff_mem.mp h
  unfold WAYSL at h'
  simp only [List.mem_cons, List.not_mem_nil, or_false] at h'
  rcases h' with rfl | rfl | rfl | rfl | rfl | rfl
  · exact ⟨.row, rfl⟩
  · exact ⟨.back, rfl⟩
  · exact ⟨.even, rfl⟩
  · exact ⟨.lack, rfl⟩
  · exact ⟨.part, rfl⟩
  · exact ⟨.half, rfl⟩
theorem ways_s (y : Wy) : WAYSL.contains y.s = true := by cases y <;> decide
theorem weighed_s (y : Wy) : WEIGHEDL.contains y.s = y.wd := by cases y <;> decide
/-- which refusal comes first, with the catch: 3 beyond its bounds -/
def dealC (w : Str) (ws cs : List Int) (q : Rat) : Nat := if lookC w ws cs = 4 then (if q < 0 ∨ qsum (qlist cs) < q then 3 else 4) else lookC w ws cs
def cDealt (C0 C1 C2 C3 : Addr) : Ct := fun ds k => ∃ (w : Str) (dw dc : D) (ws cs : List Int) (q : Rat) (B n : Nat), ds = [.str w, dw, dc, fr q] ∧ SeqD dw (ws.map PyData.int) ∧ SeqD dc (cs.map PyData.int) ∧ cs.length ≤ 64 ∧ small cs B ∧ 20 ≤ B ∧ B ≤ 10000 ∧ bt q n ∧ n ≤ 1000000 ∧
  (dealC w ws cs q = 0 → k.ex (.ref C0)) ∧ (dealC w ws cs q = 1 → k.ex (.ref C1)) ∧ (dealC w ws cs q = 2 → k.ex (.ref C2)) ∧ (dealC w ws cs q = 3 → k.ex (.ref C3)) ∧ (dealC w ws cs q = 4 → k.rl (fls (dealOf (wyOf w) (qlist ws) (qlist cs) q)))
theorem wfit_iff {y : Wy} {ws : List Int} {n : Nat} : wfit y.s ws n = true ↔ if y.wd then ws.length = n ∧ ∀ w ∈ ws, 1 ≤ w ∧ w ≤ 1000000 else ws = [] := by
  unfold wfit
  rw [weighed_s]
  cases y.wd
  · simp
  · simp
theorem small_wt {ws : List Int} {B : Nat} (h : ∀ w ∈ ws, 1 ≤ w ∧ w ≤ 1000000) (hB : 20 ≤ B) : small ws B := fun w hw => by
  obtain ⟨h1, h2⟩ := h w hw
  have : 2 ^ 20 ≤ 2 ^ B := Nat.pow_le_pow_right (by decide) hB
  have e : (2 : Nat) ^ 20 = 1048576 := by decide
  omega
theorem ask_of {y : Wy} {ws cs : List Int} {q : Rat} {B n : Nat} (hc : dealC y.s ws cs q = 4) (hl : cs.length ≤ 64) (hs : small cs B) (h20 : 20 ≤ B) (hB : B ≤ 10000) (hq : bt q n) (hn : n ≤ 1000000) : Ask y ws cs q B n := by
  unfold dealC at hc
  split at hc
  · rename_i hlook
    split at hc
    · cases hc
    · rename_i hin
      unfold lookC at hlook
      rw [if_pos (ways_s y)] at hlook
      split at hlook
      · cases hlook
      · rename_i hbad
        split at hlook
        · rename_i hfit
          have hf := wfit_iff.mp hfit
          unfold badC at hbad
          have hne : cs ≠ [] := fun z => hbad (by rw [z]; rfl)
          have hnn : ∀ c ∈ cs, 0 ≤ c := fun c hc => by
            apply Classical.byContradiction
            intro z
            apply hbad
            rw [Bool.or_eq_true]
            exact .inr (List.any_eq_true.mpr ⟨c, hc, decide_eq_true (by omega)⟩)
          refine ⟨hne, hnn, fun e => ?_, Rat.not_lt.mp fun z => hin (.inl z), Rat.not_lt.mp fun z => hin (.inr z), hl, ?_, hs, by omega, hB, hq, hn⟩
          · rw [e] at hf
            exact ⟨hf.1, fun w hw => by have := (hf.2 w hw).1; omega⟩
          · cases e : y.wd with
            | true => rw [e] at hf; exact small_wt hf.2 h20
            | false => rw [e] at hf; rw [show ws = [] from hf]; exact fun w hw => nomatch hw
        · cases hlook
  · rename_i h4
    exact absurd hc h4
theorem dealC_ok {y : Wy} {ws cs : List Int} {q : Rat} (hne : cs ≠ []) (hnn : ∀ c ∈ cs, 0 ≤ c) (hf : wfit y.s ws cs.length = true) (h0 : 0 ≤ q) (h1 : q ≤ qsum (qlist cs)) : dealC y.s ws cs q = 4 := by
  have hb : badC cs = false := by
    unfold badC
    rw [Bool.or_eq_false_iff]
    refine ⟨decide_eq_false fun z => hne (List.eq_nil_of_length_eq_zero z), ?_⟩
    rw [List.any_eq_false]
    intro c hc
    have := hnn c hc
    rw [decide_eq_true_eq]
    omega
  have hlook : lookC y.s ws cs = 4 := by
    unfold lookC
    rw [if_pos (ways_s y), if_neg (by rw [hb]; decide), if_pos hf]
  unfold dealC
  rw [if_pos hlook, if_neg]
  rintro (z | z)
  · exact Rat.not_lt.mpr h0 z
  · exact Rat.not_lt.mpr h1 z
def cContrary (C0 : Addr) : Ct := fun ds k => ∃ w : Str, ds = [.str w] ∧ (WAYSL.contains w = false → k.ex (.ref C0)) ∧ (∀ y : Wy, w = y.s → k.rt (.str y.con.s))
theorem contrary_v {C0 : Addr} {y : Wy} : cContrary C0 [.str y.s] (kv (.str y.con.s)) := ⟨y.s, rfl, (fun z => nomatch (ways_s y).symm.trans z), fun y' e => by
  have : y = y' := by rw [← wyOf_s y, e, wyOf_s]
  rw [this]; rfl⟩
/-! ### a list lent to a call that gives a plain thing -/
/-! ### small things of the laws -/
theorem at_4 {α : Type} {a b c d : α} {k : Int} (h0 : 0 ≤ k) (h : k < 4) : atI [a, b, c, d] k = some (if k = 0 then a else if k = 1 then b else if k = 2 then c else d) := by
  rcases (by omega : k = 0 ∨ k = 1 ∨ k = 2 ∨ k = 3) with rfl | rfl | rfl | rfl <;> rfl
def cLFr : Ct := fun ds k => ∃ a b : Int, ds = [.int a, .int b] ∧ 0 < b ∧ k.rt (fr (Rat.divInt a b))
theorem lfr_v {a b : Int} (h : 0 < b) : cLFr [.int a, .int b] (kv (fr (Rat.divInt a b))) := ⟨a, b, rfl, h, rfl⟩
/-! ### dealings looked at by the laws -/
/-- whole numbers and levels -/
theorem num_den (q : Rat) : (q.num : Rat) = q * ((q.den : Int) : Rat) := by
  have hd : ((q.den : Int) : Rat) ≠ 0 := by
    have : (0 : Int) < (q.den : Int) := by have := q.den_pos; omega
    have : (0 : Rat) < ((q.den : Int) : Rat) := by exact_mod_cast this
    grind
  have e := Rat.div_mul_cancel (a := (q.num : Rat)) (b := ((q.den : Int) : Rat)) hd
  rw [← Rat.divInt_eq_div, q_mk] at e
  exact e.symm
end Pu
set_option maxRecDepth 100000
namespace Pu
open PySem PySem.Spec PyProof.Rows L2
/-! ### what the laws of ways draw; fractions in order -/
def wtOf (c : Int) : Int := 1 + c / 2 % (if c % 2 = 0 then 4 else 10 ^ (6 : Int).toNat)
def wList (b : Bool) (f : Nat → Int) (i : Nat) : List Int := if b then (List.range i).map f else []
structure Drawn (y : Wy) (ws cs : List Int) (most : Nat) : Prop where
  ne : cs ≠ []
  len : cs.length ≤ most
  nn : ∀ c ∈ cs, 0 ≤ c
  sm : small cs 100
  fit : wfit y.s ws cs.length = true
  wl : ws = [] ∨ ws.length = cs.length
  wb : ∀ w ∈ ws, 1 ≤ w ∧ w ≤ 1000000
/-! fractions in order -/
theorem Drawn.mono {y : Wy} {ws cs : List Int} {m n : Nat} (h : Drawn y ws cs m) (hm : m ≤ n) : Drawn y ws cs n := ⟨h.ne, Nat.le_trans h.len hm, h.nn, h.sm, h.fit, h.wl, h.wb⟩
theorem Drawn.con {y : Wy} {ws cs : List Int} {m : Nat} (h : Drawn y ws cs m) : Drawn y.con ws cs m := ⟨h.ne, h.len, h.nn, h.sm, by
  have := wfit_iff.mp h.fit
  refine wfit_iff.mpr ?_
  cases y <;> exact this, h.wl, h.wb⟩
theorem Drawn.ok {y : Wy} {ws cs : List Int} {m : Nat} {q : Rat} (h : Drawn y ws cs m) (h0 : 0 ≤ q) (h1 : q ≤ qsum (qlist cs)) : dealC y.s ws cs q = 4 := dealC_ok h.ne h.nn h.fit h0 h1
end Pu
set_option maxRecDepth 100000
namespace Pu
open PySem PySem.Spec PyProof.Rows L2
/-! ### customs -/
inductive Cu where
  | boat (c : Int)
  | knot (y : Wy) (ws : List Int) (ks : List Cu)
theorem Cu.ind {P : Cu → Prop} (hb : ∀ c, P (.boat c)) (hk : ∀ y ws ks, (∀ k ∈ ks, P k) → P (.knot y ws ks)) : ∀ u, P u := fun u =>
  Cu.rec (motive_1 := P) (motive_2 := fun ks => ∀ k ∈ ks, P k) hb (fun y ws ks h => hk y ws ks h) (fun k h => by cases h) (fun k r h1 h2 x hx => by
    rcases List.mem_cons.mp hx with rfl | hx
    · exact h1
    · exact h2 x hx) u
mutual
def Cu.d : Cu → D
  | .boat c => .tuple [.str "boat", .int c]
  | .knot y ws ks => .tuple [.str y.s, .tuple (ws.map PyData.int), .tuple (Cu.dL ks)]
def Cu.dL : List Cu → List D
  | [] => []
  | k :: r => k.d :: Cu.dL r
end
mutual
def Cu.claims : Cu → List Int
  | .boat c => [c]
  | .knot _ _ ks => Cu.claimsL ks
def Cu.claimsL : List Cu → List Int
  | [] => []
  | k :: r => k.claims ++ Cu.claimsL r
end
mutual
def Cu.deep : Cu → Nat
  | .boat _ => 1
  | .knot _ _ ks => 1 + Cu.deepL ks
def Cu.deepL : List Cu → Nat
  | [] => 0
  | k :: r => max k.deep (Cu.deepL r)
end
mutual
def Cu.ok : Cu → Prop
  | .boat c => 0 ≤ c ∧ c ≤ 1000000000
  | .knot y ws ks => (ks ≠ [] ∧ ks.length ≤ 12 ∧ wfit y.s ws ks.length = true) ∧ Cu.okL ks
def Cu.okL : List Cu → Prop
  | [] => True
  | k :: r => k.ok ∧ Cu.okL r
end
theorem Cu.okL_all : ∀ {ks : List Cu}, Cu.okL ks ↔ ∀ k ∈ ks, k.ok
  | [] => ⟨fun _ k h => (by cases h), fun _ => trivial⟩
  | k :: r => by
    rw [Cu.okL, Cu.okL_all (ks := r)]
    exact ⟨fun h x hx => by
      rcases List.mem_cons.mp hx with rfl | hx
      · exact h.1
      · exact h.2 x hx, fun h => ⟨h k List.mem_cons_self, fun x hx => h x (List.mem_cons_of_mem _ hx)⟩⟩
theorem Cu.deepL_le : ∀ {ks : List Cu} {n : Nat}, Cu.deepL ks ≤ n ↔ ∀ k ∈ ks, k.deep ≤ n
  | [], n => ⟨fun _ k h => (by cases h), fun _ => Nat.zero_le _⟩
  | k :: r, n => by
    rw [Cu.deepL, Nat.max_le, Cu.deepL_le (ks := r)]
    exact ⟨fun h x hx => by
      rcases List.mem_cons.mp hx with rfl | hx
      · exact h.1
      · exact h.2 x hx, fun h => ⟨h k List.mem_cons_self, fun x hx => h x (List.mem_cons_of_mem _ hx)⟩⟩
theorem Cu.deep_kid {y : Wy} {ws : List Int} {ks : List Cu} {k : Cu} (h : k ∈ ks) : k.deep < (Cu.knot y ws ks).deep := by
  have := (Cu.deepL_le (ks := ks) (n := Cu.deepL ks)).mp (Nat.le_refl _) k h
  show k.deep < 1 + Cu.deepL ks
  omega
theorem Cu.ok_kid {y : Wy} {ws : List Int} {ks : List Cu} {k : Cu} (h : (Cu.knot y ws ks).ok) (hk : k ∈ ks) : k.ok := Cu.okL_all.mp h.2 k hk
theorem Cu.claimsL_mem : ∀ {ks : List Cu} {k : Cu}, k ∈ ks → k.claims.length ≤ (Cu.claimsL ks).length
  | [], k, h => by cases h
  | a :: r, k, h => by
    show k.claims.length ≤ (a.claims ++ Cu.claimsL r).length
    rw [List.length_append]
    rcases List.mem_cons.mp h with rfl | h
    · omega
    · have := Cu.claimsL_mem h
      omega
theorem Cu.claims_kid {y : Wy} {ws : List Int} {ks : List Cu} {k : Cu} (h : k ∈ ks) : k.claims.length ≤ (Cu.knot y ws ks).claims.length := Cu.claimsL_mem (ks := ks) h
theorem Cu.claims_ne : ∀ {u : Cu}, u.ok → u.claims ≠ [] := fun {u} => Cu.ind (P := fun u => u.ok → u.claims ≠ []) (fun c _ => by
    show [c] ≠ []
    exact List.cons_ne_nil _ _) (fun y ws ks ih h z => by
    have hne := h.1.1
    cases ks with
    | nil => exact hne rfl
    | cons k r =>
      have := ih k List.mem_cons_self (Cu.ok_kid h List.mem_cons_self)
      have z' : k.claims ++ Cu.claimsL r = [] := z
      exact this (List.append_eq_nil_iff.mp z').1) u
theorem Cu.claims_b : ∀ {u : Cu}, u.ok → ∀ c ∈ u.claims, 0 ≤ c ∧ c ≤ 1000000000 := fun {u} => Cu.ind (P := fun u => u.ok → ∀ c ∈ u.claims, 0 ≤ c ∧ c ≤ 1000000000) (fun c h x hx => by
    obtain rfl := List.mem_singleton.mp (show x ∈ [c] from hx)
    exact h) (fun y ws ks ih h c hc => by
    have : ∀ ks : List Cu, (∀ k ∈ ks, k.ok → ∀ c ∈ k.claims, 0 ≤ c ∧ c ≤ 1000000000) → (∀ k ∈ ks, k.ok) → ∀ c ∈ Cu.claimsL ks, 0 ≤ c ∧ c ≤ 1000000000 := fun ks => by
      induction ks with
      | nil => intro _ _ c hc; cases hc
      | cons k r ih2 =>
        intro h1 h2 c hc
        rcases List.mem_append.mp (show c ∈ k.claims ++ Cu.claimsL r from hc) with hc | hc
        · exact h1 k List.mem_cons_self (h2 k List.mem_cons_self) c hc
        · exact ih2 (fun x hx => h1 x (List.mem_cons_of_mem _ hx)) (fun x hx => h2 x (List.mem_cons_of_mem _ hx)) c hc
    exact this ks ih (fun k hk => Cu.ok_kid h hk) c hc) u
theorem Cu.deep_pos (u : Cu) : 1 ≤ u.deep := by
  cases u with
  | boat c => exact Nat.le_refl _
  | knot y ws ks => show 1 ≤ 1 + _; omega
def Cu.sum (u : Cu) : Int := u.claims.sum
def Cu.sums (ks : List Cu) : List Int := ks.map Cu.sum
theorem Cu.sums_sum : ∀ ks : List Cu, (Cu.sums ks).sum = (Cu.claimsL ks).sum
  | [] => rfl
  | k :: r => by
    show (k.sum :: Cu.sums r).sum = (k.claims ++ Cu.claimsL r).sum
    rw [List.sum_cons, List.sum_append, Cu.sums_sum r]
    rfl
mutual
def Cu.deal : Cu → Rat → List Rat
  | .boat _, q => [q]
  | .knot y ws ks, q => Cu.dealL ks (dealOf y (qlist ws) (qlist (ks.map Cu.sum)) q)
def Cu.dealL : List Cu → List Rat → List Rat
  | [], _ => []
  | _ :: _, [] => []
  | k :: r, g :: gs => k.deal g ++ Cu.dealL r gs
end
/-- customs that may stand: not too many boats, not too deep -/
structure Cu.Ok (u : Cu) : Prop where
  ok : u.ok
  few : u.claims.length ≤ 12
  low : u.deep ≤ 8
theorem Cu.Ok.kid {y : Wy} {ws : List Int} {ks : List Cu} {k : Cu} (h : (Cu.knot y ws ks).Ok) (hk : k ∈ ks) : k.Ok := ⟨Cu.ok_kid h.ok hk, Nat.le_trans (Cu.claims_kid hk) h.few, Nat.le_trans (Nat.le_of_lt (Cu.deep_kid hk)) h.low⟩
/-! what a custom deals -/
theorem qlist_append (a b : List Int) : qlist (a ++ b) = qlist a ++ qlist b := by unfold qlist; rw [List.map_append]
theorem dl_append : ∀ {cs cs' g g' : List Rat} {q q' : Rat}, Dl cs g q → Dl cs' g' q' → Dl (cs ++ cs') (g ++ g') (q + q') := fun {cs cs' g g' q q'} h h' => Dl.of (by rw [List.length_append, List.length_append, h.len, h'.len]) (fun i x c hx hc => by
    by_cases hi : i < g.length
    · rw [List.getElem?_append_left hi] at hx
      rw [List.getElem?_append_left (by rw [← h.len]; exact hi)] at hc
      exact h.get hx hc
    · rw [List.getElem?_append_right (by omega)] at hx
      rw [List.getElem?_append_right (by rw [← h.len]; omega), ← h.len] at hc
      exact h'.get hx hc) (by rw [qsum_append, h.sum, h'.sum])
theorem fit_knot {y : Wy} {ws : List Int} {ks : List Cu} (h : (Cu.knot y ws ks).ok) : Fit y (qlist ws) (qlist (ks.map Cu.sum)) := by
  obtain ⟨⟨h1, h2, h3⟩, h4⟩ := h
  refine ⟨fun z => h1 ?_, fun c hc => ?_, fun e => ?_⟩
  · have := congrArg List.length z
    rw [qlist_len, List.length_map] at this
    exact List.length_eq_zero_iff.mp this
  · obtain ⟨n, hn, rfl⟩ := List.mem_map.mp hc
    obtain ⟨k, hk, rfl⟩ := List.mem_map.mp hn
    have h5 := qsum_nonneg (nn_q fun c hc => (Cu.claims_b (Cu.okL_all.mp h4 k hk) c hc).1)
    rw [qlist_sum] at h5
    exact h5
  · have h6 := wfit_iff.mp h3
    rw [e, if_pos rfl] at h6
    refine ⟨by rw [qlist_len, qlist_len, List.length_map]; exact h6.1, fun w hw => ?_⟩
    obtain ⟨n, hn, rfl⟩ := List.mem_map.mp hw
    have := (h6.2 n hn).1
    have : 0 < n := by omega
    exact_mod_cast this
/-! what the laws of customs draw -/
end Pu
set_option maxRecDepth 100000
namespace Pu
open PySem PySem.Spec PyProof.Rows L2
/-! ### what customs deal -/
theorem Dl.cons {c g : Rat} {cs gs : List Rat} {q : Rat} (h : Dl (c :: cs) (g :: gs) q) : 0 ≤ g ∧ g ≤ c ∧ Dl cs gs (q - g) := ⟨h.lo.1, h.hi.1, h.lo.2, h.hi.2, by
  have := h.sum
  rw [show qsum (g :: gs) = g + qsum gs from rfl] at this
  grind⟩
theorem dealL_dl : ∀ (ks : List Cu) (gs : List Rat) (Q : Rat), Dl (qlist (ks.map Cu.sum)) gs Q → (∀ k ∈ ks, ∀ q : Rat, 0 ≤ q → q ≤ (k.sum : Rat) → Dl (qlist k.claims) (k.deal q) q) → Dl (qlist (Cu.claimsL ks)) (Cu.dealL ks gs) Q
  | [], gs, Q, h, _ => by
    have hl : gs.length = 0 := h.len
    obtain rfl := List.length_eq_zero_iff.mp hl
    exact h
  | k :: r, [], Q, h, _ => by
    have hl : 0 = (qlist ((k :: r).map Cu.sum)).length := h.len
    rw [qlist_len, List.length_map] at hl
    cases hl
  | k :: r, g :: gs, Q, h, ih => by
    obtain ⟨h0, h1, h2⟩ := Dl.cons (c := (k.sum : Rat)) (cs := qlist (r.map Cu.sum)) h
    have a := ih k List.mem_cons_self g h0 h1
    have b := dealL_dl r gs (Q - g) h2 fun x hx => ih x (List.mem_cons_of_mem _ hx)
    have := dl_append a b
    rw [show g + (Q - g) = Q by grind, ← qlist_append] at this
    exact this
theorem deal_dl : ∀ {u : Cu}, u.ok → ∀ {q : Rat}, 0 ≤ q → q ≤ (u.sum : Rat) → Dl (qlist u.claims) (u.deal q) q := fun {u} => Cu.ind (P := fun u => u.ok → ∀ {q : Rat}, 0 ≤ q → q ≤ (u.sum : Rat) → Dl (qlist u.claims) (u.deal q) q) (fun c _ q h0 h1 => by
    have h1 : q ≤ (([c].sum : Int) : Rat) := h1
    rw [show [c].sum = c by simp] at h1
    refine ⟨⟨h0, trivial⟩, ⟨h1, trivial⟩, ?_⟩
    show q + 0 = q
    grind) (fun y ws ks ih h q h0 h1 => by
    refine dealL_dl ks _ q ?_ fun k hk q h0 h1 => ih k hk (Cu.ok_kid h hk) h0 h1
    refine dealOf_ok (fit_knot h) h0 ?_
    rw [qlist_sum, show (ks.map Cu.sum).sum = (Cu.claimsL ks).sum from Cu.sums_sum ks]
    exact h1) u
theorem sums_le {y : Wy} {ws : List Int} {ks : List Cu} {q : Rat} (h : q ≤ ((Cu.knot y ws ks).sum : Rat)) : q ≤ qsum (qlist (ks.map Cu.sum)) := by
  rw [qlist_sum, show (ks.map Cu.sum).sum = (Cu.claimsL ks).sum from Cu.sums_sum ks]
  exact h
/-! sizes -/
theorem Cu.Ok.sum_b {u : Cu} (h : u.Ok) : 0 ≤ u.sum ∧ u.sum ≤ 12000000000 := by
  have hb := Cu.claims_b h.ok
  have : ∀ l : List Int, (∀ c ∈ l, 0 ≤ c ∧ c ≤ 1000000000) → 0 ≤ l.sum ∧ l.sum ≤ 1000000000 * l.length := fun l => by
    induction l with
    | nil => intro _; exact ⟨Int.le_refl _, Int.le_refl _⟩
    | cons a r ih =>
      intro h
      have h1 := h a List.mem_cons_self
      have h2 := ih fun c hc => h c (List.mem_cons_of_mem _ hc)
      rw [List.sum_cons, List.length_cons]
      omega
  have h1 := this u.claims hb
  have h2 := h.few
  unfold Cu.sum
  omega
theorem Cu.Ok.sum_lt {u : Cu} (h : u.Ok) : u.sum.natAbs < 2 ^ 40 := by
  have := h.sum_b
  have e : (2 : Nat) ^ 40 = 1099511627776 := by decide
  omega
theorem sums_small {y : Wy} {ws : List Int} {ks : List Cu} (h : (Cu.knot y ws ks).Ok) : Pu.small (ks.map Cu.sum) 40 := fun c hc => by
  obtain ⟨k, hk, rfl⟩ := List.mem_map.mp hc
  exact (h.kid hk).sum_lt
theorem sums_nn {y : Wy} {ws : List Int} {ks : List Cu} (h : (Cu.knot y ws ks).Ok) : ∀ c ∈ ks.map Cu.sum, 0 ≤ c := fun c hc => by
  obtain ⟨k, hk, rfl⟩ := List.mem_map.mp hc
  exact (h.kid hk).sum_b.1
theorem deal_len {u : Cu} (h : u.ok) {q : Rat} (h0 : 0 ≤ q) (h1 : q ≤ (u.sum : Rat)) : (u.deal q).length = u.claims.length := by
  have := (deal_dl h h0 h1).len
  rw [qlist_len] at this
  exact this
/-! contracts -/
/-! the contrary custom -/
mutual
def Cu.con : Cu → Cu
  | .boat c => .boat c
  | .knot y ws ks => .knot y.con ws (Cu.conL ks)
def Cu.conL : List Cu → List Cu
  | [] => []
  | k :: r => k.con :: Cu.conL r
end
theorem Cu.conL_map : ∀ ks : List Cu, Cu.conL ks = ks.map Cu.con
  | [] => rfl
  | k :: r => by rw [Cu.conL, Cu.conL_map r]; rfl
theorem con_same : ∀ u : Cu, u.con.claims = u.claims ∧ u.con.deep = u.deep := fun u => Cu.ind (P := fun u => u.con.claims = u.claims ∧ u.con.deep = u.deep) (fun c => ⟨rfl, rfl⟩) (fun y ws ks ih => by
    have : ∀ l : List Cu, (∀ k ∈ l, k.con.claims = k.claims ∧ k.con.deep = k.deep) → Cu.claimsL (Cu.conL l) = Cu.claimsL l ∧ Cu.deepL (Cu.conL l) = Cu.deepL l := fun l => by
      induction l with
      | nil => intro _; exact ⟨rfl, rfl⟩
      | cons a r ih2 =>
        intro h
        obtain ⟨h1, h2⟩ := h a List.mem_cons_self
        obtain ⟨h3, h4⟩ := ih2 fun x hx => h x (List.mem_cons_of_mem _ hx)
        constructor
        · show a.con.claims ++ Cu.claimsL (Cu.conL r) = a.claims ++ Cu.claimsL r
          rw [h1, h3]
        · show max a.con.deep (Cu.deepL (Cu.conL r)) = max a.deep (Cu.deepL r)
          rw [h2, h4]
    obtain ⟨h1, h2⟩ := this ks ih
    refine ⟨h1, ?_⟩
    show 1 + Cu.deepL (Cu.conL ks) = 1 + Cu.deepL ks
    rw [h2]) u
theorem con_ok : ∀ {u : Cu}, u.ok → u.con.ok := fun {u} => Cu.ind (P := fun u => u.ok → u.con.ok) (fun c h => h) (fun y ws ks ih h => by
    obtain ⟨⟨h1, h2, h3⟩, h4⟩ := h
    have hl : (Cu.conL ks).length = ks.length := by rw [Cu.conL_map, List.length_map]
    refine ⟨⟨fun z => h1 ?_, by rw [hl]; exact h2, ?_⟩, ?_⟩
    · rw [z] at hl
      exact List.length_eq_zero_iff.mp hl.symm
    · rw [hl]
      have := wfit_iff.mp h3
      refine wfit_iff.mpr ?_
      cases y <;> exact this
    · rw [Cu.conL_map]
      refine Cu.okL_all.mpr fun k hk => ?_
      obtain ⟨k', hk', rfl⟩ := List.mem_map.mp hk
      exact ih k' hk' (Cu.okL_all.mp h4 k' hk')) u
theorem Cu.Ok.con {u : Cu} (h : u.Ok) : u.con.Ok := ⟨con_ok h.ok, by rw [(con_same u).1]; exact h.few, by rw [(con_same u).2]; exact h.low⟩
end Pu
set_option maxRecDepth 100000
namespace Pu
open PySem PySem.Spec PyProof.Rows L2
/-! ### laws of customs: rows of catches in order; kids by themselves -/
/-! kids by themselves -/
/-- v stands in u behind a path, its boats from a place on -/
inductive Sub : Cu → Cu → List Int → Nat → Prop
  | here (u : Cu) : Sub u u [] 0
  | down {y : Wy} {ws : List Int} {ks : List Cu} {k v : Cu} {p : List Int} {a i : Nat} (h : ks[i]? = some k) (s : Sub k v p a) : Sub (.knot y ws ks) v ((i : Int) :: p) ((Cu.claimsL (ks.take i)).length + a)
end Pu
set_option maxRecDepth 100000
namespace Pu
open PySem PySem.Spec PyProof.Rows L2
end Pu
set_option maxRecDepth 100000
namespace Pu
open PySem PySem.Spec PyProof.Rows L2
section
variable {K : Frag} {R0 H0 R H : Hp} {ρ : En} {σ : L2.St}
def less1 (R : Hp) (p : Addr) : Hp := fun b => if b = p then none else R b
theorem less1_ne {R : Hp} {p b : Addr} (h : b ≠ p) : less1 R p b = R b := if_neg h
theorem Grow.less {R' H' : Hp} {p : Addr} {o : HO} (hr : R p = none) (g : Grow (upd R p o) H R' H') : Grow R H (less1 R' p) H' := ⟨fun b x e => by
    have hb : b ≠ p := fun z => by rw [z, hr] at e; cases e
    rw [less1_ne hb]
    exact g.rd b x (by rw [upd_ne hb]; exact e), g.hp, fun b x e => by
    unfold less1 at e
    split at e
    · cases e
    · exact g.sub b x e, fun b e n => by
    unfold less1 at n
    split at n
    · exact absurd rfl n
    · rename_i hb
      exact g.new b (by rw [upd_ne hb]; exact e) n⟩
end
/-! ### whole fish: places of broken parts, the greatest first, of equal ones the earlier first -/
def insB (f : Nat → Rat) (x : Nat) : List Nat → List Nat
  | [] => [x]
  | y :: r => if f y < f x then x :: y :: r else y :: insB f x r
def sortB (f : Nat → Rat) (n : Nat) : List Nat := (List.range n).foldl (fun s x => insB f x s) []
def aheadB (f : Nat → Rat) (j i : Nat) : Bool := decide (f i < f j) || (decide (f j = f i) && decide (j < i))
theorem aheadB_iff {f : Nat → Rat} {j i : Nat} : aheadB f j i = true ↔ f i < f j ∨ (f j = f i ∧ j < i) := by
  unfold aheadB
  rw [Bool.or_eq_true, Bool.and_eq_true, decide_eq_true_eq, decide_eq_true_eq, decide_eq_true_eq]
theorem sortB_succ (f : Nat → Rat) (n : Nat) : sortB f (n + 1) = insB f n (sortB f n) := by
  unfold sortB
  rw [List.range_succ, List.foldl_append]
  rfl
theorem insB_perm (f : Nat → Rat) (x : Nat) : ∀ s : List Nat, (insB f x s).Perm (x :: s)
  | [] => List.Perm.refl _
  | y :: r => by
    unfold insB
    split
    · exact List.Perm.refl _
    · exact ((insB_perm f x r).cons y).trans (List.Perm.swap x y r)
theorem insB_sorted {f : Nat → Rat} {x : Nat} : ∀ s : List Nat, (∀ y ∈ s, y < x) → s.Pairwise (fun a b => aheadB f a b = true) → (insB f x s).Pairwise (fun a b => aheadB f a b = true)
  | [], _, _ => List.pairwise_singleton _ _
  | y :: r, hx, h => by
    obtain ⟨h1, h2⟩ := List.pairwise_cons.mp h
    have hy := hx y List.mem_cons_self
    unfold insB
    split
    · rename_i z
      refine List.pairwise_cons.mpr ⟨fun b hb => aheadB_iff.mpr ?_, h⟩
      rcases List.mem_cons.mp hb with rfl | hb
      · exact .inl z
      · have := aheadB_iff.mp (h1 b hb)
        left
        grind
    · rename_i z
      refine List.pairwise_cons.mpr ⟨fun b hb => ?_, insB_sorted r (fun w hw => hx w (List.mem_cons_of_mem _ hw)) h2⟩
      rcases List.mem_cons.mp ((insB_perm f x r).mem_iff.mp hb) with rfl | hb
      · refine aheadB_iff.mpr ?_
        by_cases e : f y = f b
        · exact .inr ⟨e, hy⟩
        · left
          grind
      · exact h1 b hb
theorem sortB_perm (f : Nat → Rat) : ∀ n, (sortB f n).Perm (List.range n)
  | 0 => List.Perm.refl _
  | n + 1 => by
    rw [sortB_succ, List.range_succ]
    exact ((insB_perm f n _).trans ((sortB_perm f n).cons n)).trans (List.perm_append_comm (l₁ := [n]) (l₂ := List.range n))
theorem sortB_lt {f : Nat → Rat} {n y : Nat} (h : y ∈ sortB f n) : y < n := List.mem_range.mp ((sortB_perm f n).mem_iff.mp h)
theorem sortB_sorted (f : Nat → Rat) : ∀ n, (sortB f n).Pairwise (fun a b => aheadB f a b = true)
  | 0 => List.Pairwise.nil
  | n + 1 => by
    rw [sortB_succ]
    exact insB_sorted _ (fun y hy => sortB_lt hy) (sortB_sorted f n)
theorem rank_of {f : Nat → Rat} {i : Nat} : ∀ (s : List Nat), s.Pairwise (fun a b => aheadB f a b = true) → i ∈ s → ∀ L, i ∈ s.take L ↔ (s.filter fun j => aheadB f j i).length < L
  | [], _, h, _ => by cases h
  | y :: r, hs, hi, 0 => by simp
  | y :: r, hs, hi, L + 1 => by
    obtain ⟨h1, h2⟩ := List.pairwise_cons.mp hs
    rw [List.take_succ_cons]
    by_cases e : i = y
    · subst e
      have : ((i :: r).filter fun j => aheadB f j i) = [] := List.filter_eq_nil_iff.mpr fun b hb z => by
        have hz := aheadB_iff.mp z
        rcases List.mem_cons.mp hb with rfl | hb
        · rcases hz with q | q
          · grind
          · omega
        · have := aheadB_iff.mp (h1 b hb)
          grind
      rw [this]
      exact ⟨fun _ => Nat.succ_pos L, fun _ => List.mem_cons_self⟩
    · have hir : i ∈ r := (List.mem_cons.mp hi).resolve_left e
      have := rank_of r h2 hir L
      rw [List.filter_cons, if_pos (h1 i hir), List.length_cons, List.mem_cons, this]
      constructor
      · rintro (q | q)
        · exact absurd q e
        · omega
      · intro q
        right
        omega
theorem mem_take_sortB {f : Nat → Rat} {n i L : Nat} (hi : i < n) : i ∈ (sortB f n).take L ↔ ((List.range n).filter fun j => aheadB f j i).length < L := by
  rw [rank_of _ (sortB_sorted f n) ((sortB_perm f n).mem_iff.mpr (List.mem_range.mpr hi)), ((sortB_perm f n).filter _).length_eq]
def gAt (gs : List Rat) (i : Nat) : Rat := gs.getD i 0
def partF (gs : List Rat) (i : Nat) : Rat := gAt gs i - ((gAt gs i).floor : Rat)
def leftF (gs : List Rat) (c : Int) : Int := c - (gs.map Rat.floor).sum
def fishOf (gs : List Rat) (c : Int) : List Int := (List.range gs.length).map fun i => (gAt gs i).floor + if i ∈ (sortB (partF gs) gs.length).take (leftF gs c).toNat then 1 else 0
theorem gAt_of {gs : List Rat} {i : Nat} {g : Rat} (h : gs[i]? = some g) : gAt gs i = g := by
  unfold gAt
  rw [List.getD_eq_getElem?_getD, h]
  rfl
theorem fishOf_at {gs : List Rat} {c : Int} {i : Nat} (h : i < gs.length) : (fishOf gs c)[i]? = some ((gAt gs i).floor + if i ∈ (sortB (partF gs) gs.length).take (leftF gs c).toNat then 1 else 0) := by
  unfold fishOf
  rw [List.getElem?_map, List.getElem?_range h]
  rfl
theorem fishOf_len (gs : List Rat) (c : Int) : (fishOf gs c).length = gs.length := by
  unfold fishOf
  rw [List.length_map, List.length_range]
theorem part_b (gs : List Rat) (i : Nat) : 0 ≤ partF gs i ∧ partF gs i < 1 := by
  unfold partF
  have h1 := Rat.floor_le (gAt gs i)
  have h2 := Rat.lt_floor_add_one (gAt gs i)
  grind
def fishU (u : Cu) (c : Int) : List Int := fishOf (u.deal (c : Rat)) c
theorem fishU_len {u : Cu} {c : Int} (h : u.Ok) (h0 : 0 ≤ c) (h1 : c ≤ u.sum) : (fishU u c).length = u.claims.length := by
  unfold fishU
  rw [fishOf_len]
  exact deal_len h.ok (by exact_mod_cast h0) (by exact_mod_cast h1)
theorem qsum_floor : ∀ gs : List Rat, (((gs.map Rat.floor).sum : Int) : Rat) ≤ qsum gs ∧ qsum gs ≤ (((gs.map Rat.floor).sum : Int) : Rat) + (gs.length : Rat)
  | [] => ⟨by show ((0 : Int) : Rat) ≤ 0; grind, by show (0 : Rat) ≤ ((0 : Int) : Rat) + ((0 : Nat) : Rat); grind⟩
  | g :: r => by
    have := qsum_floor r
    have h1 := Rat.floor_le g
    have h2 := Rat.lt_floor_add_one g
    rw [List.map_cons, List.sum_cons, Rat.intCast_add, List.length_cons]
    show _ ≤ g + qsum r ∧ g + qsum r ≤ _
    have e : ((r.length + 1 : Nat) : Rat) = (r.length : Rat) + 1 := by exact_mod_cast rfl
    rw [e]
    grind
theorem left_b {gs : List Rat} {c : Int} (h : qsum gs = (c : Rat)) : 0 ≤ leftF gs c ∧ leftF gs c ≤ (gs.length : Int) := by
  obtain ⟨h1, h2⟩ := qsum_floor gs
  rw [h] at h1 h2
  unfold leftF
  have a : (gs.map Rat.floor).sum ≤ c := by exact_mod_cast h1
  have b : c ≤ (gs.map Rat.floor).sum + (gs.length : Int) := by exact_mod_cast h2
  omega
end Pu
set_option maxRecDepth 100000
namespace Pu
open PySem PySem.Spec PyProof.Rows L2
/-! ### customs of claims -/
end Pu
set_option maxRecDepth 100000
namespace Pu
open PySem PySem.Spec PyProof.Rows L2
def fpart (g : Rat) : Rat := g - ((g.floor : Int) : Rat)
end Pu
set_option maxRecDepth 100000
namespace Pu
open PySem PySem.Spec PyProof.Rows L2
/-! ### catches at which some boat gets fewer fish by one fish more -/
end Pu
set_option maxRecDepth 100000
namespace Pu
open PySem PySem.Spec PyProof.Rows L2
/-! ### customs made plain -/
/-! contrary and plain -/
/-- the word ahead in a custom -/
def Cu.w : Cu → Str
  | .boat _ => "boat"
  | .knot y _ _ => y.s
end Pu
set_option maxRecDepth 100000
namespace Pu
open PySem PySem.Spec PyProof.Rows L2
/-! ### () + t; told.extend(t), t a tuple -/
end Pu
set_option maxRecDepth 100000
namespace Pu
open PySem PySem.Spec PyProof.Rows L2
/-! ### the single steps to the plain custom -/
end Pu
set_option maxRecDepth 100000
namespace Pu
open PySem PySem.Spec PyProof.Rows L2
/-! ### a list of lists of one's own -/
def joinH (H0 F : Hp) : Hp := fun a => match F a with
  | some o => some o
  | none => H0 a
theorem joinH_some {H0 F : Hp} {a : Addr} {o : HO} (h : F a = some o) : joinH H0 F a = some o := by unfold joinH; rw [h]
theorem joinH_none {H0 F : Hp} {a : Addr} (h : F a = none) : joinH H0 F a = H0 a := by unfold joinH; rw [h]
theorem joinH_free {H0 F : Hp} {a : Addr} (h : joinH H0 F a = none) : F a = none ∧ H0 a = none := by
  cases e : F a with
  | some o => rw [joinH_some e] at h; cases h
  | none => rw [joinH_none e] at h; exact ⟨rfl, h⟩
structure Nest (R0 H0 F : Hp) (p : Addr) (qs : List Addr) (vss : List (List V)) : Prop where
  top : F p = some (.lst (qs.map V.ref))
  sub : ∀ (j : Nat) (q : Addr) (vs : List V), qs[j]? = some q → vss[j]? = some vs → F q = some (.lst vs)
  len : qs.length = vss.length
  nod : qs.Nodup
  ne : p ∉ qs
  all : ∀ a, F a ≠ none → a = p ∨ a ∈ qs
  new : ∀ a, F a ≠ none → R0 a = none ∧ H0 a = none
section
variable {K : Frag} {R0 H0 R H R' H' F : Hp} {ρ : En} {σ : L2.St}
theorem At.unhide (a : At K R0 (joinH H0 F) R ρ σ H) (hn : ∀ x, F x ≠ none → H0 x = none) : At K R0 H0 R ρ σ H where
  gr := ⟨a.gr.rd, fun b x e => a.gr.hp b x (by
    rw [joinH_none, e]
    cases q : F b with
    | none => rfl
    | some o =>
      have := hn b (by rw [q]; exact fun z => nomatch z)
      rw [this] at e
      cases e), a.gr.sub, fun x e n => (joinH_free (a.gr.new x e n)).2⟩
  len := a.len
  val := a.val
  own := fun i ds e => by
    obtain ⟨p, vs, h1, h2, h3, h4, h5⟩ := a.own i ds e
    exact ⟨p, vs, h1, h2, h3, h4, (joinH_free h5).2⟩
  raw := a.raw
  apart := a.apart
  fa := ⟨fun i v S P e => by
    obtain ⟨g1, g2, g3, g4⟩ := a.fa.at_ i v S P e
    exact ⟨g1, g2, g3, fun b hb => ⟨(g4 b hb).1, (g4 b hb).2.1, (joinH_free (g4 b hb).2.2).2⟩⟩, a.fa.off, a.fa.two⟩
end
/-- the state; the list of lists stands in a raw slot -/
def AtN (K : Frag) (R0 H0 R : Hp) (ρf : V → En) (dss : List (List D)) (σ : L2.St) (H : Hp) : Prop := ∃ F p qs vss, Nest R0 H0 F p qs vss ∧ At K R0 (joinH H0 F) R (ρf (.ref p)) σ H ∧ vss.length = dss.length ∧ ∀ (j : Nat) (vs : List V) (ds : List D), vss[j]? = some vs → dss[j]? = some ds → DpAll K R vs ds
section
variable {K : Frag} {R0 H0 R H R' H' : Hp} {ρf : V → En} {dss : List (List D)} {σ : L2.St}
theorem AtN.at (n : AtN K R0 H0 R ρf dss σ H) : ∃ v, At K R0 H0 R (ρf v) σ H := by
  obtain ⟨F, p, qs, vss, N, a, _⟩ := n
  exact ⟨_, a.unhide fun x h => (N.new x h).2⟩
theorem AtN.gr (n : AtN K R0 H0 R ρf dss σ H) : Grow R0 H0 R H := by
  obtain ⟨v, a⟩ := n.at
  exact a.gr
theorem AtN.grow (n : AtN K R0 H0 R ρf dss σ H) (g : Grow R H R' H') : AtN K R0 H0 R' ρf dss σ H' := by
  obtain ⟨F, p, qs, vss, N, a, hl, hd⟩ := n
  exact ⟨F, p, qs, vss, N, a.grow g, hl, fun j vs ds h1 h2 => dpa_mono g.rd _ _ (hd j vs ds h1 h2)⟩
theorem AtN.later (n : AtN K R0 H0 R ρf dss σ H) : AtN K R H0 R ρf dss σ H := by
  obtain ⟨F, p, qs, vss, N, a, hl, hd⟩ := n
  refine ⟨F, p, qs, vss, ⟨N.top, N.sub, N.len, N.nod, N.ne, N.all, fun x h => ⟨?_, (N.new x h).2⟩⟩, a.later a.gr (Same.refl R), hl, hd⟩
  cases e : R x with
  | none => rfl
  | some o =>
    have := (joinH_free (a.gr.new x (N.new x h).1 (by rw [e]; exact fun z => nomatch z))).1
    exact absurd this h
theorem AtN.back (n : AtN K R' H0 R ρf dss σ H) {H1 : Hp} (g : Grow R0 H0 R' H1) : AtN K R0 H0 R ρf dss σ H := by
  obtain ⟨F, p, qs, vss, N, a, hl, hd⟩ := n
  have g2 : Grow R0 (joinH H0 F) R' H := ⟨g.rd, a.gr.hp, a.gr.rd.trans a.gr.sub, fun x e n => by
    cases q : F x with
    | some o => exact absurd (N.new x (by rw [q]; exact fun z => nomatch z)).1 n
    | none => rw [joinH_none q]; exact g.new x e n⟩
  refine ⟨F, p, qs, vss, ⟨N.top, N.sub, N.len, N.nod, N.ne, N.all, fun x h => ⟨?_, (N.new x h).2⟩⟩, a.back g2, hl, hd⟩
  cases e : R0 x with
  | none => rfl
  | some o =>
    have := g.rd x o e
    rw [(N.new x h).1] at this
    cases this
end
section
variable {K : Frag} {W : WX} {ex : Value → En → Prop} {ts t u tb : TS} {ρf ρf' : V → En} {dss : List (List D)} {nx : (V → En) → List (List D) → Prop} {ds : List D} {d : D} {g : TG} {te tk : TE} {i : Nat}
/-- the list of lists becomes data that stays -/
theorem AtN.show_ {R0 H0 R H : Hp} {σ : L2.St} (n : AtN K R0 H0 R ρf dss σ H) (hi : ∀ v, (ρf v)[i]? = some (.raw v)) : ∃ R' v, At K R0 H0 R' ((ρf v).set i (.val (.list (dss.map PyData.list)))) σ H := by
  obtain ⟨F, p, qs, vss, N, a, hl, hd⟩ := n
  have b := a.unhide fun x h => (N.new x h).2
  have hR : ∀ x, F x ≠ none → R x = none := fun x h => by
    cases e : R x with
    | none => rfl
    | some o => exact absurd (joinH_free (a.gr.new x (N.new x h).1 (by rw [e]; exact fun z => nomatch z))).1 h
  have rr : Same R (joinH R F) := fun x o e => by
    rw [joinH_none, e]
    cases q : F x with
    | none => rfl
    | some o2 => rw [hR x (by rw [q]; exact fun z => nomatch z)] at e; cases e
  have G : Grow R0 H0 (joinH R F) H := ⟨b.gr.rd.trans rr, b.gr.hp, fun x o e => by
    cases q : F x with
    | some o2 => rw [joinH_some q] at e; cases e; exact a.gr.hp x _ (joinH_some q)
    | none => rw [joinH_none q] at e; exact a.gr.sub x o e, fun x e n => by
    cases q : F x with
    | some o2 => exact (N.new x (by rw [q]; exact fun z => nomatch z)).2
    | none => rw [joinH_none q] at n; exact b.gr.new x e n⟩
  have c : At K R0 H0 (joinH R F) (ρf (.ref p)) σ H := ⟨G, a.len, fun j d e => by
    obtain ⟨v, h1, h2⟩ := a.val j d e
    exact ⟨v, h1, dp_mono rr _ _ h2⟩, fun j ds e => by
    obtain ⟨p2, vs2, h1, h2, h3, h4, h5⟩ := a.own j ds e
    obtain ⟨f1, f2⟩ := joinH_free h5
    exact ⟨p2, vs2, h1, h2, dpa_mono rr _ _ h3, by rw [joinH_none f1]; exact h4, f2⟩, a.raw, a.apart, ⟨fun i v S P e => by
    obtain ⟨g1, g2, g3, g4⟩ := a.fa.at_ i v S P e
    refine ⟨g1, g2, g2 R H _ H rr (fun _ _ _ z => z) g3, fun b hb => ?_⟩
    obtain ⟨k1, k2, k3⟩ := g4 b hb
    obtain ⟨f1, f2⟩ := joinH_free k3
    exact ⟨k1, by rw [joinH_none f1]; exact k2, f2⟩, a.fa.off, a.fa.two⟩⟩
  have hσ := a.raw i _ (hi (.ref p))
  have key : ∀ (qs : List Addr) (vss : List (List V)) (dss : List (List D)), qs.length = vss.length → vss.length = dss.length → (∀ j q vs ds, qs[j]? = some q → vss[j]? = some vs → dss[j]? = some ds → F q = some (.lst vs) ∧ DpAll K R vs ds) → DpAll K (joinH R F) (qs.map V.ref) (dss.map PyData.list) := fun qs => by
    induction qs with
    | nil =>
      intro vss dss l1 l2 _
      cases vss with
      | nil =>
        cases dss with
        | nil => exact .nil
        | cons _ _ => cases l2
      | cons _ _ => cases l1
    | cons q r ih =>
      intro vss dss l1 l2 h
      cases vss with
      | nil => cases l1
      | cons vs vr =>
        cases dss with
        | nil => cases l2
        | cons ds dr =>
          obtain ⟨h1, h2⟩ := h 0 q vs ds rfl rfl rfl
          exact .cons (.lst (SqL.of (joinH_some h1)) (dpa_mono rr _ _ h2)) (ih vr dr (by simpa using l1) (by simpa using l2) fun j q vs ds e1 e2 e3 => h (j + 1) q vs ds e1 e2 e3)
  have dv : Dp K (joinH R F) (.ref p) (.list (dss.map PyData.list)) := .lst (SqL.of (joinH_some N.top)) (key qs vss dss N.len hl fun j q vs ds e1 e2 e3 => ⟨N.sub j q vs e1 e2, hd j vs ds e2 e3⟩)
  have e := c.set (i := i) dv
  have hset : σ.set i (some (.ref p)) = σ := by
    refine List.ext_getElem? fun k => ?_
    by_cases z : i = k
    · subst z
      rw [List.getElem?_set_self (List.getElem?_eq_some_iff.mp hσ).1, hσ]
    · rw [List.getElem?_set_ne z]
  rw [hset] at e
  exact ⟨_, _, e⟩
end
end Pu
set_option maxRecDepth 100000
namespace Pu
open PySem PySem.Spec PyProof.Rows L2
/-! ### lines of ways: the plain law -/
/-- the line in its fewest points that ends at e and goes by f -/
structure IsW (f : Rat → Rat) (e : Pt) (W : List Pt) : Prop where
  good : GoodL W
  canon : Canon W
  last : lineEnd W = e
  ev : ∀ x, 0 ≤ x → x ≤ e.1 → lineEv W x = f x
theorem IsW.uniq {f : Rat → Rat} {e : Pt} {W V : List Pt} (h : IsW f e W) (g : IsW f e V) : W = V := line_uniq h.good g.good h.canon g.canon (by rw [h.last, g.last]) fun x h0 h1 => by
  rw [h.last] at h1
  rw [h.ev x h0 h1, g.ev x h0 h1]
/-! row -/
/-! even -/
end Pu
set_option maxRecDepth 100000
namespace Pu
open PySem PySem.Spec PyProof.Rows L2
/-! part -/
/-! lack -/
/-! half -/
/-! row, back -/
/-! the levels -/
end Pu
set_option maxRecDepth 100000
namespace Pu
open PySem PySem.Spec PyProof.Rows L2
/-! ### lines of ways: sizes, contracts -/
/-- claims and weights of a way, of a size -/
structure Wy.In (y : Wy) (ws cs : List Int) (B : Nat) : Prop where
  ne : cs ≠ []
  nn : ∀ c ∈ cs, 0 ≤ c
  len : cs.length ≤ 12
  sc : small cs B
  b0 : 0 < B
  b1 : B ≤ 1000
  wt : y.wd = true → ws.length = cs.length ∧ ∀ w ∈ ws, 1 ≤ w ∧ w ≤ 1000000
theorem Wy.In.fit {y : Wy} {ws cs : List Int} {B : Nat} (h : y.In ws cs B) : Fit y (qlist ws) (qlist cs) := ⟨fun z => h.ne (List.map_eq_nil_iff.mp z), fun c hc => by
  obtain ⟨n, hn, rfl⟩ := List.mem_map.mp hc
  exact_mod_cast h.nn n hn, fun e => ⟨by rw [qlist_len, qlist_len]; exact (h.wt e).1, fun w hw => by
  obtain ⟨n, hn, rfl⟩ := List.mem_map.mp hw
  have := ((h.wt e).2 n hn).1
  exact_mod_cast (show (0 : Int) < n by omega)⟩⟩
/-! sizes -/
/-! contracts -/
structure WsIn (ws cs : List Int) (B : Nat) : Prop where
  len : ws.length = cs.length
  few : cs.length ≤ 12
  ne : cs ≠ []
  nn : ∀ c ∈ cs, 0 ≤ c
  wb : ∀ w ∈ ws, 1 ≤ w ∧ w ≤ 1000000
  sc : small cs B
  b0 : 0 < B
  b1 : B ≤ 1000
theorem WsIn.ok {ws cs : List Int} {B : Nat} (h : WsIn ws cs B) : WOk (qlist ws) (qlist cs) := ⟨by rw [qlist_len, qlist_len]; exact h.len, fun w hw => by
  obtain ⟨n, hn, rfl⟩ := List.mem_map.mp hw
  have := (h.wb n hn).1
  exact_mod_cast (show (0 : Int) < n by omega), fun c hc => by
  obtain ⟨n, hn, rfl⟩ := List.mem_map.mp hc
  exact_mod_cast h.nn n hn⟩
end Pu
set_option maxRecDepth 100000
namespace Pu
open PySem PySem.Spec PyProof.Rows L2
/-! ### lines of customs -/
end Pu
set_option maxRecDepth 100000
namespace Pu
open PySem PySem.Spec PyProof.Rows L2
/-! ### the customs of the laws of lines -/
end Pu
set_option maxRecDepth 100000
namespace Pu
open PySem PySem.Spec PyProof.Rows L2
/-! ### the line of one boat; the catches of an amount -/
end Pu
set_option maxRecDepth 100000
namespace Pu
open PySem PySem.Spec PyProof.Rows L2
/-! ### how long the catches of an amount are -/
end Pu
set_option maxRecDepth 100000
namespace Pu
open PySem PySem.Spec PyProof.Rows L2
/-! ### lines of ways: turned about; the points of even lines -/
theorem Wy.con_wd (y : Wy) : y.con.wd = y.wd := by cases y <;> rfl
theorem Wy.In.con {y : Wy} {ws cs : List Int} {B : Nat} (h : y.In ws cs B) : y.con.In ws cs B := ⟨h.ne, h.nn, h.len, h.sc, h.b0, h.b1, fun e => h.wt (by rw [← Wy.con_wd]; exact e)⟩
theorem qW_ok {ws cs : List Int} (hl : ws.length = cs.length) (hw : ∀ w ∈ ws, 1 ≤ w ∧ w ≤ 1000000) (hc : ∀ c ∈ cs, 0 ≤ c) : WOk (qlist ws) (qlist cs) := ⟨by rw [qlist_len, qlist_len]; exact hl, fun w h => by
  obtain ⟨n, hn, rfl⟩ := List.mem_map.mp h
  have := (hw n hn).1
  exact_mod_cast (show (0 : Int) < n by omega), nn_q hc⟩
end Pu
set_option maxRecDepth 100000
set_option maxHeartbeats 1000000
namespace Pu
open PySem PySem.Spec PyProof.Rows L2
/-! ### zip of three lists or tuples -/
end Pu
set_option maxRecDepth 100000
set_option maxHeartbeats 1000000
namespace Pu
open PySem PySem.Spec PyProof.Rows L2
/-! ### the plain custom deals alike -/
end Pu
set_option maxRecDepth 100000
set_option maxHeartbeats 1000000
namespace Pu
open PySem PySem.Spec PyProof.Rows L2
/-! ### a loop over an own list that does not change in it -/
end Pu
set_option maxRecDepth 100000
set_option maxHeartbeats 1000000
namespace Pu
open PySem PySem.Spec PyProof.Rows L2
/-! ### lines of ways, as the laws write them -/
end Pu
set_option maxRecDepth 100000
set_option maxHeartbeats 1000000
namespace Pu
open PySem PySem.Spec PyProof.Rows L2
/-! ### no fish is better elsewhere -/
theorem map_gAt (gs : List Rat) : (List.range gs.length).map (gAt gs) = gs := by
  refine List.ext_getElem? fun i => ?_
  by_cases hi : i < gs.length
  · rw [List.getElem?_map, List.getElem?_range hi, List.getElem?_eq_getElem hi]
    exact congrArg some (gAt_of (List.getElem?_eq_getElem hi))
  · rw [List.getElem?_eq_none_iff.mpr (by rw [List.length_map, List.length_range]; omega), List.getElem?_eq_none_iff.mpr (by omega)]
def extraF (gs : List Rat) (c : Int) (i : Nat) : Int := if i ∈ (sortB (partF gs) gs.length).take (leftF gs c).toNat then 1 else 0
theorem fish_at {gs : List Rat} {c : Int} {i : Nat} (h : i < gs.length) : (fishOf gs c)[i]? = some ((gAt gs i).floor + extraF gs c i) := fishOf_at h
theorem extra_01 (gs : List Rat) (c : Int) (i : Nat) : extraF gs c i = 0 ∨ extraF gs c i = 1 := by
  unfold extraF
  split
  · exact .inr rfl
  · exact .inl rfl
theorem extra_iff {gs : List Rat} {c : Int} {i : Nat} (h : i < gs.length) : extraF gs c i = 1 ↔ ((List.range gs.length).filter fun j => aheadB (partF gs) j i).length < (leftF gs c).toNat := by
  unfold extraF
  rw [← mem_take_sortB h]
  split
  · rename_i q; exact ⟨fun _ => q, fun _ => rfl⟩
  · rename_i q; exact ⟨fun z => absurd z (by decide), fun z => absurd z q⟩
theorem fr_part' (gs : List Rat) (i : Nat) : gAt gs i = ((gAt gs i).floor : Rat) + partF gs i := by
  unfold partF
  grind
/-- who gets an extra fish has a broken part -/
theorem qsum_parts : ∀ gs : List Rat, qsum gs = (((gs.map Rat.floor).sum : Int) : Rat) + qsum (gs.map fpart)
  | [] => by
    show (0 : Rat) = ((0 : Int) : Rat) + 0
    rw [Rat.add_zero]
    rfl
  | g :: r => by
    show g + qsum r = (((g.floor + (r.map Rat.floor).sum : Int)) : Rat) + (fpart g + qsum (r.map fpart))
    rw [qsum_parts r, Rat.intCast_add]
    unfold fpart
    grind
theorem pos_many : ∀ ps : List Rat, (∀ p ∈ ps, 0 ≤ p ∧ p < 1) → qsum ps ≤ ((ps.filter fun p => decide (0 < p)).length : Rat) ∧ (0 < qsum ps → qsum ps < ((ps.filter fun p => decide (0 < p)).length : Rat))
  | [], _ => ⟨Rat.le_refl, fun h => absurd h (Rat.not_lt.mpr Rat.le_refl)⟩
  | p :: r, h => by
    obtain ⟨h0, h1⟩ := h p List.mem_cons_self
    obtain ⟨q0, q1⟩ := pos_many r fun x hx => h x (List.mem_cons_of_mem _ hx)
    by_cases hp : 0 < p
    · rw [List.filter_cons_of_pos (by simpa using hp), List.length_cons]
      have e : ((((r.filter fun p => decide (0 < p)).length + 1 : Nat)) : Rat) = (((r.filter fun p => decide (0 < p)).length : Nat) : Rat) + 1 := by push_cast; rfl
      rw [e]
      show p + qsum r ≤ _ ∧ (0 < p + qsum r → p + qsum r < _)
      refine ⟨by grind, fun _ => by grind⟩
    · rw [List.filter_cons_of_neg (by simpa using hp)]
      have e : p = 0 := by grind
      show p + qsum r ≤ _ ∧ (0 < p + qsum r → p + qsum r < _)
      rw [e, Rat.zero_add]
      exact ⟨q0, q1⟩
theorem extra_part {gs : List Rat} {c : Int} {i : Nat} (h : qsum gs = (c : Rat)) (hi : i < gs.length) (e : extraF gs c i = 1) : 0 < partF gs i := by
  refine Classical.byContradiction fun hn => ?_
  have hz : partF gs i = 0 := by have := (part_b gs i).1; grind
  have q := (extra_iff hi).mp e
  obtain ⟨l0, l1⟩ := left_b h
  -- all with a broken part are ahead
  have le : ((List.range gs.length).filter fun j => decide (0 < partF gs j)).length ≤ ((List.range gs.length).filter fun k => aheadB (partF gs) k i).length := by
    rw [← List.countP_eq_length_filter, ← List.countP_eq_length_filter]
    refine List.countP_mono_left fun k _ hk => ?_
    rw [aheadB_iff, hz]
    exact .inl (of_decide_eq_true hk)
  have hps : (List.range gs.length).map (partF gs) = gs.map fpart := by
    have := congrArg (List.map fpart) (map_gAt gs)
    rw [List.map_map] at this
    exact this
  have hl : ((List.range gs.length).filter fun j => decide (0 < partF gs j)).length = ((gs.map fpart).filter fun p => decide (0 < p)).length := by
    rw [← hps, List.filter_map, List.length_map]
    rfl
  have hb : ∀ p ∈ gs.map fpart, 0 ≤ p ∧ p < 1 := fun p hp => by
    rw [← hps] at hp
    obtain ⟨j, _, rfl⟩ := List.mem_map.mp hp
    exact part_b gs j
  obtain ⟨m0, m1⟩ := pos_many _ hb
  have hq := qsum_parts gs
  rw [h] at hq
  have hL : ((leftF gs c : Int) : Rat) = qsum (gs.map fpart) := by
    unfold leftF
    rw [Rat.intCast_sub]
    grind
  have hLn : ((((leftF gs c).toNat : Nat)) : Rat) = ((leftF gs c : Int) : Rat) := by
    have : (((leftF gs c).toNat : Nat) : Int) = leftF gs c := Int.toNat_of_nonneg l0
    rw [← this]
    rfl
  have hpos : 0 < qsum (gs.map fpart) := by
    rw [← hL]
    have : (0 : Int) < leftF gs c := by omega
    exact_mod_cast this
  have := m1 hpos
  rw [← hL, ← hLn] at this
  have h2 : (leftF gs c).toNat < ((gs.map fpart).filter fun p => decide (0 < p)).length := by exact_mod_cast this
  omega
theorem fish_near {gs : List Rat} {c k : Int} {i : Nat} (h : qsum gs = (c : Rat)) (hi : i < gs.length) (h0 : 0 ≤ gAt gs i) (h1 : gAt gs i ≤ (k : Rat)) :
    0 ≤ (gAt gs i).floor + extraF gs c i ∧ (gAt gs i).floor + extraF gs c i ≤ k ∧ (((gAt gs i).floor + extraF gs c i : Int) : Rat) - gAt gs i < 1 ∧ gAt gs i - (((gAt gs i).floor + extraF gs c i : Int) : Rat) < 1 := by
  obtain ⟨a0, a1⟩ := part_b gs i
  have hg := fr_part' gs i
  have f0 : 0 ≤ (gAt gs i).floor := by
    have := Rat.le_floor_iff (x := 0) (a := gAt gs i)
    exact this.mpr (by exact_mod_cast h0)
  rw [Rat.intCast_add]
  rcases extra_01 gs c i with e | e
  · rw [e]
    refine ⟨by omega, ?_, ?_, ?_⟩
    · have : (((gAt gs i).floor : Int) : Rat) ≤ (k : Rat) := by grind
      have : (gAt gs i).floor ≤ k := by exact_mod_cast this
      omega
    · grind
    · grind
  · have hp := extra_part h hi e
    rw [e]
    refine ⟨by omega, ?_, ?_, ?_⟩
    · have : (((gAt gs i).floor : Int) : Rat) < (k : Rat) := by grind
      have : (gAt gs i).floor < k := by exact_mod_cast this
      omega
    · grind
    · grind
/-! ### the same with whole numbers -/
end Pu
set_option maxRecDepth 100000
set_option maxHeartbeats 1000000
namespace Pu
open PySem PySem.Spec PyProof.Rows L2
/-! ### each two of those who are dealt to, alone -/
/-- the pair's two amounts are what the way deals to them alone -/
def pairOk (y : Wy) (ws cs xs : List Rat) (i j : Nat) : Prop := 0 ≤ gD xs i + gD xs j ∧ gD xs i + gD xs j ≤ gD cs i + gD cs j ∧ dealOf y [gD ws i, gD ws j] [gD cs i, gD cs j] (gD xs i + gD xs j) = [gD xs i, gD xs j]
end Pu
set_option maxRecDepth 100000
set_option maxHeartbeats 1000000
namespace Pu
open PySem PySem.Spec PyProof.Rows L2
/-! ### customs drawn, as the later laws draw them -/
end Pu
set_option maxRecDepth 100000
set_option maxHeartbeats 1000000
namespace Pu
open PySem PySem.Spec PyProof.Rows L2
/-! ### closer bounds of what is dealt -/
theorem isum_b {ns : List Int} {B : Nat} (h : small ns B) (hl : ns.length ≤ 128) : ns.sum.natAbs < 2 ^ (B + 8) := sum_lt h hl
/-- the sum at a level: the full ones' claims, and the others' weights times the level -/
theorem lvls_split (l : Rat) : ∀ (ws cs : List Int), ws.length = cs.length → (∀ w ∈ ws, 0 < w) → ∃ as rs : List Int, as.length ≤ cs.length ∧ rs.length ≤ ws.length ∧ (∀ a ∈ as, a ∈ cs) ∧ (∀ r ∈ rs, r ∈ ws) ∧ qsum (lvls (qlist ws) (qlist cs) l) = (as.sum : Rat) + (rs.sum : Rat) * l ∧ (∀ (i : Nat) (w c : Int), ws[i]? = some w → cs[i]? = some c → (w : Rat) * l < (c : Rat) → w ∈ rs)
  | [], [], _, _ => ⟨[], [], Nat.le_refl _, Nat.le_refl _, fun _ h => h, fun _ h => h, by
      show (0 : Rat) = ((0 : Int) : Rat) + ((0 : Int) : Rat) * l
      grind, fun i w c h => by simp at h⟩
  | w :: ws, c :: cs, hl, hw => by
    obtain ⟨as, rs, a1, a2, a3, a4, a5, a6⟩ := lvls_split l ws cs (Nat.succ.inj hl) fun x hx => hw x (List.mem_cons_of_mem _ hx)
    have e : qsum (lvls (qlist (w :: ws)) (qlist (c :: cs)) l) = lvl (w : Rat) (c : Rat) l + qsum (lvls (qlist ws) (qlist cs) l) := rfl
    by_cases h : (w : Rat) * l < (c : Rat)
    · refine ⟨as, w :: rs, by simp; omega, by simp; omega, fun a ha => List.mem_cons_of_mem _ (a3 a ha), fun r hr => ?_, ?_, fun i w' c' h1 h2 h3 => ?_⟩
      · rcases List.mem_cons.mp hr with rfl | hr
        · exact List.mem_cons_self
        · exact List.mem_cons_of_mem _ (a4 r hr)
      · rw [e, a5, List.sum_cons, Rat.intCast_add]
        unfold lvl
        rw [if_pos h]
        grind
      · cases i with
        | zero =>
          obtain rfl := Option.some.inj (show some w = some w' from h1)
          exact List.mem_cons_self
        | succ i => exact List.mem_cons_of_mem _ (a6 i w' c' (by simpa using h1) (by simpa using h2) h3)
    · refine ⟨c :: as, rs, by simp; omega, by simp; omega, fun a ha => ?_, fun r hr => List.mem_cons_of_mem _ (a4 r hr), ?_, fun i w' c' h1 h2 h3 => ?_⟩
      · rcases List.mem_cons.mp ha with rfl | ha
        · exact List.mem_cons_self
        · exact List.mem_cons_of_mem _ (a3 a ha)
      · rw [e, a5, List.sum_cons, Rat.intCast_add]
        unfold lvl
        rw [if_neg h]
        grind
      · cases i with
        | zero =>
          obtain rfl := Option.some.inj (show some w = some w' from h1)
          obtain rfl := Option.some.inj (show some c = some c' from h2)
          exact absurd h3 h
        | succ i => exact a6 i w' c' (by simpa using h1) (by simpa using h2) h3
  | [], _ :: _, h, _ => absurd h (by simp)
  | _ :: _, [], h, _ => absurd h (by simp)
theorem sum_pos_of {rs : List Int} (h : ∀ r ∈ rs, 0 < r) (hne : rs ≠ []) : 0 < rs.sum := by
  induction rs with
  | nil => exact absurd rfl hne
  | cons r s ih =>
    rw [List.sum_cons]
    have h1 := h r List.mem_cons_self
    by_cases e : s = []
    · rw [e]; simpa using h1
    · have := ih (fun x hx => h x (List.mem_cons_of_mem _ hx)) e
      omega
theorem qlist_take (cs : List Int) (k : Nat) : (qlist cs).take k = qlist (cs.take k) := by
  unfold qlist
  rw [List.map_take]
structure Din (y : Wy) (ws cs : List Int) (B : Nat) : Prop where
  ne : cs ≠ []
  nn : ∀ c ∈ cs, 0 ≤ c
  len : cs.length ≤ 64
  sc : small cs B
  b0 : 0 < B
  wt : y.wd = true → ws.length = cs.length ∧ ∀ w ∈ ws, 1 ≤ w ∧ w ≤ 1000000
theorem knot_din {y : Wy} {ws : List Int} {ks : List Cu} (h : (Cu.knot y ws ks).Ok) : Din y ws (ks.map Cu.sum) 40 := by
  have hl := h.ok.1.2.1
  refine ⟨fun z => h.ok.1.1 (by
    have := congrArg List.length z
    rw [List.length_map] at this
    exact List.length_eq_zero_iff.mp this), sums_nn h, by rw [List.length_map]; omega, sums_small h, by decide, fun hy => ?_⟩
  have := wfit_iff.mp h.ok.1.2.2
  rw [if_pos hy] at this
  rw [List.length_map]
  exact this
end Pu
set_option maxRecDepth 100000
set_option maxHeartbeats 1000000
namespace Pu
open PySem PySem.Spec PyProof.Rows L2
/-! ### amounts, kid by kid -/
def partsF : List Cu → List Rat → List (List Rat)
  | [], _ => []
  | k :: r, xs => xs.take k.claims.length :: partsF r (xs.drop k.claims.length)
def sumsF (ks : List Cu) (xs : List Rat) : List Rat := (partsF ks xs).map qsum
/-! ### the first pair that is wrong -/
def isFirst (W : Nat → Nat → Bool) (n : Nat) : Option (Nat × Nat) → Prop
  | none => ∀ i j, i < j → j < n → W i j = false
  | some (i, j) => i < j ∧ j < n ∧ W i j = true ∧ ∀ a b, a < b → b < n → (a < i ∨ (a = i ∧ b < j)) → W a b = false
theorem isFirst_uniq {W : Nat → Nat → Bool} {n : Nat} : ∀ {o p : Option (Nat × Nat)}, isFirst W n o → isFirst W n p → o = p
  | none, none, _, _ => rfl
  | none, some (i, j), h, g => by
    obtain ⟨g1, g2, g3, _⟩ := g
    rw [h i j g1 g2] at g3
    cases g3
  | some (i, j), none, h, g => by
    obtain ⟨g1, g2, g3, _⟩ := h
    rw [g i j g1 g2] at g3
    cases g3
  | some (i, j), some (a, b), h, g => by
    obtain ⟨h1, h2, h3, h4⟩ := h
    obtain ⟨g1, g2, g3, g4⟩ := g
    by_cases e : i < a ∨ (i = a ∧ j < b)
    · rw [g4 i j h1 h2 e] at h3
      cases h3
    · by_cases f : a < i ∨ (a = i ∧ b < j)
      · rw [h4 a b g1 g2 f] at g3
        cases g3
      · have : i = a ∧ j = b := by omega
        rw [this.1, this.2]
instance (y : Wy) (ws cs xs : List Rat) (i j : Nat) : Decidable (pairOk y ws cs xs i j) := by
  unfold pairOk
  infer_instance
def wrongW (y : Wy) (ws : List Int) (ks : List Cu) (ss : List Rat) (i j : Nat) : Bool := !decide (pairOk y (qlist ws) (qlist (ks.map Cu.sum)) ss i j)
abbrev Wr := Option (List Nat × Nat × Nat)
mutual
def isWrong : Cu → List Rat → Wr → Prop
  | .boat _, _, o => o = none
  | .knot y ws ks, xs, o => (∃ i j, isFirst (wrongW y ws ks (sumsF ks xs)) ks.length (some (i, j)) ∧ o = some ([], i, j)) ∨ (isFirst (wrongW y ws ks (sumsF ks xs)) ks.length none ∧ isWrongL ks xs 0 o)
def isWrongL : List Cu → List Rat → Nat → Wr → Prop
  | [], _, _, o => o = none
  | k :: r, xs, m, o => (∃ p i j, isWrong k (xs.take k.claims.length) (some (p, i, j)) ∧ o = some (m :: p, i, j)) ∨ (isWrong k (xs.take k.claims.length) none ∧ isWrongL r (xs.drop k.claims.length) (m + 1) o)
end
theorem isWrongL_uniq : ∀ (ks : List Cu) (xs : List Rat) (m : Nat) (o p : Wr), (∀ k ∈ ks, ∀ xs o p, isWrong k xs o → isWrong k xs p → o = p) → isWrongL ks xs m o → isWrongL ks xs m p → o = p
  | [], _, _, o, p, _, h, g => by
    have h' : o = none := h
    have g' : p = none := g
    rw [h', g']
  | k :: r, xs, m, o, p, ih, h, g => by
    have hk := ih k List.mem_cons_self (xs.take k.claims.length)
    rcases h with ⟨a, i, j, h1, rfl⟩ | ⟨h1, h2⟩
    · rcases g with ⟨b, i', j', g1, rfl⟩ | ⟨g1, _⟩
      · have := hk _ _ h1 g1
        cases this
        rfl
      · have := hk _ _ h1 g1
        cases this
    · rcases g with ⟨b, i', j', g1, rfl⟩ | ⟨g1, g2⟩
      · have := hk _ _ h1 g1
        cases this
      · exact isWrongL_uniq r _ _ o p (fun k hk => ih k (List.mem_cons_of_mem _ hk)) h2 g2
theorem isWrong_uniq : ∀ (u : Cu) (xs : List Rat) (o p : Wr), isWrong u xs o → isWrong u xs p → o = p := fun u => Cu.ind (P := fun u => ∀ (xs : List Rat) (o p : Wr), isWrong u xs o → isWrong u xs p → o = p) (fun c xs o p h g => by
    have h' : o = none := h
    have g' : p = none := g
    rw [h', g']) (fun y ws ks ih xs o p h g => by
    rcases h with ⟨i, j, h1, rfl⟩ | ⟨h1, h2⟩
    · rcases g with ⟨a, b, g1, rfl⟩ | ⟨g1, _⟩
      · have := isFirst_uniq h1 g1
        cases this
        rfl
      · have := isFirst_uniq h1 g1
        cases this
    · rcases g with ⟨a, b, g1, rfl⟩ | ⟨g1, g2⟩
      · have := isFirst_uniq h1 g1
        cases this
      · exact isWrongL_uniq ks xs 0 o p ih h2 g2) u
/-! ### no pair is wrong: just what the custom deals -/
end Pu
set_option maxRecDepth 100000
set_option maxHeartbeats 1000000
namespace Pu
open PySem PySem.Spec PyProof.Rows L2
/-! ### contracts of what finds back -/
def beyQ (q : Rat) (c : Int) : Bool := decide (q < 0) || decide ((c : Rat) < q)
def isOver (cs : List Int) (xs : List Rat) : Option Nat → Prop
  | none => ∀ (i : Nat) (x : Rat) (c : Int), xs[i]? = some x → cs[i]? = some c → beyQ x c = false
  | some m => (∃ x c, xs[m]? = some x ∧ cs[m]? = some c ∧ beyQ x c = true) ∧ ∀ (i : Nat) (x : Rat) (c : Int), i < m → xs[i]? = some x → cs[i]? = some c → beyQ x c = false
theorem isOver_uniq {cs : List Int} {xs : List Rat} : ∀ {o p : Option Nat}, isOver cs xs o → isOver cs xs p → o = p
  | none, none, _, _ => rfl
  | none, some m, h, g => by
    obtain ⟨⟨x, c, h1, h2, h3⟩, _⟩ := g
    rw [h m x c h1 h2] at h3
    cases h3
  | some m, none, h, g => by
    obtain ⟨⟨x, c, h1, h2, h3⟩, _⟩ := h
    rw [g m x c h1 h2] at h3
    cases h3
  | some m, some l, h, g => by
    obtain ⟨⟨x, c, h1, h2, h3⟩, h4⟩ := h
    obtain ⟨⟨x', c', g1, g2, g3⟩, g4⟩ := g
    by_cases e : m < l
    · rw [g4 m x c e h1 h2] at h3
      cases h3
    · by_cases f : l < m
      · rw [h4 l x' c' f g1 g2] at g3
        cases g3
      · rw [show m = l by omega]
/-- the told paper -/
inductive isFound (u : Cu) (xs : List Rat) : D → Prop
  | over (m : Nat) (h : isOver u.claims xs (some m)) : isFound u xs (.tuple [.str "over", .int (m : Int)])
  | pair (p : List Nat) (i j : Nat) (h : isOver u.claims xs none) (w : isWrong u xs (some (p, i, j))) : isFound u xs (.tuple [.str "pair", .tuple (natD p), .int (i : Int), .int (j : Int)])
  | catch_ (h : isOver u.claims xs none) (w : isWrong u xs none) : isFound u xs (.tuple [.str "catch", fr (qsum xs)])
theorem isFound_uniq {u : Cu} {xs : List Rat} {d e : D} (h : isFound u xs d) (g : isFound u xs e) : d = e := by
  cases h with
  | over m h =>
    cases g with
    | over l g =>
      have := isOver_uniq h g
      cases this
      rfl
    | pair p i j g w => exact absurd (isOver_uniq h g) (fun z => nomatch z)
    | catch_ g w => exact absurd (isOver_uniq h g) (fun z => nomatch z)
  | pair p i j h w =>
    cases g with
    | over l g => exact absurd (isOver_uniq h g) (fun z => nomatch z)
    | pair p' i' j' g w' =>
      have := isWrong_uniq u xs _ _ w w'
      cases this
      rfl
    | catch_ g w' => exact absurd (isWrong_uniq u xs _ _ w w') (fun z => nomatch z)
  | catch_ h w =>
    cases g with
    | over l g => exact absurd (isOver_uniq h g) (fun z => nomatch z)
    | pair p' i' j' g w' => exact absurd (isWrong_uniq u xs _ _ w w') (fun z => nomatch z)
    | catch_ g w' => rfl
/-! sizes of sums -/
end Pu
set_option maxRecDepth 100000
set_option maxHeartbeats 1000000
namespace Pu
open PySem PySem.Spec PyProof.Rows L2
/-! ### enumerate of a list or a tuple -/
end Pu
set_option maxRecDepth 100000
set_option maxHeartbeats 1000000
namespace Pu
open PySem PySem.Spec PyProof.Rows L2
/-! ### what papers show -/
inductive Pap where
  | catch_ (q : Rat)
  | over (m : Int)
  | pair (t : Bool) (p : List Int) (i j : Int)
def pathD (t : Bool) (p : List Int) : D := if t then .tuple (p.map PyData.int) else .list (p.map PyData.int)
def Pap.d : Pap → D
  | .catch_ q => .tuple [.str "catch", fr q]
  | .over m => .tuple [.str "over", .int m]
  | .pair t p i j => .tuple [.str "pair", pathD t p, .int i, .int j]
end Pu
set_option maxRecDepth 100000
set_option maxHeartbeats 1000000
namespace Pu
open PySem PySem.Spec PyProof.Rows L2
/-! ### what the laws of papers draw -/
end Pu
set_option maxRecDepth 100000
set_option maxHeartbeats 1000000
namespace Pu
open PySem PySem.Spec PyProof.Rows L2
/-! ### the first of an own list taken off, and something of it put at the end -/
end Pu
set_option maxRecDepth 100000
set_option maxHeartbeats 1000000
namespace Pu
open PySem PySem.Spec PyProof.Rows L2
/-! ### a loop over a list of which only something is known -/
end Pu
set_option maxRecDepth 100000
set_option maxHeartbeats 1000000
namespace Pu
open PySem PySem.Spec PyProof.Rows L2
/-! ### papers of what is lacking, and of the plain custom -/
end Pu
set_option maxRecDepth 100000
set_option maxHeartbeats 1000000
namespace Pu
open PySem PySem.Spec PyProof.Rows L2
/-! ### the pairs of all knots -/
/-! papers are alike to themselves -/
/-! all papers but the catch -/
/-! there is always a paper to tell -/
end Pu
set_option maxRecDepth 100000
set_option maxHeartbeats 1000000
namespace Pu
open PySem PySem.Spec PyProof.Rows L2
/-! ### a right pair, way by way -/
end Pu
set_option maxRecDepth 100000
set_option maxHeartbeats 1000000
namespace Pu
open PySem PySem.Spec PyProof.Rows L2
/-! ### contracts: pairs way by way -/
def cDue : Ct := fun ds k => ∃ (u : Cu) (xs : List Rat) (N : Nat), ds = [u.d, .list (fls xs)] ∧ u.Ok ∧ (∀ x ∈ xs, bt x N) ∧ N ≤ 30000 ∧ xs.length = u.claims.length ∧ ∀ r, isFound u xs r → k.rt r
theorem due_v {u : Cu} {xs : List Rat} {N : Nat} {r : D} (h : u.Ok) (hb : ∀ x ∈ xs, bt x N) (hN : N ≤ 30000) (hl : xs.length = u.claims.length) (hr : isFound u xs r) : cDue [u.d, .list (fls xs)] (kv r) := ⟨u, xs, N, rfl, h, hb, hN, hl, fun s hs => isFound_uniq hs hr⟩
end Pu
set_option maxRecDepth 100000
set_option maxHeartbeats 1000000
namespace Pu
open PySem PySem.Spec PyProof.Rows L2
/-! ### a < b < c < d -/
/-! ### papers that a law draws, and what it leads to -/
def Pap.ints : Pap → List Int
  | .pair _ p _ _ => p
  | _ => []
end Pu
set_option maxRecDepth 100000
set_option maxHeartbeats 1000000
namespace Pu
open PySem PySem.Spec PyProof.Rows L2
/-! ### texts -/
/-! numbers written -/
def digB (w : Str) : Bool := w.cps.toList.all fun c => decide (48 ≤ c) && decide (c ≤ 57)
def okNum (w : Str) : Bool := (decide (1 ≤ w.length) && decide (w.length ≤ 13)) && (!(decide (w.cps.toList.head? = some 48) && decide (1 < w.length)) && digB w)
def numOf (w : Str) : Int := ((NumText.digitsVal w.cps.toList : Nat) : Int)
/-! names -/
def lowB (c : Nat) : Bool := decide (97 ≤ c) && decide (c ≤ 122)
def isNm (w : Str) : Bool := (decide (1 ≤ w.length) && decide (w.length ≤ 12)) && w.cps.toList.all lowB
end Pu
set_option maxRecDepth 100000
set_option maxHeartbeats 1000000
namespace Pu
open PySem PySem.Spec PyProof.Rows L2
/-! ### common bottoms: M times q is whole -/
theorem ipow_mono {a b : Nat} (h : a ≤ b) : (2 : Int) ^ a ≤ 2 ^ b := by
  have := Nat.pow_le_pow_right (n := 2) (by decide) h
  exact_mod_cast this
def Mw (M : Int) (q : Rat) : Prop := ∃ z : Int, q * (M : Rat) = (z : Rat)
theorem mw_int (M i : Int) : Mw M (i : Rat) := ⟨i * M, by rw [Rat.intCast_mul]⟩
theorem mw_zero (M : Int) : Mw M 0 := ⟨0, by rw [Rat.zero_mul]; rfl⟩
theorem mw_add {M : Int} {p q : Rat} (h1 : Mw M p) (h2 : Mw M q) : Mw M (p + q) := by
  obtain ⟨a, ha⟩ := h1
  obtain ⟨b, hb⟩ := h2
  exact ⟨a + b, by rw [Rat.intCast_add, ← ha, ← hb]; grind⟩
theorem mw_sub {M : Int} {p q : Rat} (h1 : Mw M p) (h2 : Mw M q) : Mw M (p - q) := by
  obtain ⟨a, ha⟩ := h1
  obtain ⟨b, hb⟩ := h2
  exact ⟨a - b, by rw [Rat.intCast_sub, ← ha, ← hb]; grind⟩
theorem mw_more {M N : Int} {q : Rat} (h : Mw M q) : Mw (M * N) q := by
  obtain ⟨a, ha⟩ := h
  exact ⟨a * N, by rw [Rat.intCast_mul, Rat.intCast_mul, ← ha]; grind⟩
theorem mw_times {M w : Int} {q : Rat} (h : Mw M q) : Mw M ((w : Rat) * q) := by
  obtain ⟨a, ha⟩ := h
  exact ⟨w * a, by rw [Rat.intCast_mul, ← ha]; grind⟩
theorem mw_div {M R : Int} {q : Rat} (h0 : R ≠ 0) (h : Mw M q) : Mw (M * R) (q / (R : Rat)) := by
  obtain ⟨a, ha⟩ := h
  have hR : (R : Rat) ≠ 0 := by
    intro z
    exact h0 (by exact_mod_cast z)
  refine ⟨a, ?_⟩
  have e := Rat.mul_inv_cancel (R : Rat) hR
  rw [Rat.intCast_mul, ← ha, Rat.div_def]
  have : q * (R : Rat)⁻¹ * ((M : Rat) * (R : Rat)) = q * (M : Rat) * ((R : Rat) * (R : Rat)⁻¹) := by grind
  rw [this, e, Rat.mul_one]
theorem mw_den (q : Rat) : Mw (q.den : Int) q := ⟨q.num, (num_den q).symm⟩
theorem mw_sum {M : Int} : ∀ {xs : List Rat}, (∀ x ∈ xs, Mw M x) → Mw M (qsum xs)
  | [], _ => mw_zero M
  | x :: r, h => mw_add (h x List.mem_cons_self) (mw_sum fun y hy => h y (List.mem_cons_of_mem _ hy))
theorem mw_bt {M : Int} {q : Rat} {n : Nat} (h : Mw M q) (hM : 0 < M) (hb : M.natAbs < 2 ^ n) (h0 : 0 ≤ q) (h1 : q ≤ ((2 ^ 40 : Int) : Rat)) : bt q (n + 41) := by
  obtain ⟨z, hz⟩ := h
  have hMq : (0 : Rat) < (M : Rat) := by exact_mod_cast hM
  have e : q = Rat.divInt z M := by
    rw [Rat.divInt_eq_div, ← hz, Rat.div_def, Rat.mul_assoc, Rat.mul_inv_cancel _ (by grind), Rat.mul_one]
  have hz0 : 0 ≤ z := by
    have := Rat.mul_nonneg h0 (Rat.le_of_lt hMq)
    rw [hz] at this
    exact_mod_cast this
  have hz1 : z ≤ 2 ^ 40 * M := by
    have : q * (M : Rat) ≤ ((2 ^ 40 : Int) : Rat) * (M : Rat) := Rat.mul_le_mul_of_nonneg_right h1 (Rat.le_of_lt hMq)
    rw [hz, ← Rat.intCast_mul] at this
    exact_mod_cast this
  have p1 : (2 : Nat) ^ (n + 41) = 2 ^ n * 2 ^ 41 := Nat.pow_add 2 n 41
  rw [e]
  refine bt_divInt (by omega) ?_ ?_
  · rw [p1]
    omega
  · rw [p1]
    omega
theorem lvls_mw {ws cs : List Int} {l q : Rat} {M : Int} (hl : ws.length = cs.length) (hw : ∀ w ∈ ws, 1 ≤ w ∧ w ≤ 1000000) (hn : cs.length ≤ 64) (hs : qsum (lvls (qlist ws) (qlist cs) l) = q) (hq : Mw M q) : ∃ F : Int, 0 < F ∧ F < 2 ^ 28 ∧ ∀ x ∈ lvls (qlist ws) (qlist cs) l, Mw (M * F) x := by
  obtain ⟨as, rs, a1, a2, a3, a4, a5, a6⟩ := lvls_split l ws cs hl fun w h => by have := hw w h; omega
  by_cases hne : rs = []
  · refine ⟨1, by decide, by decide, fun x hx => ?_⟩
    obtain ⟨i, hi⟩ := List.mem_iff_getElem?.mp hx
    obtain ⟨w, c, hwi, hci, rfl⟩ := lvls_at hi
    obtain ⟨w', hw', rfl⟩ : ∃ w' : Int, ws[i]? = some w' ∧ w = (w' : Rat) := by
      unfold qlist at hwi
      rw [List.getElem?_map] at hwi
      cases q : ws[i]? with
      | none => rw [q] at hwi; cases hwi
      | some v => rw [q] at hwi; exact ⟨v, rfl, (Option.some.inj hwi).symm⟩
    obtain ⟨c', hc', rfl⟩ : ∃ c' : Int, cs[i]? = some c' ∧ c = (c' : Rat) := by
      unfold qlist at hci
      rw [List.getElem?_map] at hci
      cases q : cs[i]? with
      | none => rw [q] at hci; cases hci
      | some v => rw [q] at hci; exact ⟨v, rfl, (Option.some.inj hci).symm⟩
    unfold lvl
    split
    · rename_i hlt
      have hm := a6 i w' c' hw' hc' hlt
      rw [hne] at hm
      cases hm
    · exact mw_int _ _
  · have hR := sum_pos_of (fun r hr => by have := hw r (a4 r hr); omega) hne
    have hRb : rs.sum.natAbs < 2 ^ 28 := isum_b (B := 20) (fun r hr => by
      have := hw r (a4 r hr)
      have p20 : (2 : Nat) ^ 20 = 1048576 := by decide
      omega) (by omega)
    have hRq : ((rs.sum : Int) : Rat) ≠ 0 := by
      intro z
      have : rs.sum = 0 := by exact_mod_cast z
      omega
    refine ⟨rs.sum, hR, by
      have p28 : (2 : Nat) ^ 28 = 268435456 := by decide
      have p28' : (2 : Int) ^ 28 = 268435456 := by decide
      omega, fun x hx => ?_⟩
    obtain ⟨i, hi⟩ := List.mem_iff_getElem?.mp hx
    obtain ⟨w, c, hwi, hci, rfl⟩ := lvls_at hi
    obtain ⟨w', hw', rfl⟩ : ∃ w' : Int, ws[i]? = some w' ∧ w = (w' : Rat) := by
      unfold qlist at hwi
      rw [List.getElem?_map] at hwi
      cases q : ws[i]? with
      | none => rw [q] at hwi; cases hwi
      | some v => rw [q] at hwi; exact ⟨v, rfl, (Option.some.inj hwi).symm⟩
    obtain ⟨c', hc', rfl⟩ : ∃ c' : Int, cs[i]? = some c' ∧ c = (c' : Rat) := by
      unfold qlist at hci
      rw [List.getElem?_map] at hci
      cases q : cs[i]? with
      | none => rw [q] at hci; cases hci
      | some v => rw [q] at hci; exact ⟨v, rfl, (Option.some.inj hci).symm⟩
    unfold lvl
    split
    · have el : l = (q - (as.sum : Rat)) / (rs.sum : Rat) := by
        rw [hs] at a5
        rw [a5, show (as.sum : Rat) + (rs.sum : Rat) * l - (as.sum : Rat) = l * (rs.sum : Rat) by grind, Rat.div_def, Rat.mul_assoc, Rat.mul_inv_cancel _ hRq, Rat.mul_one]
      rw [el]
      exact mw_times (mw_div (by omega) (mw_sub hq (mw_int M as.sum)))
    · exact mw_int _ _
theorem lackD_mw {cs : List Int} {gs : List Rat} {M : Int} (h : ∀ g ∈ gs, Mw M g) : ∀ x ∈ lackD (qlist cs) gs, Mw M x := fun x hx => by
  obtain ⟨i, hi⟩ := List.mem_iff_getElem?.mp hx
  obtain ⟨c, g, h1, h2, rfl⟩ := lackD_at hi
  obtain ⟨v, hv, rfl⟩ := List.mem_map.mp (List.mem_of_getElem? h1)
  exact mw_sub (mw_int _ _) (h g (List.mem_of_getElem? h2))
theorem hv_mw {gs : List Rat} {M : Int} (h : ∀ g ∈ gs, Mw M g) : ∀ x ∈ hv gs, Mw (M * 2) x := fun x hx => by
  obtain ⟨i, hi⟩ := List.mem_iff_getElem?.mp hx
  obtain ⟨y, h1, rfl⟩ := hv_at hi
  have := mw_div (R := 2) (by decide) (h y (List.mem_of_getElem? h1))
  rw [Rat.div_def] at this
  rw [show (1 : Rat) / 2 * y = y * (((2 : Int) : Rat))⁻¹ by
    have : ((2 : Int) : Rat) = 2 := rfl
    rw [this]
    grind]
  exact this
theorem rowD_mw {cs : List Int} {q : Rat} {M : Int} (hc : ∀ c ∈ cs, 0 ≤ c) (h0 : 0 ≤ q) (hq : Mw M q) : ∀ x ∈ rowD (qlist cs) q, Mw M x := fun x hx => by
  rw [rowD_is (nn_q hc) h0] at hx
  obtain ⟨i, hi⟩ := List.mem_iff_getElem?.mp hx
  obtain ⟨c, hci, rfl⟩ := fillD_at _ _ _ _ _ hi
  obtain ⟨v, hv, rfl⟩ := List.mem_map.mp (List.mem_of_getElem? hci)
  rw [Rat.zero_add, qlist_take, qlist_sum]
  unfold clip
  split
  · exact mw_zero _
  · split
    · exact mw_int _ _
    · exact mw_sub hq (mw_int _ _)
theorem dealOf_mw {y : Wy} {ws cs : List Int} {q : Rat} {M : Int} (h : Din y ws cs 40) (h0 : 0 ≤ q) (h1 : q ≤ qsum (qlist cs)) (hq : Mw M q) : ∃ F : Int, 0 < F ∧ F < 2 ^ 70 ∧ ∀ x ∈ dealOf y (qlist ws) (qlist cs) q, Mw (M * F) x := by
  have hne : qlist cs ≠ [] := fun z => h.ne (by
    have := congrArg List.length z
    rw [qlist_len] at this
    exact List.length_eq_zero_iff.mp this)
  have one : ∀ {gs : List Rat}, (∀ x ∈ gs, Mw M x) → ∃ F : Int, 0 < F ∧ F < 2 ^ 70 ∧ ∀ x ∈ gs, Mw (M * F) x := fun {gs} hg => ⟨1, by decide, by decide, fun x hx => mw_more (hg x hx)⟩
  have hS : Mw M (qsum (qlist cs)) := by rw [qlist_sum]; exact mw_int _ _
  have big : ∀ {F : Int}, F < 2 ^ 28 → F < 2 ^ 70 := fun {F} hF => by
    have p28 : (2 : Int) ^ 28 = 268435456 := by decide
    have p70 : (2 : Int) ^ 70 = 1180591620717411303424 := by decide
    omega
  have big2 : ∀ {F : Int}, F < 2 ^ 28 → F * 2 < 2 ^ 70 := fun {F} hF => by
    have p28 : (2 : Int) ^ 28 = 268435456 := by decide
    have p70 : (2 : Int) ^ 70 = 1180591620717411303424 := by decide
    omega
  have ev : ∀ {vs : List Int} {p : Rat}, vs.length = cs.length → (∀ w ∈ vs, 1 ≤ w ∧ w ≤ 1000000) → 0 ≤ p → p ≤ qsum (qlist cs) → Mw M p → ∃ F : Int, 0 < F ∧ F < 2 ^ 28 ∧ ∀ x ∈ evenD (qlist vs) (qlist cs) p, Mw (M * F) x := fun {vs p} hl hw p0 p1 hp => by
    obtain ⟨l, l0, e, s⟩ := evenD_level (qW_ok hl hw h.nn) p0 p1 hne
    rw [e] at s
    rw [e]
    exact lvls_mw hl hw h.len s hp
  have h1s : ∀ os : List Int, os = cs.map (fun _ => 1) → os.length = cs.length ∧ (∀ w ∈ os, 1 ≤ w ∧ w ≤ 1000000) ∧ qlist os = ones (qlist cs) := fun os e => by
    refine ⟨by rw [e, List.length_map], fun w hw => ?_, by rw [e, ← ones_q]⟩
    rw [e] at hw
    obtain ⟨_, _, rfl⟩ := List.mem_map.mp hw
    decide
  cases y with
  | row => exact one (rowD_mw h.nn h0 hq)
  | back =>
    refine one fun x hx => ?_
    have hx' : x ∈ (rowD (qlist cs).reverse q).reverse := hx
    rw [List.mem_reverse, qlist_rev] at hx'
    exact rowD_mw (fun c hc => h.nn c (List.mem_reverse.mp hc)) h0 hq x hx'
  | even =>
    obtain ⟨hl, hw⟩ := h.wt rfl
    obtain ⟨F, f0, f1, f2⟩ := ev hl hw h0 h1 hq
    exact ⟨F, f0, big f1, f2⟩
  | lack =>
    obtain ⟨hl, hw⟩ := h.wt rfl
    obtain ⟨F, f0, f1, f2⟩ := ev (p := qsum (qlist cs) - q) hl hw (by grind) (by grind) (mw_sub hS hq)
    exact ⟨F, f0, big f1, lackD_mw f2⟩
  | part =>
    have e : dealOf .part (qlist ws) (qlist cs) q = (qlist cs).map fun c => c * (q / qsum (qlist cs)) := partD_map (nn_q h.nn)
    by_cases z : cs.sum = 0
    · refine one fun x hx => ?_
      rw [e] at hx
      obtain ⟨c, hc, rfl⟩ := List.mem_map.mp hx
      obtain ⟨v, hv, rfl⟩ := List.mem_map.mp hc
      have : q / qsum (qlist cs) = 0 := by
        rw [qlist_sum, z]
        show q / 0 = 0
        rw [Rat.div_def, Rat.inv_zero, Rat.mul_zero]
      rw [this, Rat.mul_zero]
      exact mw_zero _
    · have hs := isum_b h.sc (by have := h.len; omega)
      have hs0 : 0 ≤ cs.sum := by
        have := qsum_nonneg (nn_q h.nn)
        rw [qlist_sum] at this
        exact_mod_cast this
      refine ⟨cs.sum, by omega, by
        have p48 : (2 : Nat) ^ (40 + 8) = 281474976710656 := by decide
        have p70 : (2 : Int) ^ 70 = 1180591620717411303424 := by decide
        omega, fun x hx => ?_⟩
      rw [e] at hx
      obtain ⟨c, hc, rfl⟩ := List.mem_map.mp hx
      obtain ⟨v, hv, rfl⟩ := List.mem_map.mp hc
      rw [qlist_sum]
      exact mw_times (mw_div z hq)
  | half =>
    obtain ⟨ol, ow, oq⟩ := h1s _ rfl
    have e : dealOf .half (qlist ws) (qlist cs) q = halfD (qlist cs) q := rfl
    rw [e]
    unfold halfD
    rw [← oq]
    split
    · have e : qsum (qlist cs) + qsum (qlist cs) - (q + q) = (qsum (qlist cs) - q) + (qsum (qlist cs) - q) := by grind
      rw [e]
      obtain ⟨F, f0, f1, f2⟩ := ev (p := (qsum (qlist cs) - q) + (qsum (qlist cs) - q)) ol ow (by grind) (by grind) (mw_add (mw_sub hS hq) (mw_sub hS hq))
      refine ⟨F * 2, by omega, big2 f1, lackD_mw ?_⟩
      rw [← Int.mul_assoc]
      exact hv_mw f2
    · obtain ⟨F, f0, f1, f2⟩ := ev (p := q + q) ol ow (by grind) (by grind) (mw_add hq hq)
      refine ⟨F * 2, by omega, big2 f1, ?_⟩
      rw [← Int.mul_assoc]
      exact hv_mw f2
theorem dealL_mw {c : Nat} : ∀ (ks : List Cu) (gs : List Rat) (M : Int), gs.length = ks.length → (∀ (i : Nat) (k : Cu) (g : Rat), ks[i]? = some k → gs[i]? = some g → ∃ F : Int, 0 < F ∧ F ≤ 2 ^ (c * k.claims.length) ∧ ∀ x ∈ k.deal g, Mw (M * F) x) →
    ∃ F : Int, 0 < F ∧ F ≤ 2 ^ (c * (Cu.claimsL ks).length) ∧ ∀ x ∈ Cu.dealL ks gs, Mw (M * F) x
  | [], _, M, _, _ => ⟨1, by decide, by show (1 : Int) ≤ 2 ^ (c * 0); rw [Nat.mul_zero]; decide, fun x hx => by cases hx⟩
  | k :: r, [], M, h, _ => by cases h
  | k :: r, g :: gs, M, h, hk => by
    obtain ⟨F, f0, f1, f2⟩ := hk 0 k g rfl rfl
    obtain ⟨G, g0, g1, g2⟩ := dealL_mw r gs M (by simpa using h) fun i k' g' h1 h2 => hk (i + 1) k' g' h1 h2
    refine ⟨F * G, Int.mul_pos f0 g0, ?_, fun x hx => ?_⟩
    · show F * G ≤ 2 ^ (c * (k.claims ++ Cu.claimsL r).length)
      rw [List.length_append, Nat.mul_add, Int.pow_add]
      exact Int.mul_le_mul f1 g1 (by omega) (by omega)
    · rcases List.mem_append.mp (show x ∈ k.deal g ++ Cu.dealL r gs from hx) with hx | hx
      · rw [← Int.mul_assoc]
        exact mw_more (f2 x hx)
      · rw [Int.mul_comm F G, ← Int.mul_assoc]
        exact mw_more (g2 x hx)
theorem deal_mw : ∀ {u : Cu}, u.Ok → ∀ {q : Rat} {M : Int}, 0 ≤ q → q ≤ (u.sum : Rat) → Mw M q → ∃ F : Int, 0 < F ∧ F ≤ 2 ^ (70 * (u.deep - 1) * u.claims.length) ∧ ∀ x ∈ u.deal q, Mw (M * F) x := fun {u} => Cu.ind (P := fun u => u.Ok → ∀ {q : Rat} {M : Int}, 0 ≤ q → q ≤ (u.sum : Rat) → Mw M q → ∃ F : Int, 0 < F ∧ F ≤ 2 ^ (70 * (u.deep - 1) * u.claims.length) ∧ ∀ x ∈ u.deal q, Mw (M * F) x) (fun c _ q M _ _ hq => ⟨1, by decide, by show (1 : Int) ≤ 2 ^ 0; decide, fun x hx => by
    obtain rfl := List.mem_singleton.mp (show x ∈ [q] from hx)
    exact mw_more hq⟩) (fun y ws ks ih h q M h0 h1 hq => by
    have hd := knot_din h
    have h1' := sums_le h1
    obtain ⟨F0, a0, a1, a2⟩ := dealOf_mw hd h0 h1' hq
    have hdl := dealOf_ok (fit_knot h.ok) h0 h1'
    obtain ⟨G, g0, g1, g2⟩ := dealL_mw (c := 70 * (Cu.deepL ks - 1)) ks (dealOf y (qlist ws) (qlist (ks.map Cu.sum)) q) (M * F0) (by rw [hdl.len, qlist_len, List.length_map]) (fun i k g hk hgi => by
      have hm := List.mem_of_getElem? hk
      have hb := hdl.get hgi (qlist_at (by rw [List.getElem?_map, hk]; rfl))
      obtain ⟨G, g0, g1, g2⟩ := ih k hm (h.kid hm) hb.1 hb.2 (a2 g (List.mem_of_getElem? hgi))
      refine ⟨G, g0, Int.le_trans g1 (ipow_mono ?_), g2⟩
      have := Cu.deepL_le.mp (Nat.le_refl (Cu.deepL ks)) k hm
      exact Nat.mul_le_mul_right _ (Nat.mul_le_mul_left _ (by omega)))
    refine ⟨F0 * G, Int.mul_pos a0 g0, ?_, fun x hx => by rw [← Int.mul_assoc]; exact g2 x hx⟩
    have hdp : 1 ≤ Cu.deepL ks := by
      cases hks : ks with
      | nil => exact absurd hks h.ok.1.1
      | cons a r =>
        have := a.deep_pos
        show 1 ≤ max a.deep (Cu.deepL r)
        omega
    have hcl : 1 ≤ (Cu.claimsL ks).length := List.length_pos_iff.mpr (Cu.claims_ne h.ok)
    have e : (Cu.knot y ws ks).deep - 1 = Cu.deepL ks := by show 1 + Cu.deepL ks - 1 = _; omega
    show F0 * G ≤ 2 ^ (70 * ((Cu.knot y ws ks).deep - 1) * (Cu.claimsL ks).length)
    rw [e]
    have step : 70 + 70 * (Cu.deepL ks - 1) * (Cu.claimsL ks).length ≤ 70 * Cu.deepL ks * (Cu.claimsL ks).length := by
      have e2 : 70 * Cu.deepL ks = 70 * (Cu.deepL ks - 1) + 70 := by omega
      rw [e2, Nat.add_mul]
      omega
    refine Int.le_trans ?_ (ipow_mono step)
    rw [Int.pow_add]
    exact Int.mul_le_mul (by omega) g1 (by omega) (by decide)) u
/-- partial sums of what a custom deals -/
theorem part_bt {u : Cu} {q : Rat} {n : Nat} (h : u.Ok) (h0 : 0 ≤ q) (h1 : q ≤ (u.sum : Rat)) (hq : bt q n) (j : Nat) : bt (qsum ((u.deal q).take j)) (n + 5930) := by
  obtain ⟨F, f0, f1, f2⟩ := deal_mw h h0 h1 (mw_den q)
  have hd := deal_dl h.ok h0 h1
  have hlow := h.low
  have hfew := h.few
  have hs := h.sum_b
  have hdn : (0 : Int) < (q.den : Int) := by have := q.den_pos; omega
  have hnn : ∀ x ∈ u.deal q, 0 ≤ x := fun x hx => by
    obtain ⟨i, hi⟩ := List.mem_iff_getElem?.mp hx
    have hl := getElem?_lt hi
    rw [hd.len] at hl
    exact (hd.get hi (at_gD hl)).1
  have hF : F ≤ 2 ^ 5880 := Int.le_trans f1 (ipow_mono (by
    have m1 : 70 * (u.deep - 1) ≤ 490 := by omega
    have := Nat.mul_le_mul m1 hfew
    omega))
  have hb : ((q.den : Int) * F).natAbs < 2 ^ (n + 5881) := by
    rw [Int.natAbs_mul]
    have e1 : (q.den : Int).natAbs = q.den := Int.natAbs_natCast _
    have e2 : F.natAbs < 2 ^ 5881 := by
      have : F.natAbs ≤ 2 ^ 5880 := by
        have p : ((2 ^ 5880 : Nat) : Int) = (2 : Int) ^ 5880 := by rw [Int.natCast_pow]; rfl
        omega
      have p2 : (2 : Nat) ^ 5881 = 2 ^ 5880 * 2 := Nat.pow_succ 2 5880
      have p3 : 0 < (2 : Nat) ^ 5880 := Nat.pow_pos (by decide)
      omega
    rw [e1, Nat.pow_add]
    exact Nat.mul_lt_mul'' hq.2 e2
  refine (mw_bt (mw_sum fun x hx => f2 x (List.mem_of_mem_take hx)) (Int.mul_pos hdn f0) hb (qsum_nonneg fun x hx => hnn x (List.mem_of_mem_take hx)) ?_).mono (by omega)
  have le : qsum ((u.deal q).take j) ≤ qsum (u.deal q) := by
    have e := congrArg qsum (List.take_append_drop j (u.deal q))
    rw [qsum_append] at e
    have := qsum_nonneg (xs := (u.deal q).drop j) fun x hx => hnn x (List.mem_of_mem_drop hx)
    grind
  rw [hd.sum] at le
  have : (u.sum : Rat) ≤ ((2 ^ 40 : Int) : Rat) := by
    exact_mod_cast (show u.sum ≤ 2 ^ 40 by
      have p40 : (2 : Int) ^ 40 = 1099511627776 := by decide
      omega)
  exact Rat.le_trans le (Rat.le_trans h1 this)
end Pu
set_option maxRecDepth 100000
set_option maxHeartbeats 1000000
namespace Pu
open PySem PySem.Spec PyProof.Rows L2
/-! ### all x of lines in order, each once -/
/-! ### the lines of the first boats summed -/
structure PartS (u : Cu) (j : Nat) (B : List Pt) : Prop where
  is : IsW (fun x => qsum ((u.deal x).take j)) ((u.sum : Rat), qsum ((qlist u.claims).take j)) B
  xs : ∀ p ∈ B, bt p.1 85990
  len : B.length ≤ 210 * j
theorem PartS.bl {u : Cu} (h : u.Ok) {j : Nat} {B : List Pt} (s : PartS u j B) : Pu.bl B 199990 := fun p hp => by
  obtain ⟨p0, p1⟩ := good_nonneg s.is.good hp
  rw [s.is.last] at p1
  obtain ⟨i, hi⟩ := List.mem_iff_getElem?.mp hp
  have e : p.2 = qsum ((u.deal p.1).take j) := by
    rw [← s.is.ev p.1 p0 p1]
    exact (lineEv_pt s.is.good hi).symm
  refine ⟨(s.xs p hp).mono (by decide), ?_⟩
  rw [e]
  exact (part_bt h p0 p1 (s.xs p hp) j).mono (by decide)
/-! ### a tuple's slice, the whole of it too -/
end Pu
set_option maxRecDepth 100000
set_option maxHeartbeats 1000000
namespace Pu
open PySem PySem.Spec PyProof.Rows L2
/-! ### a zip whose last tuple may still be out, under enumerate -/
abbrev ZipQ (h : Heap) (z TI TO : Addr) (f0 : Value) (fl : Bool) : Prop := h.get? z = some { cls := .type "zip", dict := none, data := .fields #[f0, .bool fl, .bool false, .ref TI, .ref TO], slots := #[] }
def ZSt (h : Heap) (z TI TO : Addr) : Prop := ∃ f0 fl, ZipQ h z TI TO f0 fl ∧ (f0 = .none ∨ ∃ T : Addr, f0 = rawInt T)
section
variable {prog : Program} {w : World} {A : Around} {E : Value → Shared → Prop} {s : Shared} {z TI TO i1 i2 : Addr} {fp1 fp2 : List Addr} {n1 n2 i : Nat} {P1 P2 : Nat → Value → Prop} {St1 St2 : Nat → Heap → Prop} {a1 a2 : Value}
theorem ZSt.keep {h h' : Heap} (x : ZSt h z TI TO) (k : ∀ o, h.get? z = some o → h'.get? z = some o) : ZSt h' z TI TO := by
  obtain ⟨f0, fl, hz, hf⟩ := x
  exact ⟨f0, fl, k _ hz, hf⟩
theorem ZSt.ty {s : Shared} (x : ZSt s.heap z TI TO) : s.TypeIs (.ref z) "zip" := by
  obtain ⟨f0, fl, hz, hf⟩ := x
  exact ⟨_, hz, rfl⟩
end
/-! the making of it -/
end Pu
set_option maxRecDepth 100000
set_option maxHeartbeats 1000000
namespace Pu
open PySem PySem.Spec PyProof.Rows L2
/-! ### where two lines part -/
/-! ### where two customs part -/
end Pu
set_option maxRecDepth 100000
set_option maxHeartbeats 1000000
namespace Pu
open PySem PySem.Spec PyProof.Rows L2
/-! ### a way in the same way told as one -/
end Pu
set_option maxRecDepth 100000
set_option maxHeartbeats 1000000
namespace Pu
open PySem PySem.Spec PyProof.Rows L2
/-! ### slots moved about -/
section
variable {K : Frag} {R0 H0 R H R' H' R1 H1 : Hp} {ρ ρ' : En} {σ σ' : L2.St} {s f : Sl} {v w : V} {i j : Nat} {d : D} {ds : List D}
/-- a value told beside the slots -/
theorem At.snoc (a : At K R0 H0 R ρ σ H) (h : Dp K R v d) : At K R0 H0 R (ρ ++ [.val d]) (σ ++ [some v]) H := by
  have hl := a.len
  have key : ∀ {x : Nat} {t : Sl}, (ρ ++ [.val d])[x]? = some t → (t = .val d ∧ x = ρ.length) ∨ (x < ρ.length ∧ ρ[x]? = some t ∧ (σ ++ [some v])[x]? = σ[x]?) := fun {x t} e => by
    by_cases hx : x < ρ.length
    · rw [List.getElem?_append_left hx] at e
      exact .inr ⟨hx, e, by rw [List.getElem?_append_left (by omega)]⟩
    · rw [List.getElem?_append_right (by omega)] at e
      have hx2 : x - ρ.length = 0 := by
        rcases Nat.eq_zero_or_pos (x - ρ.length) with z | z
        · exact z
        · rw [List.getElem?_eq_none (by simp; omega)] at e
          cases e
      rw [hx2] at e
      exact .inl ⟨(Option.some.inj e).symm, by omega⟩
  refine ⟨a.gr, by simp [hl], fun x e q => ?_, fun x e q => ?_, fun x e q => ?_, fun x y p ds es n e1 e2 s1 => ?_, ⟨fun x u S P q => ?_, fun x y u S P ds p e1 e2 s1 => ?_, fun x y u w S T P Q n e1 e2 => ?_⟩⟩
  · rcases key q with ⟨z, rfl⟩ | ⟨hx, q1, q2⟩
    · cases z
      exact ⟨v, by rw [List.getElem?_append_right (by omega), hl, Nat.sub_self]; rfl, h⟩
    · rw [q2]; exact a.val x e q1
  · rcases key q with ⟨z, _⟩ | ⟨hx, q1, q2⟩
    · cases z
    · rw [q2]; exact a.own x e q1
  · rcases key q with ⟨z, _⟩ | ⟨hx, q1, q2⟩
    · cases z
    · rw [q2]; exact a.raw x e q1
  · rcases key e1 with ⟨z, _⟩ | ⟨hx, q1, q2⟩
    · cases z
    rcases key e2 with ⟨z, _⟩ | ⟨hy, r1, r2⟩
    · cases z
    rw [q2] at s1
    rw [r2]
    exact a.apart x y p ds es n q1 r1 s1
  · rcases key q with ⟨z, _⟩ | ⟨hx, q1, q2⟩
    · cases z
    · rw [q2]; exact a.fa.at_ x u S P q1
  · rcases key e1 with ⟨z, _⟩ | ⟨hx, q1, q2⟩
    · cases z
    rcases key e2 with ⟨z, _⟩ | ⟨hy, r1, r2⟩
    · cases z
    rw [r2] at s1
    exact a.fa.off x y u S P ds p q1 r1 s1
  · rcases key e1 with ⟨z, _⟩ | ⟨hx, q1, q2⟩
    · cases z
    rcases key e2 with ⟨z, _⟩ | ⟨hy, r1, r2⟩
    · cases z
    exact a.fa.two x y u w S T P Q n q1 r1
end
end Pu
set_option maxRecDepth 100000
set_option maxHeartbeats 1000000
namespace Pu
open PySem PySem.Spec PyProof.Rows L2
/-! ### contracts with a thing lent; expressions that change it -/
structure Kg where
  /-- the lent thing's slot, the value's slot -/
  rt : Sl → Sl → Prop
  ex : Value → Sl → Prop := fun _ _ => False
abbrev Cg := En → Kg → Prop
def EvG (K : Frag) (W : WX) (te : TE) (ρ : En) (P : En → Prop) (X : Value → En → Prop) : Prop := ∀ R0 H0 R σ H, At K R0 H0 R ρ σ H → ∀ Q : VK, (∀ ρ' R' v H', P ρ' → Same R R' → At K R0 H0 R' ρ' (σ ++ [some v]) H' → Q v H') →
  (∀ c ρ' R' H', X c ρ' → At K R0 H0 R' ρ' σ H' → W c none σ H') → te σ H Q
/-- the thing is still the one lent, or let go -/
def Handed (w : V) (f : Sl) : Prop := f = .un ∨ ∃ S P, f = .fact w S P
theorem Handed.no {w : V} {f : Sl} (h : Handed w f) : (∀ d, f ≠ .val d) ∧ (∀ ds, f ≠ .own ds) := by
  rcases h with rfl | ⟨S, P, rfl⟩
  · exact ⟨(fun d z => nomatch z), (fun ds z => nomatch z)⟩
  · exact ⟨(fun d z => nomatch z), (fun ds z => nomatch z)⟩
section
variable {K : Frag} {W : WX} {R0 H0 R H R' H' R1 H1 : Hp} {ρ ρ' ss : En} {σ σ' : L2.St} {s f : Sl} {v w : V} {w' : Option V} {i j : Nat} {d : D} {ds : List D} {S : List Addr} {P : Hp → Hp → Prop} {te : TE} {ta : TA} {k : Kg} {c : Cg}
theorem Ev.g {X : Value → En → Prop} (h : Ev K te ρ d) : EvG K W te ρ (fun ρ' => ρ' = ρ ++ [.val d]) X := fun R0 H0 R σ H a Q q _ => h R0 H0 R σ H a Q fun v R' H' g dv => q _ R' v H' rfl g.rd ((a.grow g).snoc dv)
theorem EvG.mono {P P' : En → Prop} {X X' : Value → En → Prop} (h : EvG K W te ρ P X) (h1 : ∀ ρ', P ρ' → P' ρ') (h2 : ∀ c ρ', X c ρ' → X' c ρ') : EvG K W te ρ P' X' := fun R0 H0 R σ H a Q q x => h R0 H0 R σ H a Q (fun ρ' R' v H' p => q ρ' R' v H' (h1 ρ' p)) fun c ρ' R' H' p => x c ρ' R' H' (h2 c ρ' p)
/-- arguments, told by slots -/
def ArgR (K : Frag) (R : Hp) (ss : En) (vs : List V) : Prop := vs.length = ss.length ∧ ∀ (i : Nat) (s : Sl) (v : V), ss[i]? = some s → vs[i]? = some v → (∃ d, s = .val d ∧ Dp K R v d) ∨ (∃ S P, s = .fact v S P)
theorem ArgR.fact (h : ArgR K R ss (vs : List V)) : ArgR K R (.fact w S P :: ss) (w :: vs) := ⟨by simp [h.1], fun i s v e1 e2 => by
    cases i with
    | zero =>
      obtain rfl := Option.some.inj e1
      obtain rfl := Option.some.inj e2
      exact .inr ⟨_, _, rfl⟩
    | succ i => exact h.2 i s v (by simpa using e1) (by simpa using e2)⟩
theorem ArgR.val (h : ArgR K R ss (vs : List V)) (hv : Dp K R v d) : ArgR K R (.val d :: ss) (v :: vs) := ⟨by simp [h.1], fun i s v e1 e2 => by
    cases i with
    | zero =>
      obtain rfl := Option.some.inj e1
      obtain rfl := Option.some.inj e2
      exact .inl ⟨_, rfl, hv⟩
    | succ i => exact h.2 i s v (by simpa using e1) (by simpa using e2)⟩
end
/-! ### statements -/
/-! ### a def's body -/
end Pu
set_option maxRecDepth 100000
set_option maxHeartbeats 1000000
namespace Pu
open PySem PySem.Spec PyProof.Rows L2
/-! ### own lists as facts, facts as own lists -/
/-! ### a tuple with an own list in it -/
end Pu
set_option maxRecDepth 100000
set_option maxHeartbeats 1000000
namespace Pu
open PySem PySem.Spec PyProof.Rows L2
/-! ### a new list handed to a call that changes it -/
end Pu
set_option maxRecDepth 100000
set_option maxHeartbeats 1000000
namespace Pu
open PySem PySem.Spec PyProof.Rows L2
/-! ### a thing of one's own seen as a value, for the time of an expression -/
def showR (R H : Hp) (S : List Addr) : Hp := fun a => if a ∈ S then H a else R a
section
variable {K : Frag} {R0 H0 R H R' H' : Hp} {ρ ρ' : En} {σ σ' : L2.St} {s f : Sl} {v w : V} {i j : Nat} {d dL : D} {ds es : List D} {S : List Addr} {P : Hp → Hp → Prop} {p t q : Addr} {vs : List V} {te : TE}
theorem showR_in {a : Addr} (h : a ∈ S) : showR R H S a = H a := if_pos h
theorem showR_ne {a : Addr} (h : a ∉ S) : showR R H S a = R a := if_neg h
theorem same_show (h : ∀ a ∈ S, R a = none) : Same R (showR R H S) := fun b o e => by
  by_cases z : b ∈ S
  · rw [h b z] at e; cases e
  · rw [showR_ne z]; exact e
theorem show_sub (h : Same R H) : Same (showR R H S) H := fun b o e => by
  by_cases z : b ∈ S
  · rw [showR_in z] at e; exact e
  · rw [showR_ne z] at e; exact h b o e
theorem At.show_ (a : At K R0 H0 R ρ σ H) (hi : ρ[i]? = some (.fact v S P)) (hd : Dp K (showR R H S) v dL) : At K R0 H0 (showR R H S) (ρ.set i (.val dL)) σ H := by
  obtain ⟨g1, g2, g3, g4⟩ := a.fa.at_ i v S P hi
  have hl := (List.getElem?_eq_some_iff.mp hi).1
  have rr : Same R (showR R H S) := same_show fun x hx => (g4 x hx).2.1
  have key : ∀ {x : Nat} {u : Sl}, (ρ.set i (.val dL))[x]? = some u → (x ≠ i ∧ ρ[x]? = some u) ∨ (x = i ∧ u = .val dL) := fun {x u} e => by
    by_cases hx : i = x
    · subst hx
      rw [List.getElem?_set_self hl] at e
      exact .inr ⟨rfl, (Option.some.inj e).symm⟩
    · rw [List.getElem?_set_ne hx] at e
      exact .inl ⟨fun z => hx z.symm, e⟩
  refine ⟨⟨a.gr.rd.trans rr, a.gr.hp, show_sub a.gr.sub, fun x e n => ?_⟩, by rw [List.length_set]; exact a.len, fun x d e => ?_, fun x es e => ?_, fun x u e => ?_, fun x y p ds es n e1 e2 s1 => ?_, ⟨fun x u T Q e => ?_, fun x y u T Q ds p e1 e2 s1 => ?_, fun x y u w T T2 Q Q2 n e1 e2 => ?_⟩⟩
  · by_cases hx : x ∈ S
    · exact (g4 x hx).2.2
    · rw [showR_ne hx] at n
      exact a.gr.new x e n
  · rcases key e with ⟨_, e⟩ | ⟨rfl, z⟩
    · obtain ⟨u, h1, h2⟩ := a.val x d e
      exact ⟨u, h1, dp_mono rr _ _ h2⟩
    · cases z
      exact ⟨v, g1, hd⟩
  · rcases key e with ⟨_, e⟩ | ⟨_, z⟩
    · obtain ⟨p, vs, h1, h2, h3, h4, h5⟩ := a.own x es e
      exact ⟨p, vs, h1, h2, dpa_mono rr _ _ h3, by rw [showR_ne (a.fa.off i x v S P es p hi e h1)]; exact h4, h5⟩
    · cases z
  · rcases key e with ⟨_, e⟩ | ⟨_, z⟩
    · exact a.raw x u e
    · cases z
  · rcases key e1 with ⟨_, e1⟩ | ⟨_, z⟩
    · rcases key e2 with ⟨_, e2⟩ | ⟨_, z⟩
      · exact a.apart x y p ds es n e1 e2 s1
      · cases z
    · cases z
  · rcases key e with ⟨n, e⟩ | ⟨_, z⟩
    · obtain ⟨h1, h2, h3, h4⟩ := a.fa.at_ x u T Q e
      exact ⟨h1, h2, h2 R H _ H rr (fun c _ o e => e) h3, fun c hc => ⟨(h4 c hc).1, by rw [showR_ne (fun z => a.fa.two i x v u S T P Q (fun z => n z.symm) hi e c z hc)]; exact (h4 c hc).2.1, (h4 c hc).2.2⟩⟩
    · cases z
  · rcases key e1 with ⟨_, e1⟩ | ⟨_, z⟩
    · rcases key e2 with ⟨_, e2⟩ | ⟨_, z⟩
      · exact a.fa.off x y u T Q ds p e1 e2 s1
      · cases z
    · cases z
  · rcases key e1 with ⟨_, e1⟩ | ⟨_, z⟩
    · rcases key e2 with ⟨_, e2⟩ | ⟨_, z⟩
      · exact a.fa.two x y u w T T2 Q Q2 n e1 e2
      · cases z
    · cases z
/-! ### a list of two lists of one's own -/
end
/-! ### bools counted -/
end Pu
set_option maxRecDepth 100000
set_option maxHeartbeats 1000000
namespace Pu
open PySem PySem.Spec PyProof.Rows L2
/-! ### a dict that serves as a set of texts -/
end Pu
set_option maxRecDepth 100000
set_option maxHeartbeats 1000000
namespace Pu
open PySem PySem.Spec PyProof.Rows L2
/-! ### a custom written with its boats' names -/
def itS (i : Int) : Str := Str.ofString (toString i)
/-! what is asked of names -/
def okN (ns : List Str) (i : Nat) : Bool := isNm (ns.getD i Str.empty) && !(ns.take i).contains (ns.getD i Str.empty)
def okNs (ns : List Str) : Bool := (List.range ns.length).all (okN ns)
def lookN (u : Cu) (ns : List Str) : Nat := if ns.length = u.claims.length then (if okNs ns then 2 else 1) else 0
theorem lookN_2 {u : Cu} {ns : List Str} (h : lookN u ns = 2) : ns.length = u.claims.length ∧ okNs ns = true := by
  unfold lookN at h
  split at h
  · split at h
    · exact ⟨by assumption, by assumption⟩
    · cases h
  · cases h
end Pu
set_option maxRecDepth 100000
set_option maxHeartbeats 1000000
namespace Pu
open PySem PySem.Spec PyProof.Rows L2
/-! ### texts of plain signs -/
theorem isNm_low {z : Str} (h : isNm z = true) : 1 ≤ z.length ∧ z.length ≤ 12 ∧ z.cps.toList.all lowB = true := by
  unfold isNm at h
  rw [Bool.and_eq_true, Bool.and_eq_true, decide_eq_true_eq, decide_eq_true_eq] at h
  exact ⟨h.1.1, h.1.2, h.2⟩
/-! contracts of the laws of texts -/
end Pu
set_option maxRecDepth 100000
set_option maxHeartbeats 1000000
namespace Pu
open PySem PySem.Spec PyProof.Rows L2
/-! ### objects of one's own -/
/-- a field's value: a datum, or an own list at p -/
inductive FV where
  | dat (d : D)
  | own (p : Addr) (ds : List D)
abbrev FF := Str → Option FV
def FF.put (F : FF) (f : Str) (x : FV) : FF := fun g => if g = f then some x else F g
end Pu
set_option maxRecDepth 100000
set_option maxHeartbeats 1000000
namespace Pu
open PySem PySem.Spec PyProof.Rows L2
/-! ### methods; objects made -/
def OkM (P : Program) (w : World) (K : Frag) (mg : Str → Option Value) (base : Heap) (k : Nat) (C : Addr) (m : Str) (ps : List Str) (sp : Sp) : Prop :=
  ∃ f, Meth K C m f ∧ ∃ fd, Binds K fd ps [] ∧ FnOk P w K mg base (L2.CX P w) k f fd ps sp
def OkI (P : Program) (w : World) (K : Frag) (mg : Str → Option Value) (base : Heap) (k : Nat) (C : Addr) (ps : List Str) (sp : Sp) : Prop :=
  ∃ f, Mk K C f ∧ ∃ fd, Binds K fd ps [] ∧ FnOk P w K mg base (L2.CX P w) k f fd ps sp
end Pu
set_option maxRecDepth 100000
set_option maxHeartbeats 1000000
namespace Pu
open PySem PySem.Spec PyProof.Rows L2
/-! ### objects made, fields that are new lists -/
end Pu
set_option maxRecDepth 100000
set_option maxHeartbeats 1000000
namespace Pu
open PySem PySem.Spec PyProof.Rows L2
/-! ### the reader of texts -/
/-- the signs from n on that are among s -/
def runL (s : Str) : List Nat → Nat
  | [] => 0
  | c :: r => if c ∈ s.cps.toList then 1 + runL s r else 0
def runEnd (t s : Str) (n : Nat) : Nat := n + runL s (t.cps.toList.drop n)
def subS (t : Str) (i j : Nat) : Str := ⟨((t.cps.toList.drop i).take (j - i)).toArray⟩
end Pu
set_option maxRecDepth 100000
set_option maxHeartbeats 1000000
namespace Pu
open PySem PySem.Spec PyProof.Rows L2
/-! ### what a reader reads -/
abbrev FIG : Str := "0123456789"
/-- a number at n: its value, the place behind it -/
def numAt (t : Str) (n : Nat) : Option (Int × Nat) := if okNum (subS t n (runEnd t FIG n)) then some (numOf (subS t n (runEnd t FIG n)), runEnd t FIG n) else none
end Pu
set_option maxRecDepth 100000
set_option maxHeartbeats 1000000
namespace Pu
open PySem PySem.Spec PyProof.Rows L2
/-! ### calls of what a lent thing tells -/
/-! ### the reader's contract -/
end Pu
set_option maxRecDepth 100000
set_option maxHeartbeats 1000000
namespace Pu
open PySem PySem.Spec PyProof.Rows L2
/-! ### reading what was written -/
end Pu
set_option maxRecDepth 100000
set_option maxHeartbeats 1000000
namespace Pu
open PySem PySem.Spec PyProof.Rows L2
/-! ### a field's list handed to a call that keeps nothing of it -/
end Pu
set_option maxRecDepth 100000
set_option maxHeartbeats 1000000
namespace Pu
open PySem PySem.Spec PyProof.Rows L2
/-! ### a pair with a new list in it -/
end Pu
set_option maxRecDepth 100000
set_option maxHeartbeats 1000000
namespace Pu
open PySem PySem.Spec PyProof.Rows L2
/-! ### a call that tells a new pair, taken as a value -/
/-! ### what read tells -/
/-! ### what was written is read -/
end Pu
set_option maxRecDepth 100000
set_option maxHeartbeats 1000000
namespace Pu
open PySem PySem.Spec PyProof.Rows L2
/-! ### a method that only looks at the thing lent -/
/-! ### alike, lists and None too -/
end Pu
set_option maxRecDepth 100000
set_option maxHeartbeats 1000000
namespace Pu
open PySem PySem.Spec PyProof.Rows L2
/-! ### exceptions whose context is known to be None -/
theorem fn_weak {P : Program} {w : World} {K : Frag} {mg : Str → Option Value} {base : Heap} {k : Nat} {f : Addr} {fd : FuncData} {ps : List Str} {sp : Sp} (F : FnOk P w K mg base (L2N.CX P w) k f fd ps sp) : FnOk P w K mg base (L2.CX P w) k f fd ps sp := ⟨F.len, fun A outer s H args us vs Q E hr he hb hv hs => codeAny_mono (F.run A outer s H args us vs Q E hr he hb hv hs) fun r s' q => by
  cases r with
  | error e =>
    obtain ⟨a, B, H', cls, d, h1, h2, h3, h4, h5, h6, h7, h8⟩ := q
    exact ⟨a, B, H', cls, d, h1, L2H.flyingZ_imp (fun o h => ⟨h.1, h.2.1⟩) h2, h3, h4, h5, h6, h7, h8⟩
  | ok fl => cases fl <;> exact q⟩
theorem fun_okN {P : Program} {w : World} {K : Frag} {mg : Str → Option Value} {base : Heap} {x qual : Str} {st : Stmt} {f : Addr} {fd : FuncData} {N ps : List Str} {k : Nat} {sp : Sp} (F : Fun K x qual st f fd) (S : FnScope N ps (defScope st)) (hl : ∀ vs H Q E, sp vs H Q E → vs.length = ps.length)
    (hbody : ∀ (cdv : Value) (A : Around) (outer : List Env) (s : Shared) (H : Hp) (vs : List V) (Q : VK) (E : XK), Room k (A.deeper (envOfC qual (defScope st) s.heap.objs.size f cdv)) → sp vs H Q E →
      ∃ t, PSs (cxOf (L2N.CX P w) P w K mg base N qual (defScope st) f cdv A outer s H E) (defBody st) t ∧ t { nx := fun _ H' => Q .non H', rt := Q } (L2.start N vs) H) : FnOk P w K mg base (L2N.CX P w) (k + 1) f fd ps sp := by
  obtain ⟨⟨oc, od, kV, doc, pm, an, cdv, ct, osl, rfl, lk, hcd⟩, kp⟩ := F
  exact fn_of lk hcd S hl (fun A outer s H vs Q E hr hs => hbody cdv A outer s H vs Q E hr hs)
def OkN (P : Program) (w : World) (K : Frag) (mg : Str → Option Value) (base : Heap) (k : Nat) (x : Str) (ps : List Str) (sp : Sp) : Prop :=
  ∃ f, mg x = some (.ref f) ∧ PySem.W.keepIn K (.ref f) = true ∧ ∃ fd, Binds K fd ps [] ∧ FnOk P w K mg base (L2N.CX P w) k f fd ps sp
def OkMN (P : Program) (w : World) (K : Frag) (mg : Str → Option Value) (base : Heap) (k : Nat) (C : Addr) (m : Str) (ps : List Str) (sp : Sp) : Prop :=
  ∃ f, Meth K C m f ∧ ∃ fd, Binds K fd ps [] ∧ FnOk P w K mg base (L2N.CX P w) k f fd ps sp
def OkIN (P : Program) (w : World) (K : Frag) (mg : Str → Option Value) (base : Heap) (k : Nat) (C : Addr) (ps : List Str) (sp : Sp) : Prop :=
  ∃ f, Mk K C f ∧ ∃ fd, Binds K fd ps [] ∧ FnOk P w K mg base (L2N.CX P w) k f fd ps sp
section
variable {P : Program} {w : World} {K : Frag} {mg : Str → Option Value} {base : Heap} {k : Nat} {x m : Str} {C : Addr} {ps : List Str} {sp : Sp}
theorem OkN.weak (h : OkN P w K mg base k x ps sp) : Ok P w K mg base k x ps sp := by
  obtain ⟨f, g, kp, fd, b, F⟩ := h
  exact ⟨f, g, kp, fd, b, fn_weak F⟩
theorem OkMN.weak (h : OkMN P w K mg base k C m ps sp) : OkM P w K mg base k C m ps sp := by
  obtain ⟨f, g, fd, b, F⟩ := h
  exact ⟨f, g, fd, b, fn_weak F⟩
theorem OkIN.weak (h : OkIN P w K mg base k C ps sp) : OkI P w K mg base k C ps sp := by
  obtain ⟨f, g, fd, b, F⟩ := h
  exact ⟨f, g, fd, b, fn_weak F⟩
end
section
variable {P : Program} {w : World} {K : Frag} {mg : Str → Option Value} {base : Heap}
theorem FnAt.okN {x : Str} {st : Stmt} {ps N : List Str} {f : Addr} {k : Nat} (T : FnAt K mg x st ps f) (S : FnScope N ps (defScope st)) (c : Ct) (hl : ∀ ds k, c ds k → ds.length = ps.length)
    (hbody : ∀ (cdv : Value) (A : Around) (outer : List Env) (s : Shared) (H : Hp) (vs : List V) (Q : VK) (E : XK), Room k (A.deeper (envOfC x (defScope st) s.heap.objs.size f cdv)) → spc K c vs H Q E →
      ∃ t, PSs (cxOf (L2N.CX P w) P w K mg base N x (defScope st) f cdv A outer s H E) (defBody st) t ∧ t { nx := fun _ H' => Q .non H', rt := Q } (L2.start N vs) H) : OkN P w K mg base (k + 1) x ps (spc K c) := by
  obtain ⟨g, fd, F, b⟩ := T
  exact ⟨f, g, F.kp, fd, b, fun_okN F S (spc_len hl) hbody⟩
end
section
variable {X : Cx} {k : Nat} {x : Str} {ps : List Str} {sp : Sp} {W : WX} {p pos : Pos} {e : Expr} {es : List Expr} {ta : TA}
theorem pe_fnN (o : OkN X.prog X.w X.K X.mg X.base k x ps sp) (hr : Room k X.A) (tk : L2N.Takes X W) (hg : Gl X x) (ha : PA X (e :: es) ta)
    (hdb : (x == ("__debug__" : Str)) = false := by decide) (he : starEach (e :: es) X.env = (false, eval e X.env) :: starEach es X.env := by rfl) (hpl : (backTo pos (starEach es X.env)).any (·.1) = false := by rfl) :
    PE X (.Call (.Name x p) (e :: es) [] pos) (tCallS sp (WE W) ta) := by
  obtain ⟨f, g, kp, fd, b, F⟩ := o
  exact pe_callS F hr hg g kp b (fun σ => L2N.passAt tk σ) ha hdb he hpl
end
section
variable {X : Cx} {K : Frag}
theorem takes0N : L2N.Takes X (fun _ _ _ _ => False) := fun u s' ⟨_, _, _, _, _, _, _, _, _, _, _, _, _, _, _, _, h⟩ => h.elim
theorem ps_raiseCN {W : WX} {C : Addr} {x m : Str} {j : Nat} {p p2 pos pos2 : Pos} (hc : X.calm = true) (tk : L2N.Takes X W) (q : PySem.W.excIn X.K C [.type "ValueError", .type "Exception", .type "BaseException", .type "object"] "ValueError.__new__" = true) (gC : X.mg x = some (.ref C))
    (kC : PySem.W.keepIn X.K (.ref C) = true) (h1 : PySem.W.subIn X.K (.ref C) (.type "BaseException") = some true) (h2 : PySem.W.typeIn X.K (.ref C) = some (.type "type")) (hg : Gl X x) (hdb : (x == ("__debug__" : Str)) = false := by decide) :
    PS X (.Raise (some (.Call (.Name x p) [.Constant (.str m) j p2] [] pos)) none pos2) (tRaiseC W C) :=
  L2N.ps_raise hc tk (L2N.pmk_own PySem.F.excBase_ValueError q gC kC (raises_own h1 h2) hg hdb)
theorem t_tryN {x : Str} {c : Value} {body suite : List Stmt} {b₀ : Stmt} {np pos pos' : Pos} {n : Str} {i : Nat} {tb : WX → TS} {ts : Addr → Value → Option Addr → TS} {Wout : WX} (hs : X.stack = X.env :: X.outer) (hf : X.env.frame = some X.env.locals) (hN : X.N.Nodup) (hi : X.N[i]? = some n) (hln : X.env.kindOf n = some .local) (hc : Names X x c) (tk : L2N.Takes X Wout)
    (hb : ∀ (W : WX) (pn : List (Addr × Obj)) (xe : Value → Shared → Prop), L2N.Takes (X.tr pn xe) W → PassesOwn (model X.prog X.w) X.A X.env xe → PSs (X.tr pn xe) body (tb W))
    (hsu : ∀ (a : Addr) (oe : Obj) (cls : Value) (d : Option Addr) (pn : List (Addr × Obj)), L2N.Zn cls d oe → (∃ vs, oe.data = .fields vs) → PSs (X.suite a ((a, oe) :: pn)) (b₀ :: suite) (ts a cls d)) (hK : X.K = K := by rfl) :
    PS X (.Try body [.ExceptHandler (some (.Name x np)) (some n) (b₀ :: suite) pos'] [] [] pos) (tTryAs K c i tb ts Wout) := by
  subst hK
  exact L2N.ps_try_as hs hf hN hi hln hc tk hb hsu
end
end Pu
set_option maxRecDepth 100000
set_option maxHeartbeats 1000000
namespace Pu
open PySem PySem.Spec PyProof.Rows L2
/-! ### a custom with other claims -/
mutual
def Cu.withC : Cu → List Int → Cu
  | .boat _, es => .boat (es.headD 0)
  | .knot y ws ks, es => .knot y ws (Cu.withL ks es)
def Cu.withL : List Cu → List Int → List Cu
  | [], _ => []
  | k :: r, es => k.withC es :: Cu.withL r (es.drop k.claims.length)
end
theorem withL_len : ∀ (ks : List Cu) (es : List Int), (Cu.withL ks es).length = ks.length
  | [], _ => by unfold Cu.withL; rfl
  | k :: r, es => by
    unfold Cu.withL
    rw [List.length_cons, withL_len r, List.length_cons]
def WithP (u : Cu) : Prop := ∀ es : List Int, u.claims.length ≤ es.length → (u.withC es).claims = es.take u.claims.length ∧ (u.withC es).deep = u.deep ∧ (u.ok → (∀ c ∈ es, 0 ≤ c ∧ c ≤ 1000000000) → (u.withC es).ok)
theorem withL_all : ∀ (ks : List Cu), (∀ k ∈ ks, WithP k) → ∀ es : List Int, (Cu.claimsL ks).length ≤ es.length → Cu.claimsL (Cu.withL ks es) = es.take (Cu.claimsL ks).length ∧ Cu.deepL (Cu.withL ks es) = Cu.deepL ks ∧ (Cu.okL ks → (∀ c ∈ es, 0 ≤ c ∧ c ≤ 1000000000) → Cu.okL (Cu.withL ks es))
  | [], _, es, _ => ⟨by unfold Cu.withL; show [] = es.take 0; rw [List.take_zero], by unfold Cu.withL; rfl, fun _ _ => by unfold Cu.withL; trivial⟩
  | k :: r, hk, es, hl => by
    have hl' : k.claims.length + (Cu.claimsL r).length ≤ es.length := by
      have : (k.claims ++ Cu.claimsL r).length ≤ es.length := hl
      rwa [List.length_append] at this
    obtain ⟨a1, a2, a3⟩ := hk k List.mem_cons_self es (by omega)
    obtain ⟨b1, b2, b3⟩ := withL_all r (fun x hx => hk x (List.mem_cons_of_mem _ hx)) (es.drop k.claims.length) (by rw [List.length_drop]; omega)
    unfold Cu.withL
    refine ⟨?_, ?_, fun ho hc => ?_⟩
    · show (k.withC es).claims ++ Cu.claimsL _ = es.take (k.claims ++ Cu.claimsL r).length
      rw [a1, b1, List.length_append, List.take_add]
    · show max (k.withC es).deep (Cu.deepL _) = max k.deep (Cu.deepL r)
      rw [a2, b2]
    · obtain ⟨o1, o2⟩ := ho
      exact ⟨a3 o1 hc, b3 o2 fun c h => hc c (List.mem_of_mem_drop h)⟩
theorem with_all : ∀ u : Cu, WithP u := fun u => Cu.ind (P := WithP) (fun c es hl => by
  cases es with
  | nil => exact absurd (show 1 ≤ 0 from hl) (by decide)
  | cons e r =>
    unfold Cu.withC
    exact ⟨rfl, rfl, fun _ h => h e List.mem_cons_self⟩) (fun y ws ks ih es hl => by
  obtain ⟨b1, b2, b3⟩ := withL_all ks ih es hl
  unfold Cu.withC
  refine ⟨b1, ?_, fun ho hc => ?_⟩
  · show 1 + Cu.deepL _ = 1 + Cu.deepL ks
    rw [b2]
  · obtain ⟨⟨h1, h2, h3⟩, h4⟩ := ho
    refine ⟨⟨fun z => h1 ?_, by rw [withL_len]; exact h2, by rw [withL_len]; exact h3⟩, b3 h4 hc⟩
    have := congrArg List.length z
    rw [withL_len] at this
    exact List.length_eq_zero_iff.mp this) u
theorem with_Ok {u : Cu} (h : u.Ok) {es : List Int} (hl : u.claims.length ≤ es.length) (hc : ∀ c ∈ es, 0 ≤ c ∧ c ≤ 1000000000) : (u.withC es).Ok := by
  obtain ⟨a1, a2, a3⟩ := with_all u es hl
  refine ⟨a3 h.ok hc, ?_, by rw [a2]; exact h.low⟩
  rw [a1, List.length_take]
  have := h.few
  omega
theorem with_claims_eq {u : Cu} {es : List Int} (hl : es.length = u.claims.length) : (u.withC es).claims = es := by
  rw [(with_all u es (by omega)).1, ← hl, List.take_length]
/-! ### fish: from nought to the claim, in sum the catch -/
theorem fishU_b {u : Cu} {c : Int} (h : u.Ok) (h0 : 0 ≤ c) (h1 : c ≤ u.sum) {i : Nat} {f k : Int} (hf : (fishU u c)[i]? = some f) (hk : u.claims[i]? = some k) : 0 ≤ f ∧ f ≤ k := by
  have q0 : (0 : Rat) ≤ (c : Rat) := by exact_mod_cast h0
  have q1 : (c : Rat) ≤ (u.sum : Rat) := by exact_mod_cast h1
  have dl := deal_dl h.ok q0 q1
  have hi : i < (u.deal (c : Rat)).length := by
    have := getElem?_lt hf
    unfold fishU at this
    rwa [fishOf_len] at this
  obtain ⟨g, hg⟩ : ∃ g, (u.deal (c : Rat))[i]? = some g := ⟨_, List.getElem?_eq_getElem hi⟩
  have hq : (qlist u.claims)[i]? = some (k : Rat) := by unfold qlist; rw [List.getElem?_map, hk]; rfl
  have hb := dl.get hg hq
  have e := gAt_of hg
  have hn := fish_near (k := k) dl.sum hi (by rw [e]; exact hb.1) (by rw [e]; exact hb.2)
  have hf' := fish_at (c := c) hi
  unfold fishU at hf
  rw [hf] at hf'
  obtain rfl := Option.some.inj hf'
  exact ⟨hn.1, hn.2.1⟩
/-! ### ledgers -/
structure Lg where
  u : Cu
  ns : List Str
  got : List Int
  rest : Int
  tape : List D
structure Lg.Ok (L : Lg) : Prop where
  u : L.u.Ok
  ns : lookN L.u L.ns = 2
  got : L.got.length = L.ns.length
theorem Lg.Ok.len {L : Lg} (h : L.Ok) : L.ns.length = L.u.claims.length := (lookN_2 h.ns).1
theorem Lg.Ok.few {L : Lg} (h : L.Ok) : L.ns.length ≤ 12 := by have := h.len; have := h.u.few; omega
/-- claims put anew -/
def Lg.put (L : Lg) (es : List Int) : Lg := { L with u := L.u.withC es }
theorem lookN_with {u v : Cu} {ns : List Str} (h : v.claims.length = u.claims.length) (h2 : lookN u ns = 2) : lookN v ns = 2 := by
  unfold lookN at h2 ⊢
  rw [h]
  exact h2
theorem Lg.Ok.put {L : Lg} (h : L.Ok) {es : List Int} (hl : es.length = L.u.claims.length) (hc : ∀ c ∈ es, 0 ≤ c ∧ c ≤ 1000000000) : (L.put es).Ok :=
  ⟨with_Ok h.u (by omega) hc, lookN_with (by show (L.u.withC es).claims.length = _; rw [with_claims_eq hl, hl]) h.ns, h.got⟩
/-! facts -/
def askF (z : Str) (c : Int) : D := .tuple [.str "ask", .str z, .int c]
def landF (c : Int) : D := .tuple [.str "land", .int c]
def getsF (z : Str) (c : Int) : D := .tuple [.str "gets", .str z, .int c]
def keptF (c : Int) : D := .tuple [.str "kept", .int c]
/-- who got any -/
def getsL : List Str → List Int → List D
  | z :: zs, f :: fs => (if 0 < f then [getsF z f] else []) ++ getsL zs fs
  | _, _ => []
def addL (a b : List Int) : List Int := List.zipWith (· + ·) a b
def subL (a b : List Int) : List Int := List.zipWith (· - ·) a b
/-- a catch of many fish, of which the custom deals some -/
def Lg.many (L : Lg) (c : Int) : Int := min c L.u.sum
def Lg.parts (L : Lg) (c : Int) : List Int := fishU L.u (L.many c)
def Lg.facts (L : Lg) (c : Int) : List D := landF c :: getsL L.ns (L.parts c) ++ (if L.many c < c then [keptF (c - L.many c)] else [])
def Lg.ask (L : Lg) (i : Nat) (z : Str) (c : Int) : Lg := { L.put (L.u.claims.set i c) with tape := L.tape ++ [askF z c] }
def Lg.land (L : Lg) (c : Int) : Lg := { L.put (subL L.u.claims (L.parts c)) with got := addL L.got (L.parts c), rest := L.rest + (c - L.many c), tape := L.tape ++ L.facts c }
def Lg.at_ (L : Lg) (z : Str) : Nat := L.ns.idxOf z
/-- what asking comes to: 0 no boat, 1 a bad claim, 2 done -/
def askC (L : Lg) (z : Str) (c : Int) : Nat := if L.ns.contains z then (if 0 ≤ c ∧ c ≤ 1000000000 then 2 else 1) else 0
def landC (c : Int) : Nat := if 0 ≤ c ∧ c ≤ 1000000000000 then 2 else 0
/-! what a ledger tells -/
theorem addL_len (a b : List Int) (h : a.length = b.length) : (addL a b).length = a.length := by unfold addL; rw [List.length_zipWith, h, Nat.min_self]
theorem subL_len (a b : List Int) (h : a.length = b.length) : (subL a b).length = a.length := by unfold subL; rw [List.length_zipWith, h, Nat.min_self]
theorem subL_get {a b : List Int} {i : Nat} {x y : Int} (h1 : a[i]? = some x) (h2 : b[i]? = some y) : (subL a b)[i]? = some (x - y) := by unfold subL; rw [List.getElem?_zipWith, h1, h2]
theorem Lg.many_b {L : Lg} (h : L.u.Ok) {c : Int} (hc : 0 ≤ c) : 0 ≤ L.many c ∧ L.many c ≤ L.u.sum ∧ L.many c ≤ c := by
  have h0 : 0 ≤ L.u.sum := by
    have := qsum_nonneg (nn_q fun c hc => (Cu.claims_b h.ok c hc).1)
    rw [qlist_sum] at this
    exact_mod_cast this
  unfold Lg.many
  omega
theorem Lg.parts_len {L : Lg} (h : L.u.Ok) {c : Int} (hc : 0 ≤ c) : (L.parts c).length = L.u.claims.length := fishU_len h (L.many_b h hc).1 (L.many_b h hc).2.1
theorem Lg.sub_b {L : Lg} (h : L.u.Ok) {c : Int} (hc : 0 ≤ c) : ∀ e ∈ subL L.u.claims (L.parts c), 0 ≤ e ∧ e ≤ 1000000000 := fun e he => by
  obtain ⟨i, hi⟩ := List.mem_iff_getElem?.mp he
  have hl := L.parts_len h hc
  have hil : i < L.u.claims.length := by
    have := getElem?_lt hi
    rwa [subL_len _ _ hl.symm] at this
  obtain ⟨k, hk⟩ : ∃ k, L.u.claims[i]? = some k := ⟨_, List.getElem?_eq_getElem hil⟩
  obtain ⟨f, hf⟩ : ∃ f, (L.parts c)[i]? = some f := ⟨_, List.getElem?_eq_getElem (by omega)⟩
  have := subL_get hk hf
  rw [hi] at this
  obtain rfl := Option.some.inj this
  have hb := fishU_b h (L.many_b h hc).1 (L.many_b h hc).2.1 hf hk
  have := Cu.claims_b h.ok k (List.mem_of_getElem? hk)
  omega
theorem Lg.Ok.land {L : Lg} (h : L.Ok) {c : Int} (hc : 0 ≤ c) : (L.land c).Ok := by
  have hl := L.parts_len h.u hc
  have := h.put (subL_len _ _ hl.symm) (L.sub_b h.u hc)
  refine ⟨this.u, this.ns, ?_⟩
  show (addL L.got (L.parts c)).length = L.ns.length
  have hg := h.got
  have hn := h.len
  rw [addL_len _ _ (by omega), hg]
theorem Lg.Ok.ask {L : Lg} (h : L.Ok) {z : Str} {c : Int} {i : Nat} (hc : 0 ≤ c ∧ c ≤ 1000000000) : (L.ask i z c).Ok := by
  have := h.put (es := L.u.claims.set i c) (List.length_set ..) fun e he => by
    rcases List.mem_or_eq_of_mem_set he with he | rfl
    · exact Cu.claims_b h.u.ok e he
    · exact hc
  exact ⟨this.u, this.ns, this.got⟩
end Pu
set_option maxRecDepth 100000
set_option maxHeartbeats 1000000
namespace Pu
open PySem PySem.Spec PyProof.Rows L2
/-! ### deeds -/
inductive Deed where
  | ask (z : Str) (c : Int)
  | land (c : Int)
def Deed.d : Deed → D
  | .ask z c => askF z c
  | .land c => landF c
def Lg.can (L : Lg) : Deed → Bool
  | .ask z c => decide (askC L z c = 2)
  | .land c => decide (landC c = 2)
def Lg.next (L : Lg) : Deed → Lg
  | .ask z c => L.ask (L.at_ z) z c
  | .land c => L.land c
def Lg.told (L : Lg) : Deed → List D
  | .ask z c => [askF z c]
  | .land c => L.facts c
theorem askC_2 {L : Lg} {z : Str} {c : Int} (h : askC L z c = 2) : L.ns.contains z = true ∧ 0 ≤ c ∧ c ≤ 1000000000 := by
  unfold askC at h
  split at h
  · split at h
    · exact ⟨by assumption, by assumption⟩
    · cases h
  · cases h
theorem landC_2 {c : Int} (h : landC c = 2) : 0 ≤ c ∧ c ≤ 1000000000000 := by
  unfold landC at h
  split at h
  · assumption
  · cases h
theorem Lg.Ok.next {L : Lg} (h : L.Ok) {e : Deed} (hc : L.can e = true) : (L.next e).Ok := by
  cases e with
  | ask z c => exact h.ask (askC_2 (of_decide_eq_true hc)).2
  | land c => exact h.land (landC_2 (of_decide_eq_true hc)).1
/-! facts may be compared -/
/-! contracts of the laws of ledgers -/
/-! ### five things told at once, three of them new lists -/
end Pu
set_option maxRecDepth 100000
set_option maxHeartbeats 1000000
namespace Pu
open PySem PySem.Spec PyProof.Rows L2
/-! ### for one in [told[1], told[2], told[4]]: one.append(1); one.reverse() -/
end Pu
set_option maxRecDepth 100000
set_option maxHeartbeats 1000000
namespace Pu
open PySem PySem.Spec PyProof.Rows L2
/-! ### len(set(texts)) -/
/-! ### the same as rules -/
end Pu
set_option maxRecDepth 100000
set_option maxHeartbeats 1000000
namespace Pu
open PySem PySem.Spec PyProof.Rows L2
/-! ### an object made of a list of one's own, which it does not keep -/
end Pu
set_option maxRecDepth 100000
set_option maxHeartbeats 1000000
namespace Pu
open PySem PySem.Spec PyProof.Rows L2
/-! ### a test whose first half changes the thing lent -/
/-! ### sums -/
end Pu
set_option maxRecDepth 100000
set_option maxHeartbeats 1000000
namespace Pu
open PySem PySem.Spec PyProof.Rows L2
/-! ### a value in a tuple of values -/
/-! ### a ledger made, or the text: what came -/
end Pu
set_option maxRecDepth 100000
set_option maxHeartbeats 1000000
namespace Pu
open PySem PySem.Spec PyProof.Rows L2
/-! ### texts cut at a sign, capitals, str of a text -/
/-! ### an expression behind which a token is out -/
/-! ### an own list extended by what a call tells that changes a thing -/
end Pu
set_option maxRecDepth 100000
set_option maxHeartbeats 1000000
namespace Pu
open PySem PySem.Spec PyProof.Rows L2
/-! ### plain signs: no line's end among them -/
/-! ### cut at one sign -/
/-! ### lengths of what is joined -/
/-! ### capitals, blanks doubled -/
end Pu
set_option maxRecDepth 100000
set_option maxHeartbeats 1000000
namespace Pu
open PySem PySem.Spec PyProof.Rows L2
/-! ### a new list told -/
/-! ### facts as rows -/
def strT : D → Str
  | .str z => z
  | .int i => itS i
  | _ => Str.empty
def rowT : D → Str
  | .tuple es => Str.join " " (es.map strT)
  | _ => Str.empty
def wordLow (e : D) : Prop := (∃ i : Int, e = .int i ∧ -1 ≤ i ∧ i < 10000000000000) ∨ ∃ z : Str, e = .str z ∧ z.cps.toList.all lowB = true ∧ 1 ≤ z.length ∧ z.length ≤ 20
def factLow (d : D) : Prop := ∃ es : List D, d = .tuple es ∧ es.length ≤ 3 ∧ ∀ e ∈ es, wordLow e
/-! ### a row's deed -/
def rowDeed (row : Str) : Option Deed := match Txt.split row " " with
  | [a, n, w] => if a = "ask" ∧ okNum w = true then some (.ask n (numOf w)) else none
  | [a, w] => if a = "land" ∧ okNum w = true then some (.land (numOf w)) else none
  | _ => none
def Lg.rowNext (L : Lg) (row : Str) : Lg := match rowDeed row with | some e => if L.can e then L.next e else L | none => L
def Lg.rowTold (L : Lg) (row : Str) : List Str := match rowDeed row with | some e => if L.can e then (L.told e).map rowT else ["refused"] | none => ["refused"]
section
variable {L : Lg} {row : Str} {e : Deed}
theorem wl_int {i : Int} (h : -1 ≤ i ∧ i < 10000000000000) : wordLow (.int i) := .inl ⟨i, rfl, h⟩
theorem wl_str {z : Str} (h : z.cps.toList.all lowB = true) (h1 : 1 ≤ z.length) (h2 : z.length ≤ 20) : wordLow (.str z) := .inr ⟨z, rfl, h, h1, h2⟩
theorem wl_nm {z : Str} (h : isNm z = true) : wordLow (.str z) := by
  obtain ⟨h1, h2, h3⟩ := isNm_low h
  exact wl_str h3 h1 (by omega)
/-- a fact of a ledger's: what its words are -/
inductive Fk (ns : List Str) : D → Prop
  | ask {z : Str} {c : Int} (h : z ∈ ns) (h1 : 0 ≤ c ∧ c ≤ 1000000000000) : Fk ns (askF z c)
  | land {c : Int} (h1 : 0 ≤ c ∧ c ≤ 1000000000000) : Fk ns (landF c)
  | gets {z : Str} {c : Int} (h : z ∈ ns) (h1 : 0 ≤ c ∧ c ≤ 1000000000000) : Fk ns (getsF z c)
  | kept {c : Int} (h1 : 0 ≤ c ∧ c ≤ 1000000000000) : Fk ns (keptF c)
theorem Fk.low {ns : List Str} {d : D} (h : Fk ns d) (hn : ∀ z ∈ ns, isNm z = true) : factLow d ∧ ∃ w r, d = .tuple (.str w :: r) := by
  cases h with
  | ask h h1 => exact ⟨⟨_, rfl, by show 3 ≤ 3; decide, fun e he => by
      simp only [List.mem_cons, List.not_mem_nil, or_false] at he
      rcases he with rfl | rfl | rfl
      · exact wl_str (by decide +kernel) (by decide +kernel) (by decide +kernel)
      · exact wl_nm (hn _ h)
      · exact wl_int (by omega)⟩, _, _, rfl⟩
  | land h1 => exact ⟨⟨_, rfl, by show 2 ≤ 3; decide, fun e he => by
      simp only [List.mem_cons, List.not_mem_nil, or_false] at he
      rcases he with rfl | rfl
      · exact wl_str (by decide +kernel) (by decide +kernel) (by decide +kernel)
      · exact wl_int (by omega)⟩, _, _, rfl⟩
  | gets h h1 => exact ⟨⟨_, rfl, by show 3 ≤ 3; decide, fun e he => by
      simp only [List.mem_cons, List.not_mem_nil, or_false] at he
      rcases he with rfl | rfl | rfl
      · exact wl_str (by decide +kernel) (by decide +kernel) (by decide +kernel)
      · exact wl_nm (hn _ h)
      · exact wl_int (by omega)⟩, _, _, rfl⟩
  | kept h1 => exact ⟨⟨_, rfl, by show 2 ≤ 3; decide, fun e he => by
      simp only [List.mem_cons, List.not_mem_nil, or_false] at he
      rcases he with rfl | rfl
      · exact wl_str (by decide +kernel) (by decide +kernel) (by decide +kernel)
      · exact wl_int (by omega)⟩, _, _, rfl⟩
end
/-! ### what the desk answers -/
/-! contracts of the laws of the desk -/
end Pu
set_option maxRecDepth 100000
set_option maxHeartbeats 1000000
namespace Pu
open PySem PySem.Spec PyProof.Rows L2
/-! ### a comprehension in a comprehension -/
/-! ### arguments that raise -/
/-! ### texts cut -/
/-! ### numbers drawn from a list -/
end Pu
set_option maxRecDepth 100000
set_option maxHeartbeats 1000000
namespace Pu
open PySem PySem.Spec PyProof.Rows L2
/-! ### heads that are read, heads that are refused -/
/-! without a colon nothing is read -/
/-! ### answers to rows joined -/
end Pu
set_option maxRecDepth 100000
set_option maxHeartbeats 1000000
namespace Pu
open PySem PySem.Spec PyProof.Rows L2
/-! ### rows told, gone through -/
inductive Tr where
  | nil
  | no
  | ask (z : Str) (c : Int)
  | land (c : Int)
  | gets (z : Str) (c : Int)
  | kept (c : Int)
def Tr.t : Tr → Str
  | .nil => Str.empty
  | .no => "refused"
  | .ask z c => rowT (askF z c)
  | .land c => rowT (landF c)
  | .gets z c => rowT (getsF z c)
  | .kept c => rowT (keptF c)
def Tr.ok (ns : List Str) : Tr → Prop
  | .nil => True
  | .no => True
  | .ask z c => z ∈ ns ∧ 0 ≤ c ∧ c ≤ 1000000000000
  | .land c => 0 ≤ c ∧ c ≤ 1000000000000
  | .gets z c => z ∈ ns ∧ 0 ≤ c ∧ c ≤ 1000000000000
  | .kept c => 0 ≤ c ∧ c ≤ 1000000000000
structure Gn where
  claims : List Int
  got : List Int
  kept : Int
def Gn.d (g : Gn) : D := .tuple [.list (g.claims.map PyData.int), .list (g.got.map PyData.int), .int g.kept]
/-! what a ledger tells, as rows -/
def getsTr : List Str → List Int → List Tr
  | z :: zs, f :: fs => (if 0 < f then [.gets z f] else []) ++ getsTr zs fs
  | _, _ => []
def Lg.tr (L : Lg) : Deed → List Tr
  | .ask z c => [.ask z c]
  | .land c => .land c :: getsTr L.ns (L.parts c) ++ (if L.many c < c then [.kept (c - L.many c)] else [])
/-! what they come to -/
end Pu
set_option maxRecDepth 100000
set_option maxHeartbeats 1000000
namespace Pu
open PySem PySem.Spec PyProof.Rows L2
/-! ### other claims twice, the same claims -/
/-! ### a day behind a day -/
theorem addL_assoc : ∀ a b c : List Int, addL (addL a b) c = addL a (addL b c)
  | [], _, _ => by unfold addL; rfl
  | _ :: _, [], _ => by unfold addL; rfl
  | _ :: _, _ :: _, [] => by unfold addL; rfl
  | x :: a, y :: b, z :: c => by
    show (x + y + z) :: addL (addL a b) c = (x + (y + z)) :: addL a (addL b c)
    rw [addL_assoc a b c, Int.add_assoc]
/-- L is as M, with G and R ahead -/
structure Sim (G : List Int) (R : Int) (L M : Lg) : Prop where
  u : L.u = M.u
  ns : L.ns = M.ns
  got : L.got = addL G M.got
  rest : L.rest = R + M.rest
section
variable {G : List Int} {R : Int} {L M : Lg}
theorem Sim.can (h : Sim G R L M) (e : Deed) : L.can e = M.can e := by
  cases e with
  | ask z c => show decide (askC L z c = 2) = decide (askC M z c = 2); unfold askC; rw [h.ns]
  | land c => rfl
theorem Sim.parts (h : Sim G R L M) (c : Int) : L.parts c = M.parts c ∧ L.many c = M.many c := by
  unfold Lg.parts Lg.many
  rw [h.u]
  exact ⟨rfl, rfl⟩
theorem Sim.told (h : Sim G R L M) (e : Deed) : L.told e = M.told e := by
  cases e with
  | ask z c => rfl
  | land c =>
    show L.facts c = M.facts c
    unfold Lg.facts
    rw [(h.parts c).1, (h.parts c).2, h.ns]
theorem Sim.next (h : Sim G R L M) (e : Deed) : Sim G R (L.next e) (M.next e) := by
  cases e with
  | ask z c =>
    refine ⟨?_, h.ns, h.got, h.rest⟩
    show L.u.withC (L.u.claims.set (L.ns.idxOf z) c) = M.u.withC (M.u.claims.set (M.ns.idxOf z) c)
    rw [h.u, h.ns]
  | land c =>
    obtain ⟨h1, h2⟩ := h.parts c
    refine ⟨?_, h.ns, ?_, ?_⟩
    · show L.u.withC (subL L.u.claims (L.parts c)) = M.u.withC (subL M.u.claims (M.parts c))
      rw [h.u, h1]
    · show addL L.got (L.parts c) = addL G (addL M.got (M.parts c))
      rw [h.got, h1, addL_assoc]
    · show L.rest + (c - L.many c) = R + (M.rest + (c - M.many c))
      rw [h.rest, h2, Int.add_assoc]
theorem Sim.row (h : Sim G R L M) (row : Str) : Sim G R (L.rowNext row) (M.rowNext row) ∧ L.rowTold row = M.rowTold row := by
  unfold Lg.rowNext Lg.rowTold
  cases rowDeed row with
  | none => exact ⟨h, rfl⟩
  | some e =>
    show Sim G R (if L.can e then L.next e else L) (if M.can e then M.next e else M) ∧ (if L.can e then (L.told e).map rowT else [("refused" : Str)]) = if M.can e then (M.told e).map rowT else [("refused" : Str)]
    rw [h.can e, h.told e]
    split
    · exact ⟨h.next e, rfl⟩
    · exact ⟨h, rfl⟩
end
/-! ### joined texts joined -/
/-! ### what was gone through may be compared -/
end Pu
set_option maxRecDepth 100000
set_option maxHeartbeats 1000000
namespace Pu
open PySem PySem.Spec PyProof.Rows L2
/-! ### two own lists lent at once -/
end Pu
set_option maxRecDepth 100000
set_option maxHeartbeats 1000000
namespace Pu
open PySem PySem.Spec PyProof.Rows L2
/-! ### a row cut and joined; a number read and written -/
/-! ### where a catch's rows end -/
def Tr.stop : Tr → Prop
  | .gets _ _ => False
  | .kept _ => False
  | _ => True
/-! ### a catch gone through, boat by boat -/
/-- what follows a landing -/
def kp (s c : Int) : List Tr := if s < c then [Tr.kept (c - s)] else []
end Pu
set_option maxRecDepth 100000
set_option maxHeartbeats 1000000
namespace Pu
open PySem PySem.Spec PyProof.Rows L2
end Pu
set_option maxRecDepth 100000
set_option maxHeartbeats 2000000
namespace Pu
open PySem PySem.Spec PyProof.Rows L2
/-! ### the end of a list's iterator while an exception is handled -/
section
variable {prog : Program} {w : World} {A : Around} {E : Value → Shared → Prop} {s : Shared}
theorem list_end_hot {it l x1 : Addr} {i : Nat} {items} {Q : Option Value → Shared → Prop} (hot : HotX.HotAt A x1 s.heap) (hne : x1 ≠ it)
    (hit : s.heap.IsListIter it l i) (hl : s.heap.IsList l items) (hx : items[i]? = none)
    (hQ : ∀ h', Heap.ExtBut it s.heap h' → Q none { s with heap := h' }) : wpAny (model prog w) A (pyNext (.ref it)) Q E s := by
  obtain ⟨o, ho, hc, hd⟩ := id hit
  obtain ⟨ol, hol, _, nl, hdl⟩ := hl
  obtain ⟨hh, o1, vs1, h1, d1, c1⟩ := hot
  unfold pyNext
  refine wpAny_bind (wpAny_attempt (wpAny_callSpecial?_slot (name := Str.ofString "__next__") hit.typeIs slot_listiter_next
    (wpAny_call_entry slot_listiter_next hit.typeIs entry_listiter_next ?_ (args_listiter_next _))))
  show wpAny _ _ (field (.ref it) 0 >>= _) _ _ s
  refine wpAny_bind (wpAny_field ho hd (x := .ref l) rfl ?_)
  show wpAny _ _ (if (Value.ref l == Value.none) = true then _ else _) _ _ s
  rw [if_neg (show ¬ ((Value.ref l == Value.none) = true) from Bool.false_ne_true)]
  show wpAny _ _ (field (.ref it) 1 >>= _) _ _ s
  refine wpAny_bind (wpAny_field ho hd (x := .int i 0) rfl ?_)
  show wpAny _ _ (seqItems? (.ref l) >>= _) _ _ s
  refine wpAny_bind (wpAny_seqItems hol hdl ?_)
  simp only [Int.toNat_natCast, hx]
  refine wpAny_bind (wpAny_rule (wpAny_bind (wpAny_setField ho hd (by simp) ?_)))
  have h2 : (s.heap.update it (Obj.mapFields (·.setIfInBounds 0 Value.none))).get? x1 = some o1 := by
    rw [Heap.get?_update_other _ _ (Ne.symm hne)]
    exact h1
  show wpAny _ _ (newExc (.type "StopIteration") [] >>= _) _ _ _
  refine wpAny_bind ?_
  simp only [newExc, newTuple]
  refine wpAny_bind (wpAny_newObj_type ?_ (by size_fits))
  refine wpAny_bind (m := firstArgMember _ _) (wpAny_of_eq (a := Value.none) (by first | rfl | (simp only [firstArgMember]; rfl)) ?_)
  refine wpAny_newObj_type ?_ (by size_fits)
  refine HotX.raiseNew_hot ⟨hh, o1, vs1, Heap.get?_push_of_some _ (Heap.get?_push_of_some _ h2), d1, c1⟩ (Nat.ne_of_lt (Heap.lt_size (Heap.get?_push_of_some _ h2))) (Heap.get?_push_size _ rfl) rfl (by first | (simp; done) | (simp; omega) | (simp only [Array.size_append]; simp; omega)) ?_
  refine wpAny_bind (wpAny_isInstance (T := "StopIteration") (b := true) ⟨_, Heap.get?_update_self _ (Heap.get?_push_size _ rfl) rfl, rfl⟩ isSubtype_stop ?_)
  refine wpAny_pure (hQ _ fun b o hb e => ?_)
  have e' : (s.heap.update it (Obj.mapFields (·.setIfInBounds 0 Value.none))).get? b = some o := by
    rw [Heap.get?_update_other _ _ (Ne.symm hb)]
    exact e
  rw [Heap.get?_update_other _ _ (Nat.ne_of_gt (Heap.lt_size (Heap.get?_push_of_some _ e')))]
  exact Heap.get?_push_of_some _ (Heap.get?_push_of_some _ e')
end
/-! ### a list gone through while an exception is handled -/
theorem turn_listH {P : Program} {w : World} {K : PySem.W.Frag} {tg : Expr} (a it : Addr) : L2H.TurnH P w K tg (Itl K a) [it] it (fun i h => h.IsListIter it a i) where
  mem := by simp
  obj := fun i h st b hb => by
    have e : b = it := by simpa using hb
    subst e
    obtain ⟨o, e, c, d⟩ := st
    exact ⟨o, e, fun v z => by rw [d] at z; cases z⟩
  keep := fun i h h' st k => st.at fun o e => k it (by simp) o e
  item := by
    intro X hP hw hK hc i pins s σ H E I hf st hg
    subst hP hw hK
    obtain ⟨xs, x, hq, hx⟩ := hg
    obtain ⟨its, rv, p, hz⟩ := I.list hq
    obtain ⟨u, hu, ru⟩ := rv.get hx
    obtain ⟨f0, f1, f2, f3, f4, f5⟩ := hf it (by simp)
    refine wpAny_pyNext_list_item st p.isList (x := u) (by simpa using hu) fun h' st' sb => ?_
    have I1 : Inv X pins σ H { s with heap := h' } := I.turned (t' := s.toks) (fun b o hb e => (sb.2 b hb).trans e) f0 f1 f3 f4 f5
    obtain ⟨o, e, c, d⟩ := id st'
    exact ⟨u, rfl, go_of (s := { s with heap := h' }) e c d (by decide) ⟨x, H, I1, ru, ⟨rfl, fun ys hy => by rw [I.list_inj hy hq]; exact hx⟩, st', fun b hb => (hf b hb).1⟩⟩
  done := by
    intro X hP hw hK hc i pins s σ H E I hf st hg
    subst hP hw hK
    obtain ⟨xs, hq, hx⟩ := hg
    obtain ⟨its, rv, p, hz⟩ := I.list hq
    obtain ⟨f0, f1, f2, f3, f4, f5⟩ := hf it (by simp)
    obtain ⟨q, ⟨hh, v1, e1, c1⟩, hp⟩ := hc
    have hl := rv.length
    exact list_end_hot ⟨hh, q.2, v1, (I.pin q (List.mem_append_left _ hp)).1, e1, c1⟩ (f5 q (List.mem_append_left _ hp)) st p.isList (by simp; omega) fun h' eb => ⟨rfl, I.turned (t' := s.toks) (fun b o hb e => eb b o hb e) f0 f1 f3 f4 f5⟩
  self := fun _ _ _ _ _ st h => wpAny_pyIter_listiter st h
section
variable {X : Cx} {tg : Expr}
theorem pi_listH {l : Expr} {tl : TE} (hl : PE X l tl) : L2H.PIH X tg l (iList X.K tl) := by
  refine ⟨fun pins s σ H R I h => ?_⟩
  refine thn (hl.run pins s σ H _ I h) fun v s1 ⟨x, H1, I1, r1, q1⟩ => ?_
  obtain ⟨a, e, ⟨xs, hq⟩, q⟩ := q1
  subst e
  cases r1
  obtain ⟨its, rv, p, hz⟩ := I1.list hq
  refine wpAny_pyIter_list p.isList ?_
  refine ⟨s1.heap.objs.size, [s1.heap.objs.size], _, _, H1, rfl, I1.kept (t' := s1.toks) fun b o e => Heap.get?_push_of_some _ e, turn_listH a _, ⟨_, Heap.get?_push_size _ rfl, rfl, rfl⟩, fun b hb => ?_, q⟩
  have e : b = s1.heap.objs.size := by simpa using hb
  subst e
  exact I1.fpOk (Nat.le_refl _) (I1.hok.fresh (Nat.le_refl _))
end
theorem pi_listHK {X : Cx} {tg : Expr} {K : Frag} {l : Expr} {tl : TE} (hl : PE X l tl) (hK : X.K = K := by rfl) : L2H.PIH X tg l (iList K tl) := by
  subst hK
  exact pi_listH hl
section
variable {K : Frag} {ρ : En} {te : TE} {ds : List D}
theorem id_listH (h : Ev K te ρ (.list ds)) : Id K (iList K te) ρ ds := fun R0 H0 R σ H a Rr q => by
  refine h R0 H0 R σ H a _ fun v R1 H1 g1 dv => ?_
  cases dv with
  | lst hs ha =>
    rename_i p vs
    refine ⟨p, rfl, ⟨_, g1.sub.seq hs⟩, q _ R1 H1 g1 fun R2 H2 s2 sh => ⟨fun i d e => ?_, ⟨vs, sh.seq (s2.seq hs), Nat.le_of_eq (dpa_len ha)⟩⟩⟩
    obtain ⟨v, h1, h2⟩ := dpa_get ha e
    refine ⟨⟨vs, v, sh.seq (s2.seq hs), h1⟩, fun x H3 y => ?_⟩
    obtain ⟨rfl, y⟩ := y
    have z := y vs (sh.seq (s2.seq hs))
    rw [h1] at z
    cases z
    exact ⟨R2, Grow.refl sh, dp_mono s2 _ _ h2⟩
end
theorem hot_suite {X : Cx} {a : Addr} {oe : Obj} {cls : Value} {d : Option Addr} {pn : List (Addr × Obj)} (hz : L2N.Zn cls d oe) (hf : ∃ vs, oe.data = .fields vs) : L2H.HotC (X.suite a ((a, oe) :: pn)) := by
  obtain ⟨vs, hd⟩ := hf
  exact ⟨(a, oe), ⟨rfl, vs, hd, hz.2.2 vs hd⟩, List.mem_cons_self⟩
end Pu
set_option maxRecDepth 100000
set_option maxHeartbeats 2000000
namespace Pu
open PySem PySem.Spec PyProof.Rows L2
section
variable {X : Cx} {pins : List (Addr × Obj)} {σ : L2.St} {H : Hp} {s : Shared}
abbrev pin1 (X : Cx) (p : Addr × Obj) : Cx := { X with pn := [p] }
/-- a pin of the block's, told as one of its context's -/
theorem inv_hot {p : Addr × Obj} (I : Inv X [p] σ H s) (h : X.pn = []) : Inv (pin1 X p) [] σ H s := by
  obtain ⟨k, o2, o3, o4, o5, o6, o7, o8, o9, oa, ob⟩ := I
  obtain ⟨k1, k2, k3, k4, k5, k6, k7, k8, k9, ka, kb, kc, kd, ke, kf, kg, kh, ki⟩ := k
  refine ⟨⟨k1, k2, k3, k4, k5, k6, k7, k8, k9, ka, kb, kc, kd, ke, kf, kg, kh, ki⟩, o2, o3, o4, o5, o6, o7, o8, fun q hq => o9 q ?_, oa, ob⟩
  rw [h]
  exact hq
theorem lcH_core {Q : VK} {elt tg iter : Expr} {scope : Scope} {own : List (Str × Nat)} {pos pos' : Pos} {wi : TI} {g : TG} {te : TE} {use : Option (Value → Sem Unit)} {Qf : Value → Shared → Prop}
    (hot : L2H.HotC X) (nd : X.N.Nodup) (I : Inv X pins σ H s) (hi : L2H.PIH X tg iter wi) (bo : BlkOk X.N X.env.scope scope own)
    (hg : ∀ (a : Shared) (b : Hp) (c : Addr) (d : List (Str × Addr)) (e : List Addr), PG (X.blk a b scope (compEnvC scope d c X.env) e) tg g)
    (he : ∀ (a : Shared) (b : Hp) (c : Addr) (d : List (Str × Addr)) (e : List Addr), PE (X.blk a b scope (compEnvC scope d c X.env) e) elt te)
    (hs : ∀ x, foldedSetIterable iter X.env x = pure x) (h : tLc wi g tYes te (own.map (·.2)) σ H Q)
    (fin : ∀ D C s' m H', Inv X pins σ H' s' → Q (.ref D) H' → s'.heap.Ns C m → FpOk X pins H' C → compPost (model X.prog X.w) X.A X.xe use Qf (.ref D) C (.ok .next) s') :
    wpAny (model X.prog X.w) X.A (comprehension (.ListComp elt [⟨tg, iter, [], 0⟩] scope pos) scope X.env pos' (newList []) false (eval iter X.env) use) Qf X.xe s := by
  obtain ⟨hp, hh1, hmem⟩ := hot
  have fr : ∀ y ∈ scope.names, y.2 = .free → ∃ c, X.env.cells.lookup y.1 = some c := fun y hy e => (bo.free y hy e).elim (fun k => I.ok.has _ (.inl k)) fun k => I.ok.has _ (.inr k)
  refine wpAny_comprehension_free (use := use) rfl hs (closure_ok fr) bo.kind (fun y hy e => by rw [bo.uniq y hy, e]) (thn (hi.run pins s σ H _ I h) fun _ s1 hx => thn hx fun _ s2 h2 => ?_)
  obtain ⟨jt, fp, tn, J, H2, rfl, I2, T, st2, f2, q⟩ := h2
  refine wpAny_newObj_type (newEnv_comp ?_) (by show 0 ≤ sizeLine; decide)
  obtain ⟨dl, hdl⟩ : ∃ dl, dl = s2.heap.objs.size := ⟨_, rfl⟩
  rw [← hdl]
  obtain ⟨W, ⟨m0, w0⟩, turn⟩ := q dl (I2.hok.fresh (Nat.le_of_eq hdl.symm))
  obtain ⟨s3, hs3⟩ : ∃ s3 : Shared, s3 = { s2 with heap := s2.heap.push { cls := .type "list", data := .seq ([] : List Value).toArray } } := ⟨_, rfl⟩
  have I3 : Inv X pins σ (upd H2 dl (.lst [])) s3 := by
    rw [hs3]
    exact I2.laid (t' := s2.toks) (fun b o e => Heap.get?_push_of_some _ e) (Nat.le_of_eq hdl.symm) ⟨Nat.zero_le _, [], 0, .nil, by rw [hdl]; exact Heap.get?_push_size _ rfl⟩
  have k3 : s3.heap = s2.heap.push { cls := .type "list", data := .seq ([] : List Value).toArray } := by rw [hs3]
  have lo : ∀ b ∈ fp, b < s2.heap.objs.size := fun b hb => Heap.lt_size (T.obj _ _ st2 b hb).choose_spec.1
  have f3 : ∀ b ∈ fp, FpOk X pins (upd H2 dl (.lst [])) b ∧ b < s3.heap.objs.size := fun b hb => by
    have := lo b hb
    exact ⟨⟨by rw [upd_ne (by rw [hdl]; exact Nat.ne_of_lt this)]; exact (f2 b hb).1, (f2 b hb).2⟩, by rw [k3, Heap.size_push]; exact Nat.lt_succ_of_lt this⟩
  have st3 : tn 0 s3.heap := T.keep _ _ _ st2 fun b _ o e => k3 ▸ Heap.get?_push_of_some _ e
  obtain ⟨H3, hH3⟩ : ∃ H3, H3 = upd H2 dl (.lst []) := ⟨_, rfl⟩
  rw [← hH3] at I3 f3 w0
  obtain ⟨cl, hcl⟩ : ∃ cl, cl = cellsFrom (s3.heap.objs.size + 1) scope.names (cloFrom X.env.cells scope.names []) := ⟨_, rfl⟩
  have I4 := block_start I3 bo nd f3
  have pg := hg s3 H3 s3.heap.objs.size cl fp
  have pe := he s3 H3 s3.heap.objs.size cl fp
  rw [← hs3]
  show codeAny _ _ (.compStart (.ListComp elt [⟨tg, iter, [], 0⟩] scope pos) 0 (.ref jt) (.ref dl) (compEnvC scope (cellsFrom (s3.heap.objs.size + 1) scope.names (cloFrom X.env.cells scope.names [])) s3.heap.objs.size X.env)) (compPost (model X.prog X.w) X.A X.xe use Qf (.ref dl) s3.heap.objs.size) { s3 with heap := pushCells (s3.heap.push { cls := .type "dict", data := .dict #[] }) scope.names }
  rw [← hcl] at I4 ⊢
  obtain ⟨ce, hce⟩ : ∃ ce, ce = compEnvC scope cl s3.heap.objs.size X.env := ⟨_, rfl⟩
  have hceL : ce.locals = s3.heap.objs.size := by rw [hce]; rfl
  rw [← hce] at I4 pg pe ⊢
  obtain ⟨s4, hs4⟩ : ∃ s4 : Shared, s4 = { s3 with heap := pushCells (s3.heap.push { cls := .type "dict", data := .dict #[] }) scope.names } := ⟨_, rfl⟩
  have k4 : ∀ b o, s3.heap.get? b = some o → s4.heap.get? b = some o := fun b o e => by rw [hs4]; exact pushCells_keeps _ _ _ _ (Heap.get?_push_of_some _ e)
  rw [← hs4] at I4 ⊢
  -- the exception in hand is a pin of the block's
  obtain ⟨u1, u2, u3, u4, u5⟩ := I3.pin hp (List.mem_append_left _ hmem)
  have I4p : Inv (X.blk s3 H3 scope ce fp) [hp] (wipe σ (own.map (·.2))) H3 s4 := I4.pins_of fun p hpp => by
    obtain rfl := List.mem_singleton.mp hpp
    refine ⟨k4 _ _ u1, u2, ?_, fun z => ?_, u5⟩
    · show p.1 ≠ ce.locals
      rw [hceL]
      exact Nat.ne_of_lt (Heap.lt_size u1)
    · rcases List.mem_cons.mp (I3.stkSub _ z) with y | y
      · exact u3 y
      · exact u4 y
  have st4 : tn 0 s4.heap := T.keep _ _ _ st3 fun b _ o e => k4 b o e
  have still : ∀ {σ' : L2.St} {H' : Hp} {s' : Shared}, Inv (X.blk s3 H3 scope ce fp) [hp] σ' H' s' → (∀ b ∈ fp, H' b = none) → ∀ b ∈ fp, FpOk (X.blk s3 H3 scope ce fp) [hp] H' b := fun {σ' H' s'} J' hn b hb => by
    refine ⟨hn b hb, (J'.ok.exf b hb).1, J'.ok.exfs b hb, .inl hb, fun x c e => (J'.ok.exf b hb).2 x c e, fun p hpp => ?_⟩
    obtain rfl := List.mem_singleton.mp (show p ∈ [hp] from hpp)
    exact (f3 b hb).1.2.2.2.2.2 p (List.mem_append_left _ hmem)
  have loop : codeAny (model X.prog X.w) X.A (.compLoop (.ListComp elt [⟨tg, iter, [], 0⟩] scope pos) 0 (.ref jt) (.ref dl) ce) (compPost (model X.prog X.w) X.A X.xe use Qf (.ref dl) s3.heap.objs.size) s4 := by
    refine compLoop_any (fun n t => ∃ i Hn, Inv (X.blk s3 H3 scope ce fp) [hp] (wipe σ (own.map (·.2))) Hn t ∧ tn i t.heap ∧ (∀ b ∈ fp, Hn b = none) ∧ W i n Hn) ?_ m0 ⟨0, H3, I4p, st4, fun b hb => (f3 b hb).1.1, w0⟩
    rintro n s5 ⟨i, H5, I5, st5, n5, w5⟩
    have hotB : L2H.HotC (pin1 (X.blk s3 H3 scope ce fp) hp) := ⟨hp, hh1, List.mem_cons_self⟩
    have I5h := inv_hot I5 rfl
    have still5 : ∀ b ∈ fp, FpOk (pin1 (X.blk s3 H3 scope ce fp) hp) [] H5 b := fun b hb => still I5 n5 b hb
    rcases turn i n H5 w5 with ⟨stop, qq⟩ | ⟨go, Nx, hNx, step⟩
    · refine thnF (T.done (pin1 (X.blk s3 H3 scope ce fp) hp) rfl rfl rfl hotB i [] s5 _ H5 (fun _ _ => False) I5h still5 st5 stop) fun r s6 ⟨hr, I6⟩ => ?_
      subst hr
      have I7 : Inv X pins σ H5 s6 := I3.call' (ch := fp) I6.os I6.base I6.hok I6.bare fun b hb => ⟨(f3 b hb).1.2.2.2.1, (f3 b hb).1.2.1, (f3 b hb).1.2.2.2.2.1, (f3 b hb).1.2.2.2.2.2⟩
      have nC : H5 s3.heap.objs.size = none := by rw [← hceL]; exact I6.free
      obtain ⟨mm, hn, _⟩ := I6.loc
      have hn : s6.heap.Ns ce.locals mm := hn
      rw [hceL] at hn
      exact fin dl s3.heap.objs.size s6 mm H5 I7 qq hn (I3.fpOk (Nat.le_refl _) nC)
    · refine thnF (T.item (pin1 (X.blk s3 H3 scope ce fp) hp) rfl rfl rfl hotB i [] s5 _ H5 (fun _ _ => False) I5h still5 st5 go) fun r s6 ⟨u, hr, h6⟩ => ?_
      subst hr
      refine thnF h6 fun _ s7 ⟨x, H7, I7, r7, y7, st7, n7⟩ => ?_
      have I7b : Inv (X.blk s3 H3 scope ce fp) [hp] (wipe σ (own.map (·.2))) H7 s7 := by
        obtain ⟨k, o2, o3, o4, o5, o6, o7, o8, o9, oa, ob⟩ := I7
        exact ⟨I5.ok, o2, o3, o4, o5, o6, o7, o8, fun q hq => o9 q hq, oa, ob⟩
      refine thnF (pg.run _ s7 _ H7 x u _ (I7b.pinned (still I7b n7) (T.obj _ _ st7)) r7 (step x H7 y7)) fun _ s8 ⟨σ8, H8, I8, hw8, q8⟩ => ?_
      refine thnF ((pts_nil (X := X.blk s3 H3 scope ce fp)).run _ s8 σ8 H8 _ I8 q8) fun b s9 ⟨H9, I9, q9⟩ => ?_
      have done : ∀ {t : Shared} {Ht : Hp}, Inv (X.blk s3 H3 scope ce fp) ([hp] ++ pinsAt fp s7.heap) σ8 Ht t → Nx Ht → ∃ m, m < n ∧ ∃ i Hn, Inv (X.blk s3 H3 scope ce fp) [hp] (wipe σ (own.map (·.2))) Hn t ∧ tn i t.heap ∧ (∀ b ∈ fp, Hn b = none) ∧ W i m Hn := fun {t Ht} It nx => by
        obtain ⟨m', hm, w'⟩ := hNx Ht nx
        have pk : ∀ b ∈ fp, ∀ o, s7.heap.get? b = some o → t.heap.get? b = some o ∧ Ht b = none := fun b hb o e => ⟨(It.pin (b, o) (List.mem_append_right _ (List.mem_append_right _ (mem_pinsAt hb e)))).1, (It.pin (b, o) (List.mem_append_right _ (List.mem_append_right _ (mem_pinsAt hb e)))).2.1⟩
        refine ⟨m', hm, i + 1, Ht, (It.unpinned (pins := [hp])).weak (by rw [← hw8, wipe_length]) (fun j v e => ?_), T.keep _ _ _ st7 fun b hb o e => (pk b hb o e).1, fun b hb => ?_, w'⟩
        · rw [← hw8] at e
          exact (wipe_some e).1
        · obtain ⟨o, e, _⟩ := T.obj _ _ st7 b hb
          exact (pk b hb o e).2
      cases b with
      | false =>
        rw [if_neg (by decide)] at q9 ⊢
        exact done I9 q9
      | true =>
        rw [if_pos rfl] at q9 ⊢
        refine thnF (pe.run _ s9 σ8 H9 _ I9 q9) fun z s10 ⟨yv, H10, I10, r10, acc, hD10, hz10, nx⟩ => ?_
        exact app_ok (X := X.blk s3 H3 scope ce fp) I10 hD10 hz10 r10 fun s11 I11 => done I11 nx
  exact codeAny_compStart_list loop (T.self X.A 0 _ _ _ st4 loop)
/-- a list comprehension in a suite -/
theorem pe_lcH {elt tg iter : Expr} {scope : Scope} {own : List (Str × Nat)} {pos : Pos} {wi : TI} {g : TG} {te : TE} (hot : L2H.HotC X) (nd : X.N.Nodup) (hi : L2H.PIH X tg iter wi) (bo : BlkOk X.N X.env.scope scope own)
    (hg : ∀ (a : Shared) (b : Hp) (c : Addr) (d : List (Str × Addr)) (e : List Addr), PG (X.blk a b scope (compEnvC scope d c X.env) e) tg g)
    (he : ∀ (a : Shared) (b : Hp) (c : Addr) (d : List (Str × Addr)) (e : List Addr), PE (X.blk a b scope (compEnvC scope d c X.env) e) elt te)
    (hs : ∀ x, foldedSetIterable iter X.env x = pure x := by intro _; rfl) : PE X (.ListComp elt [⟨tg, iter, [], 0⟩] scope pos) (tLc wi g tYes te (own.map (·.2))) := ⟨fun pins s σ H Q I h => by
  rw [eval_ListComp]
  refine lcH_core hot nd I hi bo hg he hs h fun D C t m Ht It q hn f => ⟨m, hn, fun h2 sb => ?_⟩
  obtain ⟨c0, c1, c2, c3, c4, c5⟩ := f
  exact ⟨.ref D, Ht, It.turned (t' := t.toks) (fun b o hb e => (sb.2 b hb).trans e) c0 c1 c3 c4 c5, rfl, q⟩⟩
end
end Pu
set_option maxRecDepth 100000
set_option maxHeartbeats 2000000
namespace Pu
open PySem PySem.Spec PyProof.Rows L2
/-! ### sum of a list while an exception is handled -/
section
variable {prog : Program} {w : World} {A : Around} {E : Value → Shared → Prop} {s : Shared} {x1 l : Addr} {o1 : Obj} {vs1 : Array Value}
theorem walk_hot (hh : A.handled = some (.ref x1)) (d1 : o1.data = .fields vs1) (c1 : vs1[2]? = some .none) (I : Addr) (hne : l ≠ I) (hnx : x1 ≠ I) (items : Array Value) :
    Walks prog w A I [I, l, x1] [I] items.size (fun i v => items[i]? = some v) (fun i h => h.IsListIter I l i ∧ h.IsList l items ∧ h.get? x1 = some o1) where
  sub := fun b hb => by rw [List.mem_singleton.mp hb]; exact List.mem_cons_self
  frame := fun _ _ _ ⟨a, b, c⟩ hk => ⟨a.at fun o e => hk I (by simp) o e, b.at fun o e => hk l (by simp) o e, hk x1 (by simp) _ c⟩
  item := fun i s Q E hi ⟨a, b, c⟩ hQ => wpAny_pyNext_list_item a b (x := items[i]) (Array.getElem?_eq_getElem hi) fun h' a' sb =>
    hQ _ h' s.toks (Array.getElem?_eq_getElem hi) ⟨a', b.extBut sb.extBut hne, sb.extBut _ _ hnx c⟩ fun b o hb e => sb.extBut b o (fun z => hb (List.mem_singleton.mpr z)) e
  done := fun s Q E ⟨a, b, c⟩ hQ => list_end_hot ⟨hh, o1, vs1, c, d1, c1⟩ hnx a b (Array.getElem?_eq_none (Nat.le_refl _)) fun h' eb => hQ h' s.toks fun b o hb e => eb b o (fun z => hb (List.mem_singleton.mpr z)) e
  self := fun _ _ _ _ ⟨a, _, _⟩ hQ => wpAny_pyIter_listiter a hQ
theorem sum_hot {its : List Value} {ns : List Int} {Q : Value → Shared → Prop} (hh : A.handled = some (.ref x1)) (h1 : s.heap.get? x1 = some o1) (d1 : o1.data = .fields vs1) (c1 : vs1[2]? = some .none) (hl : s.heap.IsList l its.toArray) (hi : IntsAre its ns)
    (h : ∀ h' tk t', (∀ b o, s.heap.get? b = some o → h'.get? b = some o) → Q (.int ns.sum t') { s with heap := h', toks := tk }) : wpAny (model prog w) A (call (.builtin "sum") [.ref l]) Q E s := by
  obtain ⟨xs, e⟩ := hi.allInts.items
  have hn : numsOf (intItems xs).toList = ns := e ▸ hi.numsOf
  rw [nums_intItems] at hn
  rw [e] at hl
  have hlt : l < s.heap.objs.size := by
    obtain ⟨o, ho, _⟩ := id hl
    exact Heap.lt_size ho
  have hx := Heap.lt_size h1
  refine call_sum_walkG (wpAny_pyIter_list hl ?_)
  refine ⟨s.heap.objs.size, [s.heap.objs.size, l, x1], [s.heap.objs.size], (intItems xs).size, _, _, PySem.numAt xs, rfl, walk_hot (A := A.in1) (o1 := o1) hh d1 c1 _ (Nat.ne_of_lt hlt) (Nat.ne_of_lt hx) (intItems xs), ⟨⟨_, Heap.get?_push_size _ rfl, rfl, rfl⟩, ?_, Heap.get?_push_of_some _ h1⟩, fun b hb => ?_, (fun _ _ => intItems_at), fun h' tk t' hk => ?_⟩
  · exact hl.at fun o e => Heap.get?_push_of_some _ e
  · show b < (s.heap.push _).objs.size
    rw [Heap.size_push]
    simp only [List.mem_cons, List.not_mem_nil, or_false] at hb
    rcases hb with rfl | rfl | rfl
    · exact Nat.lt_succ_self _
    · exact Nat.lt_succ_of_lt hlt
    · exact Nat.lt_succ_of_lt hx
  · have q := h h' tk t' fun b o e => hk b o (fun z => by
      rw [List.mem_singleton.mp z] at e
      exact absurd (Heap.lt_size e) (Nat.lt_irrefl _)) (Heap.get?_push_of_some _ e)
    rw [preSum_eq, List.take_of_length_le (by simp [intItems]), hn]
    exact q
end
section
variable {X : Cx} {K : Frag}
theorem c_sumH (hot : L2H.HotC X) (hK : X.K = K := by rfl) : CallR X (.builtin "sum") (rSum K) := by
  subst hK
  intro pins s σ H vs us Q I r h
  obtain ⟨p, ⟨hh, v1, e1, c1⟩, hp⟩ := hot
  obtain ⟨a, ns, rfl, hs, q⟩ := h
  obtain ⟨its, rv, hl, _⟩ := I.list hs
  rw [Vals.ref1 r]
  exact sum_hot hh (I.pin p (List.mem_append_left _ hp)).1 e1 c1 hl.isList rv.ints fun h' tk t' hk => ⟨.int _, H, I.kept hk, ⟨t', rfl⟩, q⟩
end
section
variable {K : Frag} {ρ : En} {ta : TE}
theorem v_sumH {ns : List Int} (ha : EvL K ta ρ (ns.map PyData.int)) : Ev K (tCB (rSum K) (tCons ta tNil)) ρ (.int ns.sum) := fun R0 H0 R σ H a Q q => ha R0 H0 R σ H a _ fun p vs R1 H1 g1 sq dx => by
  obtain rfl := dpa_ints dx
  exact ⟨p, ns, rfl, sq, q _ R1 H1 g1 (.int _)⟩
end
end Pu
local macro_rules | `(tactic| walk_at "kit") => `(tactic| first | exact Pu.kit_int_int | exact Pu.kit_int_bool | exact Pu.kit_int_tuple | exact Pu.kit_int_list | exact Pu.kit_int_str | exact Pu.kit_bool_int | exact Pu.kit_bool_bool | exact Pu.kit_bool_tuple | exact Pu.kit_bool_list | exact Pu.kit_bool_str | exact Pu.kit_tuple_int | exact Pu.kit_tuple_bool | exact Pu.kit_tuple_tuple | exact Pu.kit_tuple_list | exact Pu.kit_tuple_str | exact Pu.kit_list_int | exact Pu.kit_list_bool | exact Pu.kit_list_tuple | exact Pu.kit_list_list | exact Pu.kit_list_str | exact Pu.kit_str_int | exact Pu.kit_str_bool | exact Pu.kit_str_tuple | exact Pu.kit_str_list | exact Pu.kit_str_str | exact Pu.kit_NoneType_int | exact Pu.kit_NoneType_bool | exact Pu.kit_NoneType_tuple | exact Pu.kit_NoneType_list | exact Pu.kit_NoneType_str)
local macro_rules | `(tactic| walk_at "side") => `(tactic| first
  | assumption
  | omega
  | decide
  | rfl
  | (unfold Pu.CMulB; decide +kernel)
  | (unfold Pu.CPowW; decide +kernel))
local macro_rules | `(tactic| walk_at "wl") => `(tactic| first
  | (with_reducible apply Pu.w_list; walk_at "ev")
  | (with_reducible apply Pu.w_tup; walk_at "ev"))
local macro_rules | `(tactic| walk_at "es") => `(tactic| first
  | walk_at "ev"
  | (intro hx; walk_at "ev")
  | walk_at "side")
local macro_rules | `(tactic| walk_at "ev") => `(tactic| first
  | with_reducible exact Pu.ev_int
  | exact Pu.ev_var rfl
  | with_reducible exact Pu.ev_bl
  | with_reducible exact Pu.ev_non
  | with_reducible exact Pu.ev_str
  | exact Pu.evl_own rfl
  | with_reducible exact Pu.o_none
  | ((with_reducible apply Pu.o_some) <;> walk_at "ev")
  | ((with_reducible apply Pu.a_add) <;> walk_at "ev")
  | ((with_reducible apply Pu.v_sub) <;> walk_at "ev")
  | ((with_reducible apply Pu.v_mul) <;> walk_at "es")
  | ((with_reducible apply Pu.v_emod) <;> walk_at "es")
  | ((with_reducible apply Pu.v_div) <;> walk_at "es")
  | ((with_reducible apply Pu.v_fdiv) <;> walk_at "es")
  | ((with_reducible apply Pu.v_divA) <;> walk_at "es")
  | ((with_reducible apply Pu.v_fdivA) <;> walk_at "es")
  | ((with_reducible apply Pu.v_pow) <;> walk_at "es")
  | ((with_reducible apply Pu.v_neg) <;> walk_at "ev")
  | ((with_reducible apply Pu.v_lt) <;> walk_at "ev")
  | ((with_reducible apply Pu.v_le) <;> walk_at "ev")
  | ((with_reducible apply Pu.v_gt) <;> walk_at "ev")
  | ((with_reducible apply Pu.v_ge) <;> walk_at "ev")
  | ((with_reducible apply Pu.ev_eqD) <;> walk_at "es")
  | ((with_reducible apply Pu.ev_neD) <;> walk_at "es")
  | ((with_reducible apply Pu.v_isN) <;> walk_at "ev")
  | ((with_reducible apply Pu.v_notN) <;> walk_at "ev")
  | ((with_reducible apply Pu.ev_ixST) <;> walk_at "es")
  | ((with_reducible apply Pu.ev_ixSL) <;> walk_at "es")
  | ((with_reducible apply Pu.v_abs) <;> walk_at "ev")
  | ((with_reducible apply Pu.a_inI) <;> walk_at "ev")
  | ((with_reducible apply Pu.a_niI) <;> walk_at "ev")
  | ((with_reducible apply Pu.v_max2) <;> walk_at "ev")
  | ((with_reducible apply Pu.v_min2) <;> walk_at "ev")
  | ((with_reducible apply Pu.a_lenL) <;> walk_at "ev")
  | ((with_reducible apply Pu.a_lenT) <;> walk_at "ev")
  | ((with_reducible apply Pu.v_isi (b := true)) <;> first | walk_at "ev" | walk_at "kit")
  | ((with_reducible apply Pu.v_isi (b := false)) <;> first | walk_at "ev" | walk_at "kit")
  | with_reducible exact Pu.ev_fr0
  | with_reducible exact Pu.ev_fr1
  | ((with_reducible apply Pu.ev_tup) <;> first | walk_at "ev" | exact Nat.le_of_ble_eq_true rfl)
  | with_reducible exact Pu.ea_nil
  | ((with_reducible apply Pu.ea_cons) <;> walk_at "ev")
  | ((with_reducible apply Pu.et_test) <;> walk_at "ev")
  | ((with_reducible apply Pu.et_B) <;> walk_at "ev")
  | ((with_reducible apply Pu.et_not) <;> walk_at "ev")
  | ((with_reducible apply Pu.et_and) <;> walk_at "es")
  | ((with_reducible apply Pu.et_or) <;> walk_at "es")
  | ((with_reducible apply Pu.ev_andV) <;> walk_at "es")
  | ((with_reducible apply Pu.ev_orV) <;> walk_at "es")
  | ((with_reducible apply Pu.ev_notV) <;> walk_at "ev")
  | ((with_reducible apply Pu.ev_call) <;> first | walk_at "ev" | walk_at "cc")
  | (with_reducible apply Pu.EvF.l; walk_at "ef")
  | (with_reducible apply Pu.Ev.l; walk_at "ev")
  | ((with_reducible apply Pu.v_tupleL) <;> walk_at "ev")
  | ((with_reducible apply Pu.v_tupleT) <;> walk_at "ev")
  | ((with_reducible apply Pu.a_catT) <;> walk_at "es")
  | (with_reducible apply Pu.EvF.v; walk_at "ef"))
local macro_rules | `(tactic| walk_at "ef") => `(tactic| first
  | ((with_reducible apply Pu.evf_lst) <;> first | walk_at "ev" | exact Nat.le_of_ble_eq_true rfl)
  | ((with_reducible apply Pu.evf_call) <;> first | walk_at "ev" | walk_at "cc")
  | ((with_reducible apply Pu.a_slL) <;> walk_at "es")
  | ((with_reducible apply Pu.f_listL) <;> walk_at "ev")
  | ((with_reducible apply Pu.f_listT) <;> walk_at "ev")
  | ((with_reducible apply Pu.a_cat) <;> first | walk_at "em" | walk_at "side"))
local macro_rules | `(tactic| walk_at "em") => `(tactic| first
  | exact Pu.evm_own rfl
  | (with_reducible apply Pu.EvF.m; walk_at "ef"))
local macro_rules | `(tactic| walk_at "cc") => `(tactic| first
  | assumption
  | exact Pu.cell_v (by omega)
  | exact Pu.whole_v
  | exact Pu.gcd_v (by omega) (by omega)
  | exact Pu.plus_v (by assumption) (by assumption) (by omega)
  | exact Pu.minus_v (by assumption) (by assumption) (by omega)
  | exact Pu.times_v (by assumption) (by assumption) (by omega)
  | exact Pu.less_v (by assumption) (by assumption) (by omega)
  | exact Pu.floor_v (by assumption) (by omega)
  | exact Pu.gap_v (by assumption) (by assumption) (by omega)
  | exact Pu.slope_v (by assumption) (by assumption) (by omega)
  | exact Pu.straight_v (by assumption) (by assumption) (by assumption) (by omega)
  | exact Pu.length_v (by assumption)
  | exact Pu.height_v (by assumption)
  | exact Pu.total_v (by assumption) (by assumption) (by omega))
namespace Law
open PySem PySem.Spec PyProof.Rows L2 Pu
def topS (i : Nat) : Stmt := PySem.Challenge.pw_catchhall_k13_what_is_looked_at.main.body.getD i (.Pass ⟨0, 0, 0, 0⟩)
abbrev s__law_cell_at : Stmt := topS 37
abbrev s__law_fraction : Stmt := topS 38
abbrev s__law_way : Stmt := topS 39
abbrev s__law_claims : Stmt := topS 40
abbrev s__law_weights : Stmt := topS 41
abbrev s__law_due : Stmt := topS 42
abbrev s_weights_fit : Stmt := topS 25
abbrev s_looked : Stmt := topS 26
abbrev s_common_divisor : Stmt := topS 14
abbrev s_made : Stmt := topS 15
abbrev s_less : Stmt := topS 19
abbrev s_minus : Stmt := topS 17
abbrev s_times : Stmt := topS 18
abbrev s_by_fullness : Stmt := topS 27
abbrev s_even_dealt : Stmt := topS 28
abbrev s_lacking : Stmt := topS 29
abbrev s_row_dealt : Stmt := topS 30
abbrev s_part_dealt : Stmt := topS 31
abbrev s_plus : Stmt := topS 16
abbrev s_half_dealt : Stmt := topS 32
abbrev s_dealt_by : Stmt := topS 33
abbrev s_dealt : Stmt := topS 34
abbrev s_contrary_way : Stmt := topS 35
abbrev s__law_refusal : Stmt := topS 43
abbrev s_law : Stmt := topS 44
structure Ad where
  _law_cell_at : Addr
  _law_fraction : Addr
  _law_way : Addr
  _law_claims : Addr
  _law_weights : Addr
  _law_due : Addr
  weights_fit : Addr
  looked : Addr
  common_divisor : Addr
  made : Addr
  less : Addr
  minus : Addr
  times : Addr
  by_fullness : Addr
  even_dealt : Addr
  lacking : Addr
  row_dealt : Addr
  part_dealt : Addr
  plus : Addr
  half_dealt : Addr
  dealt_by : Addr
  dealt : Addr
  contrary_way : Addr
  _law_refusal : Addr
  law : Addr
  CatchError : Addr
  NoFraction : Addr
  BadLine : Addr
  Outside : Addr
  Unlike : Addr
  BadWay : Addr
  BadWeights : Addr
  BadClaim : Addr
  TooMany : Addr
  NoBoat : Addr
  BadCatch : Addr
  NoText : Addr
  k_NOUGHT : Addr
  k_WAYS : Addr
  k_WEIGHED : Addr
structure ClsTxt (K : Frag) (mg : Str → Option Value) (x : Str) (C : Addr) : Prop where
  g : mg x = some (.ref C)
  x : PySem.W.excIn K C [.type "ValueError", .type "Exception", .type "BaseException", .type "object"] "ValueError.__new__" = true
  k : PySem.W.keepIn K (.ref C) = true
  b : PySem.W.subIn K (.ref C) (.type "BaseException") = some true
  t : PySem.W.typeIn K (.ref C) = some (.type "type")
  e : ExcC K C
section
variable {P : Program} {w : World} {K : Frag} {mg : Str → Option Value} {base : Heap} {A : Ad}
structure Txt (K : Frag) (mg : Str → Option Value) (A : Ad) : Prop where
  f__law_cell_at : FnAt K mg "_law_cell_at" s__law_cell_at ["script", "k"] A._law_cell_at
  f__law_fraction : FnAt K mg "_law_fraction" s__law_fraction ["top", "bottom"] A._law_fraction
  f__law_way : FnAt K mg "_law_way" s__law_way ["cell"] A._law_way
  f__law_claims : FnAt K mg "_law_claims" s__law_claims ["script", "cell"] A._law_claims
  f__law_weights : FnAt K mg "_law_weights" s__law_weights ["script", "cell", "way", "many"] A._law_weights
  f__law_due : FnAt K mg "_law_due" s__law_due ["way", "weights", "claims"] A._law_due
  f_weights_fit : FnAt K mg "weights_fit" s_weights_fit ["way", "weights", "many"] A.weights_fit
  f_looked : FnAt K mg "looked" s_looked ["way", "weights", "claims"] A.looked
  f_common_divisor : FnAt K mg "common_divisor" s_common_divisor ["one", "other"] A.common_divisor
  f_made : FnAt K mg "made" s_made ["top", "bottom"] A.made
  f_less : FnAt K mg "less" s_less ["one", "two"] A.less
  f_minus : FnAt K mg "minus" s_minus ["one", "two"] A.minus
  f_times : FnAt K mg "times" s_times ["one", "two"] A.times
  f_by_fullness : FnAt K mg "by_fullness" s_by_fullness ["weights", "claims"] A.by_fullness
  f_even_dealt : FnAt K mg "even_dealt" s_even_dealt ["weights", "claims", "catch"] A.even_dealt
  f_lacking : FnAt K mg "lacking" s_lacking ["claims", "shares"] A.lacking
  f_row_dealt : FnAt K mg "row_dealt" s_row_dealt ["claims", "catch"] A.row_dealt
  f_part_dealt : FnAt K mg "part_dealt" s_part_dealt ["claims", "catch"] A.part_dealt
  f_plus : FnAt K mg "plus" s_plus ["one", "two"] A.plus
  f_half_dealt : FnAt K mg "half_dealt" s_half_dealt ["claims", "catch"] A.half_dealt
  f_dealt_by : FnAt K mg "dealt_by" s_dealt_by ["way", "weights", "claims", "catch"] A.dealt_by
  f_dealt : FnAt K mg "dealt" s_dealt ["way", "weights", "claims", "catch"] A.dealt
  f_contrary_way : FnAt K mg "contrary_way" s_contrary_way ["way"] A.contrary_way
  f__law_refusal : FnAt K mg "_law_refusal" s__law_refusal ["ask", "way", "weights", "claims", "catch"] A._law_refusal
  f_law : FnAt K mg "law" s_law ["script"] A.law
  c_CatchError : ClsTxt K mg "CatchError" A.CatchError
  c_NoFraction : ClsTxt K mg "NoFraction" A.NoFraction
  c_BadLine : ClsTxt K mg "BadLine" A.BadLine
  c_Outside : ClsTxt K mg "Outside" A.Outside
  c_Unlike : ClsTxt K mg "Unlike" A.Unlike
  c_BadWay : ClsTxt K mg "BadWay" A.BadWay
  c_BadWeights : ClsTxt K mg "BadWeights" A.BadWeights
  c_BadClaim : ClsTxt K mg "BadClaim" A.BadClaim
  c_TooMany : ClsTxt K mg "TooMany" A.TooMany
  c_NoBoat : ClsTxt K mg "NoBoat" A.NoBoat
  c_BadCatch : ClsTxt K mg "BadCatch" A.BadCatch
  c_NoText : ClsTxt K mg "NoText" A.NoText
  h_BadWay_CatchError : PySem.W.exmOne K (.ref A.BadWay) (.ref A.CatchError) = some true
  h_BadClaim_CatchError : PySem.W.exmOne K (.ref A.BadClaim) (.ref A.CatchError) = some true
  h_BadWeights_CatchError : PySem.W.exmOne K (.ref A.BadWeights) (.ref A.CatchError) = some true
  h_Outside_CatchError : PySem.W.exmOne K (.ref A.Outside) (.ref A.CatchError) = some true
  y_BadWay_BadWay : PySem.W.kitOne K (.ref A.BadWay) (.ref A.BadWay) = some true
  n_BadWay_BadClaim : PySem.W.kitOne K (.ref A.BadWay) (.ref A.BadClaim) = some false
  n_BadWay_BadWeights : PySem.W.kitOne K (.ref A.BadWay) (.ref A.BadWeights) = some false
  n_BadWay_Outside : PySem.W.kitOne K (.ref A.BadWay) (.ref A.Outside) = some false
  n_BadClaim_BadWay : PySem.W.kitOne K (.ref A.BadClaim) (.ref A.BadWay) = some false
  y_BadClaim_BadClaim : PySem.W.kitOne K (.ref A.BadClaim) (.ref A.BadClaim) = some true
  n_BadClaim_BadWeights : PySem.W.kitOne K (.ref A.BadClaim) (.ref A.BadWeights) = some false
  n_BadClaim_Outside : PySem.W.kitOne K (.ref A.BadClaim) (.ref A.Outside) = some false
  n_BadWeights_BadWay : PySem.W.kitOne K (.ref A.BadWeights) (.ref A.BadWay) = some false
  n_BadWeights_BadClaim : PySem.W.kitOne K (.ref A.BadWeights) (.ref A.BadClaim) = some false
  y_BadWeights_BadWeights : PySem.W.kitOne K (.ref A.BadWeights) (.ref A.BadWeights) = some true
  n_BadWeights_Outside : PySem.W.kitOne K (.ref A.BadWeights) (.ref A.Outside) = some false
  n_Outside_BadWay : PySem.W.kitOne K (.ref A.Outside) (.ref A.BadWay) = some false
  n_Outside_BadClaim : PySem.W.kitOne K (.ref A.Outside) (.ref A.BadClaim) = some false
  n_Outside_BadWeights : PySem.W.kitOne K (.ref A.Outside) (.ref A.BadWeights) = some false
  y_Outside_Outside : PySem.W.kitOne K (.ref A.Outside) (.ref A.Outside) = some true
  y_BadWay_ValueError : PySem.W.kitOne K (.ref A.BadWay) (.type "ValueError") = some true
  y_BadClaim_ValueError : PySem.W.kitOne K (.ref A.BadClaim) (.type "ValueError") = some true
  y_BadWeights_ValueError : PySem.W.kitOne K (.ref A.BadWeights) (.type "ValueError") = some true
  y_Outside_ValueError : PySem.W.kitOne K (.ref A.Outside) (.type "ValueError") = some true
  n_BadWay_BadCatch : PySem.W.kitOne K (.ref A.BadWay) (.ref A.BadCatch) = some false
  n_BadWay_BadLine : PySem.W.kitOne K (.ref A.BadWay) (.ref A.BadLine) = some false
  n_BadWay_NoBoat : PySem.W.kitOne K (.ref A.BadWay) (.ref A.NoBoat) = some false
  n_BadWay_NoFraction : PySem.W.kitOne K (.ref A.BadWay) (.ref A.NoFraction) = some false
  n_BadWay_NoText : PySem.W.kitOne K (.ref A.BadWay) (.ref A.NoText) = some false
  n_BadWay_TooMany : PySem.W.kitOne K (.ref A.BadWay) (.ref A.TooMany) = some false
  n_BadWay_Unlike : PySem.W.kitOne K (.ref A.BadWay) (.ref A.Unlike) = some false
  n_BadClaim_BadCatch : PySem.W.kitOne K (.ref A.BadClaim) (.ref A.BadCatch) = some false
  n_BadClaim_BadLine : PySem.W.kitOne K (.ref A.BadClaim) (.ref A.BadLine) = some false
  n_BadClaim_NoBoat : PySem.W.kitOne K (.ref A.BadClaim) (.ref A.NoBoat) = some false
  n_BadClaim_NoFraction : PySem.W.kitOne K (.ref A.BadClaim) (.ref A.NoFraction) = some false
  n_BadClaim_NoText : PySem.W.kitOne K (.ref A.BadClaim) (.ref A.NoText) = some false
  n_BadClaim_TooMany : PySem.W.kitOne K (.ref A.BadClaim) (.ref A.TooMany) = some false
  n_BadClaim_Unlike : PySem.W.kitOne K (.ref A.BadClaim) (.ref A.Unlike) = some false
  n_BadWeights_BadCatch : PySem.W.kitOne K (.ref A.BadWeights) (.ref A.BadCatch) = some false
  n_BadWeights_BadLine : PySem.W.kitOne K (.ref A.BadWeights) (.ref A.BadLine) = some false
  n_BadWeights_NoBoat : PySem.W.kitOne K (.ref A.BadWeights) (.ref A.NoBoat) = some false
  n_BadWeights_NoFraction : PySem.W.kitOne K (.ref A.BadWeights) (.ref A.NoFraction) = some false
  n_BadWeights_NoText : PySem.W.kitOne K (.ref A.BadWeights) (.ref A.NoText) = some false
  n_BadWeights_TooMany : PySem.W.kitOne K (.ref A.BadWeights) (.ref A.TooMany) = some false
  n_BadWeights_Unlike : PySem.W.kitOne K (.ref A.BadWeights) (.ref A.Unlike) = some false
  n_Outside_BadCatch : PySem.W.kitOne K (.ref A.Outside) (.ref A.BadCatch) = some false
  n_Outside_BadLine : PySem.W.kitOne K (.ref A.Outside) (.ref A.BadLine) = some false
  n_Outside_NoBoat : PySem.W.kitOne K (.ref A.Outside) (.ref A.NoBoat) = some false
  n_Outside_NoFraction : PySem.W.kitOne K (.ref A.Outside) (.ref A.NoFraction) = some false
  n_Outside_NoText : PySem.W.kitOne K (.ref A.Outside) (.ref A.NoText) = some false
  n_Outside_TooMany : PySem.W.kitOne K (.ref A.Outside) (.ref A.TooMany) = some false
  n_Outside_Unlike : PySem.W.kitOne K (.ref A.Outside) (.ref A.Unlike) = some false
  m_MOST_WEIGHT : ∃ t, mg "MOST_WEIGHT" = some (.int 1000000 t)
  m_NOUGHT : mg "NOUGHT" = some (.ref A.k_NOUGHT)
  t_NOUGHT : ∃ o, K.lookup A.k_NOUGHT = some o ∧ o.cls = .type "tuple" ∧ o.dict = none
  d_NOUGHT : ∀ H, Dp K H (.ref A.k_NOUGHT) (.tuple [.int 0, .int 1])
  m_WAYS : mg "WAYS" = some (.ref A.k_WAYS)
  t_WAYS : ∃ o, K.lookup A.k_WAYS = some o ∧ o.cls = .type "tuple" ∧ o.dict = none
  d_WAYS : ∀ H, Dp K H (.ref A.k_WAYS) (.tuple [.str "row", .str "back", .str "even", .str "lack", .str "part", .str "half"])
  m_WEIGHED : mg "WEIGHED" = some (.ref A.k_WEIGHED)
  t_WEIGHED : ∃ o, K.lookup A.k_WEIGHED = some o ∧ o.cls = .type "tuple" ∧ o.dict = none
  d_WEIGHED : ∀ H, Dp K H (.ref A.k_WEIGHED) (.tuple [.str "even", .str "lack"])
  z_ValueError : mg "ValueError" = none
  z_abs : mg "abs" = none
  z_enumerate : mg "enumerate" = none
  z_int : mg "int" = none
  z_isinstance : mg "isinstance" = none
  z_len : mg "len" = none
  z_list : mg "list" = none
  z_max : mg "max" = none
  z_min : mg "min" = none
  z_range : mg "range" = none
  z_reversed : mg "reversed" = none
  z_sum : mg "sum" = none
  z_tuple : mg "tuple" = none
  z_zip : mg "zip" = none
theorem sc__law_cell_at : FnScope ["script", "k"] ["script", "k"] (defScope s__law_cell_at) := ⟨rfl, rfl, rfl, by decide +kernel, rfl, by decide +kernel, by decide +kernel⟩
theorem ok__law_cell_at (T : Txt K mg A) (hN : base.NoSeer) (hT : P.given.tree = none)  : OkN P w K mg base 1 "_law_cell_at" ["script", "k"] (spc K cCell) := by
  refine T.f__law_cell_at.okN sc__law_cell_at _ (fun ds k hc => by obtain ⟨_, _, rfl, _⟩ := hc; rfl) (fun cdv A' outer s H vs Q E hr h => ⟨_, (pss_cons (ps_if (pt_cmpR o_lt (pv 1) (pe_callB (c_lenA (K := K)) (by rfl) T.z_len (by decide +kernel) (pa_cons (pv 0) pa_nil)) (nomark _)) (pss_one (ps_ret (pe_ix (i_any (K := K)) (pv 0) (pv 1) (fun _ _ => rfl)))) pss_nil)
  (pss_one (ps_ret pe_int))), body_of h fun ds k hc => ?_⟩)
  obtain ⟨ns, i, rfl, h0, hk⟩ := hc
  show Sd K _ _ _ [.val (.list (ns.map PyData.int)), .val (.int i)] _
  refine sd_seq (sd_ifS (by walk_at "ev") (fun hb => ?_) (fun hb => ?_))
  · have hi : i < (ns.length : Int) := by
      have q := of_decide_eq_true hb
      rw [List.length_map] at q
      exact q
    have hat := atI_ints h0 hi
    exact sd_ret (by walk_at "ev") hk
  · have hi : ¬ i < (ns.length : Int) := by
      have q := of_decide_eq_false hb
      rw [List.length_map] at q
      exact q
    rw [cellAt_out hi] at hk
    exact sd_next (sd_ret (by walk_at "ev") hk)
theorem sc__law_fraction : FnScope ["top", "bottom", "one", "two", "rest"] ["top", "bottom"] (defScope s__law_fraction) := ⟨rfl, rfl, rfl, by decide +kernel, rfl, by decide +kernel, by decide +kernel⟩
theorem ok__law_fraction (T : Txt K mg A) (hN : base.NoSeer) (hT : P.given.tree = none)  : OkN P w K mg base 40 "_law_fraction" ["top", "bottom"] (spc K cLFr) := by
  refine T.f__law_fraction.okN sc__law_fraction _ (fun ds k hc => by obtain ⟨_, _, rfl, _⟩ := hc; rfl) (fun cdv A' outer s H vs Q E hr h => ⟨_, (pss_cons (ps_set (i := 2) sc__law_fraction.nd rfl (by first | exact Or.inl rfl | exact Or.inr rfl) (pe_callB (c_abs) (by rfl) T.z_abs (by decide +kernel) (pa_cons (pv 0) pa_nil)))
  (pss_cons (ps_set (i := 3) sc__law_fraction.nd rfl (by first | exact Or.inl rfl | exact Or.inr rfl) (pv 1))
  (pss_cons (ps_while (passes_of rfl) (pt_cmpR o_gt (pv 3) pe_int (nomark _)) (pss_cons (ps_set (i := 4) sc__law_fraction.nd rfl (by first | exact Or.inl rfl | exact Or.inr rfl) (pe_op o_mod (pv 2) (pv 3)))
  (pss_cons (ps_set (i := 2) sc__law_fraction.nd rfl (by first | exact Or.inl rfl | exact Or.inr rfl) (pv 3))
  (pss_one (ps_set (i := 3) sc__law_fraction.nd rfl (by first | exact Or.inl rfl | exact Or.inr rfl) (pv 4))))))
  (pss_cons (ps_if (pt_cmpR (o_eq (K := K) hr.units) (pv 2) pe_int (nomark _)) (pss_one (ps_ret (pe_tup (pa_cons pe_int (pa_cons pe_int pa_nil))))) pss_nil)
  (pss_one (ps_ret (pe_tup (pa_cons (pe_op (o_fdivA hN hT rfl sc__law_fraction.gen sc__law_fraction.co (hr.mono (by decide))) (pv 0) (pv 2)) (pa_cons (pe_op (o_fdivA hN hT rfl sc__law_fraction.gen sc__law_fraction.co (hr.mono (by decide))) (pv 1) (pv 2)) pa_nil))))))))), body_of h fun ds k hc => ?_⟩)
  obtain ⟨a, b, rfl, hb0, hk⟩ := hc
  show Sd K _ _ _ [.val (.int a), .val (.int b), .un, .un, .un] _
  refine sd_seq (sd_set (by walk_at "ev") ?_)
  refine sd_seq (sd_set (by walk_at "ev") ?_)
  refine sd_seq ?_
  refine sd_while (fun ρ => ∃ (x y : Int) (z : Sl), ρ = [.val (.int a), .val (.int b), .val (.int x), .val (.int y), z] ∧ 0 ≤ y ∧ Int.gcd x y = Int.gcd a b ∧ 0 ≤ x) (fun ρ => match ρ with | [_, _, _, .val (.int y), _] => y.toNat | _ => 0) ⟨_, _, _, rfl, by omega, rfl, by omega⟩ ?_
  rintro ρ ⟨x, y, z, rfl, hy, hg, hx⟩
  refine ⟨_, by walk_at "ev", fun hb => ?_, fun hb' => ?_⟩
  · have hy0 : 0 < y := of_decide_eq_true hb
    refine sd_seq (sd_set (by walk_at "ev") ?_)
    refine sd_seq (sd_set (by walk_at "ev") ?_)
    refine sd_set (by walk_at "ev") ?_
    refine ⟨⟨_, _, _, rfl, Int.emod_nonneg _ (by omega), ?_, hy⟩, ?_⟩
    · rw [← hg]
      exact gcd_step hx hy
    · show (x % y).toNat < y.toNat
      have := Int.emod_lt_of_pos x hy0
      omega
  · have hy0 : ¬ 0 < y := of_decide_eq_false hb'
    have ey : y = 0 := by omega
    subst ey
    have e : (x : Int) = (Int.gcd a b : Int) := by
      rw [← hg, Int.gcd_zero]
      omega
    have hg0 : Int.gcd a b ≠ 0 := gcd_ne (by omega)
    have hx0 : 0 < x := by omega
    refine sd_seq (sd_ifS (b := false) (EvT.is (et_test (ev_eqD (ev_var rfl) ev_int rfl rfl)) (by rw [eqv_int, decide_eq_false (by omega)])) (fun z => nomatch z) (fun _ => sd_next ?_))
    refine sd_ret (d := .tuple [.int (a / x), .int (b / x)]) (by walk_at "ev") ?_
    unfold fr at hk
    rw [divInt_num_pos hb0, divInt_den_pos hb0, ← e] at hk
    exact hk
theorem sc__law_way : FnScope ["cell"] ["cell"] (defScope s__law_way) := ⟨rfl, rfl, rfl, by decide +kernel, rfl, by decide +kernel, by decide +kernel⟩
def L13a : List Str := ["", "Row", "evens", "halve", "back ", " part", "lacks", "none"]
def L13b : List Str := ["row", "back", "even", "lack", "part", "half"]
def way13 (c : Int) : Str := if c % 5 = 4 then L13a.getD (c / 5 % 8).toNat "" else L13b.getD (c / 5 % 6).toNat ""
theorem strs_at {zs : List Str} {i : Int} (h0 : 0 ≤ i) (h1 : i < zs.length) : atI (zs.map PyData.str) i = some (.str (zs.getD i.toNat "")) := by
  obtain ⟨j, rfl⟩ : ∃ j : Nat, i = (j : Int) := ⟨i.toNat, by omega⟩
  refine atI_nat ?_
  rw [List.getElem?_map, List.getElem?_eq_getElem (by omega), Int.toNat_natCast, List.getD_eq_getElem?_getD, List.getElem?_eq_getElem (by omega)]
  rfl
theorem way13_ok (c : Int) : way13 c ∈ L13a ++ L13b := by
  have h : ∀ (zs : List Str) (i : Nat), i < zs.length → zs.getD i "" ∈ zs := fun zs i h => by
    rw [List.getD_eq_getElem?_getD, List.getElem?_eq_getElem h]
    exact List.getElem_mem h
  unfold way13
  split
  · exact List.mem_append_left _ (h _ _ (show (c / 5 % 8).toNat < 8 by omega))
  · exact List.mem_append_right _ (h _ _ (show (c / 5 % 6).toNat < 6 by omega))
theorem way13_shaped {w : Str} (h : w ∈ L13a ++ L13b) : SeqAt.shaped (.str w) = true := by
  have : ∀ w ∈ L13a ++ L13b, SeqAt.shaped (.str w) = true := by decide +kernel
  exact this w h
def cWay : Ct := fun ds k => ∃ c : Int, ds = [.int c] ∧ k.rt (.str (way13 c))
theorem way_v {c : Int} : cWay [.int c] (kv (.str (way13 c))) := ⟨c, rfl, rfl⟩
theorem ok__law_way (T : Txt K mg A) (hN : base.NoSeer) (hT : P.given.tree = none)  : OkN P w K mg base 1 "_law_way" ["cell"] (spc K cWay) := by
  refine T.f__law_way.okN sc__law_way _ (fun ds k hc => by obtain ⟨_, rfl, _⟩ := hc; rfl) (fun cdv A' outer s H vs Q E hr h => ⟨_, (pss_cons (ps_if (pt_cmpR (o_eq (K := K) hr.units) (pe_op o_mod (pv 0) pe_int) pe_int (nomark _)) (pss_one (ps_ret (pe_ix (i_any (K := K)) (pe_lst (pa_cons pe_str (pa_cons pe_str (pa_cons pe_str (pa_cons pe_str (pa_cons pe_str (pa_cons pe_str (pa_cons pe_str (pa_cons pe_str pa_nil))))))))) (pe_op o_mod (pe_op o_fdiv (pv 0) pe_int) pe_int) (fun _ _ => rfl)))) pss_nil)
  (pss_one (ps_ret (pe_ix (i_any (K := K)) (pe_lst (pa_cons pe_str (pa_cons pe_str (pa_cons pe_str (pa_cons pe_str (pa_cons pe_str (pa_cons pe_str pa_nil))))))) (pe_op o_mod (pe_op o_fdiv (pv 0) pe_int) pe_int) (fun _ _ => rfl))))), body_of h fun ds k hc => ?_⟩)
  obtain ⟨c, rfl, hk⟩ := hc
  show Sd K _ _ _ [.val (.int c)] _
  unfold way13 at hk
  refine sd_seq (sd_ifS (b := decide (c % 5 = 4)) (EvT.is (et_test (ev_eqD (d1 := .int (c % 5)) (d2 := .int 4) (by walk_at "ev") ev_int rfl rfl)) eqv_int) (fun z => ?_) (fun z => sd_next ?_))
  · rw [if_pos (of_decide_eq_true z)] at hk
    exact sd_ret (ev_ixSL (EvF.l (evf_lst (ea_cons ev_str (ea_cons ev_str (ea_cons ev_str (ea_cons ev_str (ea_cons ev_str (ea_cons ev_str (ea_cons ev_str (ea_cons ev_str ea_nil)))))))) (by exact Nat.le_of_ble_eq_true rfl))) (by walk_at "ev") (strs_at (zs := L13a) (by omega) (show c / 5 % 8 < 8 by omega))) hk
  · rw [if_neg (of_decide_eq_false z)] at hk
    exact sd_ret (ev_ixSL (EvF.l (evf_lst (ea_cons ev_str (ea_cons ev_str (ea_cons ev_str (ea_cons ev_str (ea_cons ev_str (ea_cons ev_str ea_nil)))))) (by exact Nat.le_of_ble_eq_true rfl))) (by walk_at "ev") (strs_at (zs := L13b) (by omega) (show c / 5 % 6 < 6 by omega))) hk
theorem sc__law_claims : FnScope ["script", "cell", "many", "claims", "k", "one"] ["script", "cell"] (defScope s__law_claims) := ⟨rfl, rfl, rfl, by decide +kernel, rfl, by decide +kernel, by decide +kernel⟩
def c13f (ns : List Int) (k : Nat) : Int := cellAt ns (5 + (0 + (k : Int))) % 10 ^ (40 : Int).toNat / 2 % (if cellAt ns (5 + (0 + (k : Int))) % 10 ^ (40 : Int).toNat % 2 = 0 then 13 else 10 ^ (30 : Int).toNat)
def c13g (c : Int) : Int := -1 - c / 256 % (if c / 256 % 2 = 0 then 2 else 10 ^ (59 : Int).toNat)
def c13a (ns : List Int) (m : Nat) : List Int := (List.range m).map (c13f ns)
def c13b (ns : List Int) (c : Int) (m : Nat) : List Int := if c / 8 % 4 = 1 then (c13a ns m).set (c / 32 % (m : Int)).toNat (c13g c) else c13a ns m
def c13 (ns : List Int) (c : Int) : List Int := if c / 8 % 32 = 2 then [] else c13b ns c (1 + c % 8).toNat
theorem c13f_b (ns : List Int) (k : Nat) : (c13f ns k).natAbs < 2 ^ 200 := by
  unfold c13f
  generalize cellAt ns (5 + (0 + (k : Int))) % 10 ^ (40 : Int).toNat = d
  have e : (10 : Int) ^ (30 : Int).toNat = 1000000000000000000000000000000 := by decide
  have e2 : (2 : Nat) ^ 200 = 1606938044258990275541962092341162602522202993782792835301376 := by decide
  rw [e, e2]
  split <;> omega
theorem c13g_b (c : Int) : (c13g c).natAbs < 2 ^ 200 := by
  unfold c13g
  have e : (10 : Int) ^ (59 : Int).toNat = 100000000000000000000000000000000000000000000000000000000000 := by decide
  have e2 : (2 : Nat) ^ 200 = 1606938044258990275541962092341162602522202993782792835301376 := by decide
  rw [e, e2]
  split <;> omega
theorem c13_ok (ns : List Int) (c : Int) : (c13 ns c).length ≤ 8 ∧ small (c13 ns c) 200 := by
  have hb : ∀ m, (c13b ns c m).length = m ∧ small (c13b ns c m) 200 := fun m => by
    have ha : (c13a ns m).length = m ∧ small (c13a ns m) 200 := ⟨by unfold c13a; rw [List.length_map, List.length_range], fun x hx => by
      obtain ⟨k, _, rfl⟩ := List.mem_map.mp hx
      exact c13f_b ns k⟩
    unfold c13b
    split
    · refine ⟨by rw [List.length_set]; exact ha.1, fun x hx => ?_⟩
      rcases List.mem_or_eq_of_mem_set hx with h | rfl
      · exact ha.2 x h
      · exact c13g_b c
    · exact ha
  unfold c13
  split
  · exact ⟨Nat.zero_le _, fun x hx => by cases hx⟩
  · have := hb (1 + c % 8).toNat
    exact ⟨by omega, this.2⟩
theorem ixN_ok {n : Nat} {i : Int} (h0 : 0 ≤ i) (h1 : i < n) : ixN n i = some i.toNat := by
  unfold ixN
  rw [if_pos (by omega), if_pos (by omega)]
def cClaims : Ct := fun ds k => ∃ (ns : List Int) (c : Int), ds = [.list (ns.map PyData.int), .int c] ∧ k.rl ((c13 ns c).map PyData.int)
theorem claims_v {ns : List Int} {c : Int} : cClaims [.list (ns.map PyData.int), .int c] (kl ((c13 ns c).map PyData.int)) := ⟨ns, c, rfl, rfl⟩
theorem ok__law_claims (T : Txt K mg A) (hN : base.NoSeer) (hT : P.given.tree = none) (fnN__law_cell_at : OkN P w K mg base 1 "_law_cell_at" ["script", "k"] (spc K cCell)) : OkN P w K mg base 2 "_law_claims" ["script", "cell"] (spc K cClaims) := by
  refine T.f__law_claims.okN sc__law_claims _ (fun ds k hc => by obtain ⟨_, _, rfl, _⟩ := hc; rfl) (fun cdv A' outer s H vs Q E hr h => ⟨_, (pss_cons (ps_set (i := 2) sc__law_claims.nd rfl (by first | exact Or.inl rfl | exact Or.inr rfl) (pe_op (o_plus (K := K)) pe_int (pe_op o_mod (pv 1) pe_int)))
  (pss_cons (ps_set (i := 3) sc__law_claims.nd rfl (by first | exact Or.inl rfl | exact Or.inr rfl) (pe_lst pa_nil))
  (pss_cons (ps_for (passes_of rfl) rfl (pi_range1 rfl T.z_range (pa_cons (pv 2) pa_nil)) (pg_name (i := 4) sc__law_claims.nd rfl (by first | exact Or.inl rfl | exact Or.inr rfl)) (pss_cons (ps_set (i := 5) sc__law_claims.nd rfl (by first | exact Or.inl rfl | exact Or.inr rfl) (pe_op o_mod (pe_fnN fnN__law_cell_at (hr.mono (by decide)) (L2N.takes_of rfl rfl rfl rfl) rfl (pa_cons (pv 0) (pa_cons (pe_op (o_plus (K := K)) pe_int (pv 4)) pa_nil))) (pe_op o_pow pe_int pe_int)))
  (pss_one (ps_expr (b_m (K := K) PySem.F.plainAttrs_list PySem.F.slot_list_append PySem.F.type_list_append mt_append (pv 3) (pa_cons (pe_op o_mod (pe_op o_fdiv (pv 5) pe_int) (pe_ix (i_any (K := K)) (pe_lst (pa_cons pe_int (pa_cons (pe_op o_pow pe_int pe_int) pa_nil))) (pe_op o_mod (pv 5) pe_int) (fun _ _ => rfl))) pa_nil))))))
  (pss_cons (ps_if (pt_cmpR (o_eq (K := K) hr.units) (pe_op o_mod (pe_op o_fdiv (pv 1) pe_int) pe_int) pe_int (nomark _)) (pss_one (ps_asg (pe_op o_sub (pe_un o_neg pe_int) (pe_op o_mod (pe_op o_fdiv (pv 1) pe_int) (pe_ix (i_any (K := K)) (pe_lst (pa_cons pe_int (pa_cons (pe_op o_pow pe_int pe_int) pa_nil))) (pe_op o_mod (pe_op o_fdiv (pv 1) pe_int) pe_int) (fun _ _ => rfl)))) (pg_sub (pv 3) (pe_op o_mod (pe_op o_fdiv (pv 1) pe_int) (pv 2)) set_list))) pss_nil)
  (pss_cons (ps_if (pt_cmpR (o_eq (K := K) hr.units) (pe_op o_mod (pe_op o_fdiv (pv 1) pe_int) pe_int) pe_int (nomark _)) (pss_one (ps_set (i := 3) sc__law_claims.nd rfl (by first | exact Or.inl rfl | exact Or.inr rfl) (pe_lst pa_nil))) pss_nil)
  (pss_one (ps_ret (pv 3)))))))), body_of h fun ds k hc => ?_⟩)
  obtain ⟨ns, c, rfl, hk⟩ := hc
  show Sd K _ _ _ [.val (.list (ns.map PyData.int)), .val (.int c), .un, .un, .un, .un] _
  obtain ⟨m, hm, hm1, hm2⟩ : ∃ m : Nat, 1 + c % 8 = (m : Int) ∧ 1 ≤ m ∧ m ≤ 8 := ⟨(1 + c % 8).toNat, by omega, by omega, by omega⟩
  refine sd_seq (sd_set (d := .int (m : Int)) (by rw [← hm]; walk_at "ev") ?_)
  unfold c13 at hk
  rw [hm, Int.toNat_natCast] at hk
  refine sd_seq (sd_own (by walk_at "ef") ?_)
  refine sd_seq (sd_for (fun i ρ => ∃ z4 z5 : Sl, ρ = [.val (.list (ns.map PyData.int)), .val (.int c), .val (.int (m : Int)), .own ((c13a ns i).map PyData.int), z4, z5]) (id_rng1 (ea_cons (ev_var rfl) ea_nil) (by omega) (by omega)) ⟨_, _, rfl⟩ ?_ ?_)
  · rintro i d ρ' hd ⟨z4, z5, rfl⟩
    obtain ⟨hi, rfl⟩ := rangeD_get hd
    have hi : i < m := by omega
    refine ⟨_, gd_name, ?_⟩
    refine sd_seq (sd_set (d := .int (cellAt ns (5 + (0 + (i : Int))) % 10 ^ (40 : Int).toNat)) (v_emod (ev_call (ea_cons (ev_var rfl) (ea_cons (a_add ev_int (ev_var rfl)) ea_nil)) (cell_v (by omega))) (by walk_at "ev") (by decide)) ?_)
    have es : (c13a ns (i + 1)).map PyData.int = (c13a ns i).map PyData.int ++ [.int (c13f ns i)] := by
      unfold c13a
      rw [List.range_succ, List.map_append, List.map_append]
      rfl
    rw [es]
    have ha : (c13a ns i).length = i := by unfold c13a; rw [List.length_map, List.length_range]
    unfold c13f
    generalize cellAt ns (5 + (0 + (i : Int))) % 10 ^ (40 : Int).toNat = dd
    have a2 : atI [PyData.int 13, .int (10 ^ (30 : Int).toNat)] (dd % 2) = some (.int (if dd % 2 = 0 then 13 else 10 ^ (30 : Int).toNat)) := by
      rw [at_2 (by omega) (by omega)]
      split <;> rfl
    have p6 : (0 : Int) < (if dd % 2 = 0 then 13 else 10 ^ (30 : Int).toNat) := by split <;> decide
    exact sd_append rfl (v_emod (by walk_at "ev") (ev_ixSL (EvF.l (evf_lst (ea_cons ev_int (ea_cons (by walk_at "ev") ea_nil)) (by exact Nat.le_of_ble_eq_true rfl))) (by walk_at "ev") a2) p6) (by rw [List.length_map]; omega) ⟨_, _, rfl⟩
  rintro ρ ⟨z4, z5, rfl⟩
  rw [rangeD_len, show ((m : Int)).toNat = m by omega]
  have ha : (c13a ns m).length = m := by unfold c13a; rw [List.length_map, List.length_range]
  refine sd_seq (sd_ifJ (fun ρ => ρ = [.val (.list (ns.map PyData.int)), .val (.int c), .val (.int (m : Int)), .own ((c13b ns c m).map PyData.int), z4, z5]) (b := decide (c / 8 % 4 = 1)) (EvT.is (et_test (ev_eqD (d1 := .int (c / 8 % 4)) (d2 := .int 1) (by walk_at "ev") ev_int rfl rfl)) eqv_int) (fun z => ?_) (fun z => sd_next ?_) ?_)
  · have m1 := Int.emod_nonneg (c / 32) (b := (m : Int)) (by omega)
    have m2 := Int.emod_lt_of_pos (c / 32) (b := (m : Int)) (by omega)
    have a2 : atI [PyData.int 2, .int (10 ^ (59 : Int).toNat)] (c / 256 % 2) = some (.int (if c / 256 % 2 = 0 then 2 else 10 ^ (59 : Int).toNat)) := by
      rw [at_2 (by omega) (by omega)]
      split <;> rfl
    have p6 : (0 : Int) < (if c / 256 % 2 = 0 then 2 else 10 ^ (59 : Int).toNat) := by split <;> decide
    refine sd_put (q := (c / 32 % (m : Int)).toNat) (n := c / 32 % (m : Int)) (d := .int (c13g c)) rfl (v_sub (by walk_at "ev") (v_emod (by walk_at "ev") (ev_ixSL (EvF.l (evf_lst (ea_cons ev_int (ea_cons (by walk_at "ev") ea_nil)) (by exact Nat.le_of_ble_eq_true rfl))) (by walk_at "ev") a2) p6)) (v_emod (by walk_at "ev") (ev_var rfl) (by omega)) (ixN_ok m1 (by rw [List.length_map, ha]; exact m2)) ?_
    unfold c13b
    rw [if_pos (of_decide_eq_true z), List.map_set]
    rfl
  · unfold c13b
    rw [if_neg (of_decide_eq_false z)]
  rintro ρ rfl
  refine sd_seq (sd_ifJ (fun ρ => ρ = [.val (.list (ns.map PyData.int)), .val (.int c), .val (.int (m : Int)), .own ((if c / 8 % 32 = 2 then [] else c13b ns c m).map PyData.int), z4, z5]) (b := decide (c / 8 % 32 = 2)) (EvT.is (et_test (ev_eqD (d1 := .int (c / 8 % 32)) (d2 := .int 2) (by walk_at "ev") ev_int rfl rfl)) eqv_int) (fun z => ?_) (fun z => sd_next ?_) ?_)
  · rw [if_pos (of_decide_eq_true z)]
    exact sd_own (ds := []) (by walk_at "ef") rfl
  · rw [if_neg (of_decide_eq_false z)]
  rintro ρ rfl
  exact sd_reto rfl hk
theorem sc__law_weights : FnScope ["script", "cell", "way", "many", "weights", "k", "one", "bad"] ["script", "cell", "way", "many"] (defScope s__law_weights) := ⟨rfl, rfl, rfl, by decide +kernel, rfl, by decide +kernel, by decide +kernel⟩
def w13f (ns : List Int) (k : Nat) : Int := wtOf (cellAt ns (13 + (0 + (k : Int))) % 10 ^ (30 : Int).toNat)
def w13p (w : Str) (c : Int) : Bool := !(PyData.eqv (.bool (decide (w = "even") || decide (w = "lack"))) (.bool (decide (c % 7 = 3))))
def w13a (ns : List Int) (w : Str) (c : Int) (m : Nat) : List Int := wList (w13p w c) (w13f ns) m
def w13x (c : Int) : Int := if c / 91 % 4 = 0 then 0 else if c / 91 % 4 = 1 then -1 - c / 700 % 10 ^ (50 : Int).toNat else if c / 91 % 4 = 2 then 10 ^ (6 : Int).toNat + 1 else 10 ^ (6 : Int).toNat + c / 700 % 10 ^ (50 : Int).toNat + 1
def w13b (ws : List Int) (c : Int) : List Int := if ws ≠ [] ∧ c % 7 = 1 then ws.set (c / 7 % (ws.length : Int)).toNat (w13x c) else ws
def w13c (ws : List Int) (c : Int) : List Int := if c % 7 = 2 then (if c / 7 % 2 = 0 then ws.drop 1 else ws ++ [1]) else ws
def w13 (ns : List Int) (w : Str) (c : Int) (m : Nat) : List Int := w13c (w13b (w13a ns w c m) c) c
def cWeights : Ct := fun ds k => ∃ (ns : List Int) (w : Str) (c : Int) (m : Nat), ds = [.list (ns.map PyData.int), .int c, .str w, .int (m : Int)] ∧ SeqAt.shaped (.str w) = true ∧ m ≤ 8 ∧ (c % 7 = 2 → k.rt (.list ((w13 ns w c m).map PyData.int))) ∧ (c % 7 ≠ 2 → k.rl ((w13 ns w c m).map PyData.int))
theorem weights_ev {K : Frag} {E : L2.St → XK} {ta : TA} {ρ : En} {ns : List Int} {w : Str} {c : Int} {m : Nat} (hs : SeqAt.shaped (.str w) = true) (hm : m ≤ 8) (ha : EvA K ta ρ [.list (ns.map PyData.int), .int c, .str w, .int (m : Int)]) : Ev K (tCallS (spc K cWeights) E ta) ρ (.list ((w13 ns w c m).map PyData.int)) := by
  by_cases h : c % 7 = 2
  · exact ev_call ha ⟨ns, w, c, m, rfl, hs, hm, fun _ => rfl, fun z => absurd h z⟩
  · exact EvF.v (evf_call ha ⟨ns, w, c, m, rfl, hs, hm, fun z => absurd z h, fun _ => rfl⟩)
theorem eqv_nil_ints {ns : List Int} : PyData.eqv (.list (ns.map PyData.int)) (.list []) = decide (ns = []) := by
  cases ns with
  | nil => rfl
  | cons n r => rfl
theorem ok__law_weights (T : Txt K mg A) (hN : base.NoSeer) (hT : P.given.tree = none) (fnN__law_cell_at : OkN P w K mg base 1 "_law_cell_at" ["script", "k"] (spc K cCell)) : OkN P w K mg base 2 "_law_weights" ["script", "cell", "way", "many"] (spc K cWeights) := by
  refine T.f__law_weights.okN sc__law_weights _ (fun ds k hc => by obtain ⟨_, _, _, _, rfl, _⟩ := hc; rfl) (fun cdv A' outer s H vs Q E hr h => ⟨_, (pss_cons (ps_set (i := 4) sc__law_weights.nd rfl (by first | exact Or.inl rfl | exact Or.inr rfl) (pe_lst pa_nil))
  (pss_cons (ps_if (pt_cmpR (o_ne (K := K) hr.units) (pe_or (pe_cmpR (o_eq (K := K) hr.units) (pv 2) pe_str (nomark _)) (pe_one (pe_cmpR (o_eq (K := K) hr.units) (pv 2) pe_str (nomark _)))) (pe_cmpR (o_eq (K := K) hr.units) (pe_op o_mod (pv 1) pe_int) pe_int (nomark _)) (nomark _)) (pss_one (ps_for (passes_of rfl) rfl (pi_range1 rfl T.z_range (pa_cons (pv 3) pa_nil)) (pg_name (i := 5) sc__law_weights.nd rfl (by first | exact Or.inl rfl | exact Or.inr rfl)) (pss_cons (ps_set (i := 6) sc__law_weights.nd rfl (by first | exact Or.inl rfl | exact Or.inr rfl) (pe_op o_mod (pe_fnN fnN__law_cell_at (hr.mono (by decide)) (L2N.takes_of rfl rfl rfl rfl) rfl (pa_cons (pv 0) (pa_cons (pe_op (o_plus (K := K)) pe_int (pv 5)) pa_nil))) (pe_op o_pow pe_int pe_int)))
  (pss_one (ps_expr (b_m (K := K) PySem.F.plainAttrs_list PySem.F.slot_list_append PySem.F.type_list_append mt_append (pv 4) (pa_cons (pe_op (o_plus (K := K)) pe_int (pe_op o_mod (pe_op o_fdiv (pv 6) pe_int) (pe_ix (i_any (K := K)) (pe_lst (pa_cons pe_int (pa_cons (pe_op o_pow pe_int pe_int) pa_nil))) (pe_op o_mod (pv 6) pe_int) (fun _ _ => rfl)))) pa_nil))))))) pss_nil)
  (pss_cons (ps_if (PW.pt (pw_and (pt_cmpR (o_ne (K := K) hr.units) (pv 4) (pe_lst pa_nil) (nomark _)) (pw_and1 (pt_cmpR (o_eq (K := K) hr.units) (pe_op o_mod (pv 1) pe_int) pe_int (nomark _))))) (pss_cons (ps_set (i := 7) sc__law_weights.nd rfl (by first | exact Or.inl rfl | exact Or.inr rfl) (pe_lst (pa_cons pe_int (pa_cons (pe_op o_sub (pe_un o_neg pe_int) (pe_op o_mod (pe_op o_fdiv (pv 1) pe_int) (pe_op o_pow pe_int pe_int))) (pa_cons (pe_op (o_plus (K := K)) (pe_op o_pow pe_int pe_int) pe_int) (pa_cons (pe_op (o_plus (K := K)) (pe_op (o_plus (K := K)) (pe_op o_pow pe_int pe_int) (pe_op o_mod (pe_op o_fdiv (pv 1) pe_int) (pe_op o_pow pe_int pe_int))) pe_int) pa_nil))))))
  (pss_one (ps_asg (pe_ix (i_any (K := K)) (pv 7) (pe_op o_mod (pe_op o_fdiv (pv 1) pe_int) pe_int) (fun _ _ => rfl)) (pg_sub (pv 4) (pe_op o_mod (pe_op o_fdiv (pv 1) pe_int) (pe_callB (c_lenA (K := K)) (by rfl) T.z_len (by decide +kernel) (pa_cons (pv 4) pa_nil))) set_list)))) pss_nil)
  (pss_cons (ps_if (pt_cmpR (o_eq (K := K) hr.units) (pe_op o_mod (pv 1) pe_int) pe_int (nomark _)) (pss_one (ps_set (i := 4) sc__law_weights.nd rfl (by first | exact Or.inl rfl | exact Or.inr rfl) (pe_ix (i_any (K := K)) (pe_lst (pa_cons (pe_slice (s_any (K := K)) (pv 4) (po_some pe_int) po_none) (pa_cons (pe_op (o_plus (K := K)) (pv 4) (pe_lst (pa_cons pe_int pa_nil))) pa_nil))) (pe_op o_mod (pe_op o_fdiv (pv 1) pe_int) pe_int) (fun _ _ => rfl)))) pss_nil)
  (pss_one (ps_ret (pv 4))))))), body_of h fun ds k hc => ?_⟩)
  obtain ⟨ns, w, c, m, rfl, hws, hm, hk1, hk2⟩ := hc
  show Sd K _ _ _ [.val (.list (ns.map PyData.int)), .val (.int c), .val (.str w), .val (.int (m : Int)), .un, .un, .un, .un] _
  refine sd_seq (sd_own (by walk_at "ef") ?_)
  have es1 : SeqAt.shaped (.str "even") = true := by decide +kernel
  have es2 : SeqAt.shaped (.str "lack") = true := by decide +kernel
  refine sd_seq (sd_ifJ (fun ρ => ∃ z5 z6 : Sl, ρ = [.val (.list (ns.map PyData.int)), .val (.int c), .val (.str w), .val (.int (m : Int)), .own ((w13a ns w c m).map PyData.int), z5, z6, .un]) (b := w13p w c) (et_test (ev_neD (ev_orV (ev_eqS (ev_var rfl) ev_str hws es1) fun _ => ev_eqS (ev_var rfl) ev_str hws es2) (Ev.is (ev_eqD (d1 := .int (c % 7)) (d2 := .int 3) (by walk_at "ev") ev_int rfl rfl) (congrArg PyData.bool eqv_int)) rfl rfl)) (fun z => ?_) (fun z => sd_next ?_) ?_)
  · unfold w13a wList
    rw [z, if_pos rfl]
    refine sd_for (fun i ρ => ∃ z5 z6 : Sl, ρ = [.val (.list (ns.map PyData.int)), .val (.int c), .val (.str w), .val (.int (m : Int)), .own (((List.range i).map (w13f ns)).map PyData.int), z5, z6, .un]) (id_rng1 (ea_cons (ev_var rfl) ea_nil) (by omega) (by omega)) ⟨_, _, rfl⟩ ?_ ?_
    · rintro i d ρ' hd ⟨z5, z6, rfl⟩
      obtain ⟨hi, rfl⟩ := rangeD_get hd
      have hi : i < m := by omega
      refine ⟨_, gd_name, ?_⟩
      refine sd_seq (sd_set (d := .int (cellAt ns (13 + (0 + (i : Int))) % 10 ^ (30 : Int).toNat)) (v_emod (ev_call (ea_cons (ev_var rfl) (ea_cons (a_add ev_int (ev_var rfl)) ea_nil)) (cell_v (by omega))) (by walk_at "ev") (by decide)) ?_)
      have es : ((List.range (i + 1)).map (w13f ns)).map PyData.int = ((List.range i).map (w13f ns)).map PyData.int ++ [.int (w13f ns i)] := by
        rw [List.range_succ, List.map_append, List.map_append]
        rfl
      rw [es]
      unfold w13f
      generalize cellAt ns (13 + (0 + (i : Int))) % 10 ^ (30 : Int).toNat = ww
      have a2 : atI [PyData.int 4, .int (10 ^ (6 : Int).toNat)] (ww % 2) = some (.int (if ww % 2 = 0 then 4 else 10 ^ (6 : Int).toNat)) := by
        rw [at_2 (by omega) (by omega)]
        split <;> rfl
      have p6 : (0 : Int) < (if ww % 2 = 0 then 4 else 10 ^ (6 : Int).toNat) := by split <;> decide
      exact sd_append (d := .int (wtOf ww)) rfl (a_add ev_int (v_emod (by walk_at "ev") (ev_ixSL (EvF.l (evf_lst (ea_cons ev_int (ea_cons (by walk_at "ev") ea_nil)) (by exact Nat.le_of_ble_eq_true rfl))) (by walk_at "ev") a2) p6)) (by rw [List.length_map, List.length_map, List.length_range]; omega) ⟨_, _, rfl⟩
    · rintro ρ ⟨z5, z6, rfl⟩
      rw [rangeD_len, show ((m : Int)).toNat = m by omega]
      exact ⟨_, _, rfl⟩
  · unfold w13a wList
    rw [z]
    exact ⟨_, _, rfl⟩
  rintro ρ ⟨z5, z6, rfl⟩
  unfold w13 at hk1 hk2
  have hwl : (w13a ns w c m).length ≤ 8 := by
    unfold w13a wList
    split
    · rw [List.length_map, List.length_range]; exact hm
    · exact Nat.zero_le _
  generalize w13a ns w c m = ws at hwl hk1 hk2
  have sh1 : ∀ xs : List Int, SeqAt.shaped (.list (xs.map PyData.int)) = true := fun xs => sh_ints.shaped (by decide)
  have eLn : ∀ z7 : Sl, Ev K (tCB (rLenA K) (tCons (tVar 4) tNil)) [.val (.list (ns.map PyData.int)), .val (.int c), .val (.str w), .val (.int (m : Int)), .own (ws.map PyData.int), z5, z6, z7] (.int (ws.length : Int)) := fun z7 => by
    rw [← List.length_map (f := PyData.int) (as := ws)]
    exact a_lenL (evl_own rfl)
  refine sd_seq (sd_ifJ (fun ρ => ∃ z7 : Sl, ρ = [.val (.list (ns.map PyData.int)), .val (.int c), .val (.str w), .val (.int (m : Int)), .own ((w13b ws c).map PyData.int), z5, z6, z7]) (b := !decide (ws = []) && decide (c % 7 = 1)) (et_and (EvT.is (et_test (ev_neL (evl_own rfl) (EvF.v (evf_lst ea_nil (by exact Nat.le_of_ble_eq_true rfl))) (sh1 ws) rfl)) (by rw [eqv_nil_ints])) fun _ => EvT.is (et_test (ev_eqD (d1 := .int (c % 7)) (d2 := .int 1) (by walk_at "ev") ev_int rfl rfl)) eqv_int) (fun z => ?_) (fun z => sd_next ?_) ?_)
  · rw [Bool.and_eq_true] at z
    have hne : ws ≠ [] := by simpa using z.1
    have h1 : c % 7 = 1 := of_decide_eq_true z.2
    have hp : 0 < ws.length := List.length_pos_iff.mpr hne
    have m1 := Int.emod_nonneg (c / 7) (b := (ws.length : Int)) (by omega)
    have m2 := Int.emod_lt_of_pos (c / 7) (b := (ws.length : Int)) (by omega)
    refine sd_seq (sd_set (d := .list [.int 0, .int (-1 - c / 700 % 10 ^ (50 : Int).toNat), .int (10 ^ (6 : Int).toNat + 1), .int (10 ^ (6 : Int).toNat + c / 700 % 10 ^ (50 : Int).toNat + 1)]) (EvF.v (evf_lst (ea_cons ev_int (ea_cons (by walk_at "ev") (ea_cons (by walk_at "ev") (ea_cons (by walk_at "ev") ea_nil)))) (by exact Nat.le_of_ble_eq_true rfl))) ?_)
    have a1 := at_4 (a := PyData.int 0) (b := .int (-1 - c / 700 % 10 ^ (50 : Int).toNat)) (c := .int (10 ^ (6 : Int).toNat + 1)) (d := .int (10 ^ (6 : Int).toNat + c / 700 % 10 ^ (50 : Int).toNat + 1)) (k := c / 91 % 4) (by omega) (by omega)
    have e : (if c / 91 % 4 = 0 then PyData.int 0 else if c / 91 % 4 = 1 then .int (-1 - c / 700 % 10 ^ (50 : Int).toNat) else if c / 91 % 4 = 2 then .int (10 ^ (6 : Int).toNat + 1) else .int (10 ^ (6 : Int).toNat + c / 700 % 10 ^ (50 : Int).toNat + 1)) = .int (w13x c) := by
      unfold w13x
      split
      · rfl
      · split
        · rfl
        · split <;> rfl
    rw [e] at a1
    refine sd_put (q := (c / 7 % (ws.length : Int)).toNat) (n := c / 7 % (ws.length : Int)) (d := .int (w13x c)) rfl (ev_ixSL (ev_var rfl).l (by walk_at "ev") a1) (v_emod (by walk_at "ev") (eLn _) (by omega)) (ixN_ok m1 (by rw [List.length_map]; exact m2)) ?_
    unfold w13b
    rw [if_pos ⟨hne, h1⟩, List.map_set]
    exact ⟨_, rfl⟩
  · unfold w13b
    rw [if_neg (fun h => by rw [decide_eq_false h.1, decide_eq_true h.2] at z; cases z)]
    exact ⟨_, rfl⟩
  rintro ρ ⟨z7, rfl⟩
  have hbl : (w13b ws c).length = ws.length := by unfold w13b; split <;> simp
  generalize w13b ws c = vs at hk1 hk2 hbl
  refine sd_seq (sd_ifS (b := decide (c % 7 = 2)) (EvT.is (et_test (ev_eqD (d1 := .int (c % 7)) (d2 := .int 2) (by walk_at "ev") ev_int rfl rfl)) eqv_int) (fun z => ?_) (fun z => sd_next ?_))
  · have h2 : c % 7 = 2 := of_decide_eq_true z
    have hr := hk1 h2
    unfold w13c at hr
    rw [if_pos h2] at hr
    have a2 := at_2 (a := PyData.list ((vs.drop 1).map PyData.int)) (b := .list ((vs ++ [1]).map PyData.int)) (k := c / 7 % 2) (by omega) (by omega)
    have e : (if c / 7 % 2 = 0 then PyData.list ((vs.drop 1).map PyData.int) else .list ((vs ++ [1]).map PyData.int)) = .list ((if c / 7 % 2 = 0 then vs.drop 1 else vs ++ [1]).map PyData.int) := by split <;> rfl
    rw [e] at a2
    have ecut : cutD (vs.map PyData.int) (some 1) none = (vs.drop 1).map PyData.int := by
      rw [List.map_drop]
      exact cut_from (vs.map PyData.int) 1
    refine sd_set (ev_ixSL (EvF.l (evf_lst (ea_cons (EvF.v ?_) (ea_cons (EvF.v ?_) ea_nil)) (by exact Nat.le_of_ble_eq_true rfl))) (by walk_at "ev") a2) ?_
    · rw [← ecut]
      exact a_slL (evl_own rfl) (o_some ev_int) o_none
    · rw [List.map_append]
      exact a_cat (evm_own rfl) (EvF.m (evf_lst (ea_cons ev_int ea_nil) (by exact Nat.le_of_ble_eq_true rfl))) (by rw [List.length_map]; show vs.length + 1 ≤ 100000; omega)
    · exact sd_ret (ev_var rfl) hr
  · have h2 : c % 7 ≠ 2 := of_decide_eq_false z
    have hr := hk2 h2
    unfold w13c at hr
    rw [if_neg h2] at hr
    exact sd_reto rfl hr
theorem sc__law_due : FnScope ["way", "weights", "claims"] ["way", "weights", "claims"] (defScope s__law_due) := ⟨rfl, rfl, rfl, by decide +kernel, rfl, by decide +kernel, by decide +kernel⟩
def cDue : Ct := fun ds k => ∃ (w : Str) (ws cs : List Int), ds = [.str w, .list (ws.map PyData.int), .list (cs.map PyData.int)] ∧ SeqAt.shaped (.str w) = true ∧ k.rt (.int (lookC w ws cs))
theorem due_v {w : Str} {ws cs : List Int} (hs : SeqAt.shaped (.str w) = true) : cDue [.str w, .list (ws.map PyData.int), .list (cs.map PyData.int)] (kv (.int (lookC w ws cs))) := ⟨w, ws, cs, rfl, hs, rfl⟩
theorem weighedL (w : Str) : WEIGHEDL.contains w = (decide (w = "even") || decide (w = "lack")) := by
  unfold WEIGHEDL
  rw [List.contains_cons, List.contains_cons, List.contains_nil, Bool.or_false]
  rfl
theorem ok__law_due (T : Txt K mg A) (hN : base.NoSeer) (hT : P.given.tree = none)  : OkN P w K mg base 1 "_law_due" ["way", "weights", "claims"] (spc K cDue) := by
  refine T.f__law_due.okN sc__law_due _ (fun ds k hc => by obtain ⟨_, _, _, rfl, _⟩ := hc; rfl) (fun cdv A' outer s H vs Q E hr h => ⟨_, (pss_cons (ps_if (pt_cmpR (o_notIn (K := K)) (pv 0) (pe_lst (pa_cons pe_str (pa_cons pe_str (pa_cons pe_str (pa_cons pe_str (pa_cons pe_str (pa_cons pe_str pa_nil))))))) (by rfl)) (pss_one (ps_ret pe_int)) pss_nil)
  (pss_cons (ps_if (PW.pt (pw_or (pt_cmpR (o_eq (K := K) hr.units) (pv 2) (pe_lst pa_nil) (nomark _)) (pw_or1 (pt_cmpR o_lt (pe_callB (c_minL (K := K) rfl) (by rfl) T.z_min (by decide +kernel) (pa_cons (pv 2) pa_nil)) pe_int (nomark _))))) (pss_one (ps_ret pe_int)) pss_nil)
  (pss_cons (ps_if (PW.pt (pw_and (pt_cmpR (o_ne (K := K) hr.units) (pv 0) pe_str (nomark _)) (pw_and1 (pt_cmpR (o_ne (K := K) hr.units) (pv 0) pe_str (nomark _))))) (pss_one (ps_ret (pe_ix (i_any (K := K)) (pe_lst (pa_cons pe_int (pa_cons pe_int pa_nil))) (pe_callTy (c_intA) (by rfl) T.z_int (by decide +kernel) (pa_cons (pe_cmpR (o_eq (K := K) hr.units) (pv 1) (pe_lst pa_nil) (nomark _)) pa_nil)) (fun _ _ => rfl)))) pss_nil)
  (pss_cons (ps_if (PW.pt (pw_or (pt_cmpR (o_ne (K := K) hr.units) (pe_callB (c_lenA (K := K)) (by rfl) T.z_len (by decide +kernel) (pa_cons (pv 1) pa_nil)) (pe_callB (c_lenA (K := K)) (by rfl) T.z_len (by decide +kernel) (pa_cons (pv 2) pa_nil)) (nomark _)) (pw_or (pt_cmpR o_lt (pe_callB (c_minL (K := K) rfl) (by rfl) T.z_min (by decide +kernel) (pa_cons (pv 1) pa_nil)) pe_int (nomark _)) (pw_or1 (pt_cmpR o_gt (pe_callB (c_maxL (K := K) rfl) (by rfl) T.z_max (by decide +kernel) (pa_cons (pv 1) pa_nil)) (pe_op o_pow pe_int pe_int) (nomark _)))))) (pss_one (ps_ret pe_int)) pss_nil)
  (pss_one (ps_ret pe_int)))))), body_of h fun ds k hc => ?_⟩)
  obtain ⟨w, ws, cs, rfl, hs, hk⟩ := hc
  show Sd K _ _ _ [.val (.str w), .val (.list (ws.map PyData.int)), .val (.list (cs.map PyData.int))] _
  have sh1 : ∀ xs : List Int, SeqAt.shaped (.list (xs.map PyData.int)) = true := fun xs => sh_ints.shaped (by decide)
  unfold lookC at hk
  refine sd_seq (sd_ifS (b := !WAYSL.contains w) (et_test (a_niS (.inl rfl) (ev_var rfl) (EvF.v (evf_lst (ea_cons ev_str (ea_cons ev_str (ea_cons ev_str (ea_cons ev_str (ea_cons ev_str (ea_cons ev_str ea_nil)))))) (by exact Nat.le_of_ble_eq_true rfl))))) (fun z => ?_) (fun z => sd_next ?_))
  · rw [if_neg (by simpa using z)] at hk
    exact sd_ret ev_int hk
  rw [if_pos (by simpa using z)] at hk
  refine sd_seq (sd_ifS (b := badC cs) ?_ (fun z => ?_) (fun z => sd_next ?_))
  · unfold badC
    by_cases hl : cs = []
    · subst hl
      exact EvT.is (et_or (x := true) (y := true) (EvT.is (et_test (ev_eqD (ev_var rfl) (EvF.v (evf_lst ea_nil (by exact Nat.le_of_ble_eq_true rfl))) rfl rfl)) rfl) fun z => nomatch z) rfl
    · obtain ⟨mn, m1, m2⟩ := int_min hl
      refine EvT.is (et_or (x := false) (y := decide (mn < 0)) (EvT.is (et_test (ev_eqD (ev_var rfl) (EvF.v (evf_lst ea_nil (by exact Nat.le_of_ble_eq_true rfl))) (sh1 cs) rfl)) (by rw [eqv_nil_ints, decide_eq_false hl])) fun _ => et_test (v_lt (v_minQ (.inl rfl) (ev_var rfl) m1 m2) ev_int)) ?_
      have hl' : ¬ cs.length = 0 := fun z => hl (List.length_eq_zero_iff.mp z)
      rw [decide_eq_false hl']
      congr 1
      rw [Bool.eq_iff_iff, decide_eq_true_eq, List.any_eq_true]
      constructor
      · intro h
        exact ⟨mn, m1, decide_eq_true h⟩
      · rintro ⟨c, hc, h⟩
        have := of_decide_eq_true h
        have := m2 c hc
        omega
  · rw [if_pos z] at hk
    exact sd_ret ev_int hk
  rw [if_neg (by rw [z]; decide)] at hk
  have hcl : 1 ≤ cs.length := by
    unfold badC at z
    rw [Bool.or_eq_false_iff] at z
    have := of_decide_eq_false z.1
    omega
  have es1 : SeqAt.shaped (.str "even") = true := by decide +kernel
  have es2 : SeqAt.shaped (.str "lack") = true := by decide +kernel
  unfold wfit at hk
  rw [weighedL] at hk
  refine sd_seq (sd_ifS (b := (!decide (w = "even")) && (!decide (w = "lack"))) (et_and (EvT.is (et_test (ev_neD (ev_var rfl) ev_str hs es1)) (by rw [str_eqv])) fun _ => EvT.is (et_test (ev_neD (ev_var rfl) ev_str hs es2)) (by rw [str_eqv])) (fun z => ?_) (fun z => sd_next ?_))
  · have z' : (decide (w = "even") || decide (w = "lack")) = false := by rw [← Bool.not_or] at z; simpa using z
    rw [z', if_neg Bool.false_ne_true] at hk
    have e0 : Ev K (tOp (rEqD K) (tVar 1) (tLst tNil)) [.val (.str w), .val (.list (ws.map PyData.int)), .val (.list (cs.map PyData.int))] (.bool (decide (ws = []))) := Ev.is (ev_eqD (ev_var rfl) (EvF.v (evf_lst ea_nil (by exact Nat.le_of_ble_eq_true rfl))) (sh1 ws) rfl) (by rw [eqv_nil_ints])
    have a2 : atI [PyData.int 2, .int 4] (if decide (ws = []) = true then 1 else 0) = some (.int (if ws = [] then 4 else 2)) := by
      by_cases e : ws = []
      · rw [decide_eq_true e, if_pos rfl, if_pos e]; rfl
      · rw [decide_eq_false e, if_neg (by decide), if_neg e]; rfl
    have hk' : k.rt (.int (if ws = [] then 4 else 2)) := by
      by_cases e : ws = []
      · subst e; exact hk
      · rw [decide_eq_false (fun z => e (List.length_eq_zero_iff.mp z)), if_neg Bool.false_ne_true] at hk
        rw [if_neg e]
        exact hk
    exact sd_ret (ev_ixSL (EvF.l (evf_lst (ea_cons ev_int (ea_cons ev_int ea_nil)) (by exact Nat.le_of_ble_eq_true rfl))) (v_intB e0) a2) hk'
  have z' : (decide (w = "even") || decide (w = "lack")) = true := by rw [← Bool.not_or, Bool.not_eq_false'] at z; exact z
  rw [z', if_pos rfl] at hk
  have eW : Ev K (tCB (rLenA K) (tCons (tVar 1) tNil)) [.val (.str w), .val (.list (ws.map PyData.int)), .val (.list (cs.map PyData.int))] (.int (ws.length : Int)) := by
    rw [← List.length_map (f := PyData.int) (as := ws)]
    exact a_lenL (ev_var rfl).l
  have eC : Ev K (tCB (rLenA K) (tCons (tVar 2) tNil)) [.val (.str w), .val (.list (ws.map PyData.int)), .val (.list (cs.map PyData.int))] (.int (cs.length : Int)) := by
    rw [← List.length_map (f := PyData.int) (as := cs)]
    exact a_lenL (ev_var rfl).l
  obtain ⟨F, hF⟩ : ∃ F, F = (decide (ws.length = cs.length) && ws.all fun x => decide (1 ≤ x) && decide (x ≤ 1000000)) := ⟨_, rfl⟩
  rw [← hF] at hk
  have fin : ∀ b : Bool, b = !F → (b = true → k.rt (.int 2)) ∧ (b = false → k.rt (.int 4)) := fun b hb => ⟨fun z => by
    have : F = false := by rw [z] at hb; simpa using hb.symm
    rw [this] at hk
    exact hk, fun z => by
    have : F = true := by rw [z] at hb; simpa using hb.symm
    rw [this] at hk
    exact hk⟩
  by_cases hl : ws.length = cs.length
  · have hne : ws ≠ [] := fun z => by rw [z] at hl; have : (0 : Nat) = cs.length := hl; omega
    obtain ⟨mn, n1, n2⟩ := int_min hne
    obtain ⟨mx, x1, x2⟩ := int_max hne
    have hb := fin (decide (mn < 1) || decide (10 ^ (6 : Int).toNat < mx)) (by
      have e6 : (10 : Int) ^ (6 : Int).toNat = 1000000 := by decide
      rw [hF, decide_eq_true hl, Bool.true_and, e6]
      cases ha : ws.all fun x => decide (1 ≤ x) && decide (x ≤ 1000000) with
      | true =>
        have h := List.all_eq_true.mp ha
        have a1 := h mn n1
        have a2 := h mx x1
        rw [Bool.and_eq_true, decide_eq_true_eq, decide_eq_true_eq] at a1 a2
        rw [decide_eq_false (by omega), decide_eq_false (by omega)]
        rfl
      | false =>
        rw [List.all_eq_false] at ha
        obtain ⟨x, hx, h⟩ := ha
        rw [Bool.and_eq_true, decide_eq_true_eq, decide_eq_true_eq] at h
        have := n2 x hx
        have := x2 x hx
        by_cases h1 : mn < 1
        · rw [decide_eq_true h1]; rfl
        · rw [decide_eq_true (show 1000000 < mx by omega), Bool.or_true]; rfl)
    refine sd_seq (sd_ifS (b := false || (decide (mn < 1) || decide (10 ^ (6 : Int).toNat < mx))) (et_or (EvT.is (et_test (ev_neD (d1 := .int (ws.length : Int)) (d2 := .int (cs.length : Int)) eW eC rfl rfl)) (by rw [eqv_int, decide_eq_true (by omega)]; rfl)) fun _ => et_or (et_test (v_lt (v_minQ (.inl rfl) (ev_var rfl) n1 n2) ev_int)) fun _ => et_test (v_gt (v_maxQ (.inl rfl) (ev_var rfl) x1 x2) (by walk_at "ev"))) (fun z => ?_) (fun z => sd_next ?_))
    · exact sd_ret ev_int (hb.1 z)
    · exact sd_ret ev_int (hb.2 z)
  · have hb := fin true (by rw [hF, decide_eq_false hl]; rfl)
    refine sd_seq (sd_ifS (b := true || true) (et_or (EvT.is (et_test (ev_neD (d1 := .int (ws.length : Int)) (d2 := .int (cs.length : Int)) eW eC rfl rfl)) (by rw [eqv_int, decide_eq_false (by omega)]; rfl)) fun z => nomatch z) (fun z => ?_) (fun z => nomatch z))
    exact sd_ret ev_int (hb.1 rfl)
theorem sc_weights_fit : FnScope ["way", "weights", "many"] ["way", "weights", "many"] (defScope s_weights_fit) := ⟨rfl, rfl, rfl, by decide +kernel, rfl, by decide +kernel, by decide +kernel⟩
theorem ok_weights_fit (T : Txt K mg A) (hN : base.NoSeer) (hT : P.given.tree = none)  : OkN P w K mg base 1 "weights_fit" ["way", "weights", "many"] (spc K cWFit) := by
  refine T.f_weights_fit.okN sc_weights_fit _ (fun ds k hc => by obtain ⟨_, _, _, _, rfl, _⟩ := hc; rfl) (fun cdv A' outer s H vs Q E hr h => ⟨_, (pss_cons (ps_if (pt_cmpR (o_notIn (K := K)) (pv 0) (pe_glob (v := .ref A.k_WEIGHED) rfl T.m_WEIGHED rfl) (by rfl)) (pss_one (ps_ret (pe_cmpR (o_eq (K := K) hr.units) (pe_callB (c_lenA (K := K)) (by rfl) T.z_len (by decide +kernel) (pa_cons (pv 1) pa_nil)) pe_int (nomark _)))) pss_nil)
  (pss_one (ps_ret (pe_and (pe_cmpR (o_eq (K := K) hr.units) (pe_callB (c_lenA (K := K)) (by rfl) T.z_len (by decide +kernel) (pa_cons (pv 1) pa_nil)) (pv 2) (nomark _)) (pe_and (pe_cmpR o_ge (pe_callB (c_minL (K := K) rfl) (by rfl) T.z_min (by decide +kernel) (pa_cons (pv 1) pa_nil)) pe_int (nomark _)) (pe_one (pe_cmpR o_le (pe_callB (c_maxL (K := K) rfl) (by rfl) T.z_max (by decide +kernel) (pa_cons (pv 1) pa_nil)) (pe_gInt rfl T.m_MOST_WEIGHT) (nomark _)))))))), body_of h fun ds k hc => ?_⟩)
  obtain ⟨w, dw, ws, n, rfl, hd, hn, hk⟩ := hc
  show Sd K _ _ _ [.val (.str w), .val dw, .val (.int (n : Int))] _
  have eL : ∀ ρ : En, ρ[1]? = some (.val dw) → Ev K (tCB (rLenA K) (tCons (tVar 1) tNil)) ρ (.int (ws.length : Int)) := fun ρ h => by
    rw [← List.length_map (f := PyData.int) (as := ws)]
    exact a_lenQ hd (ev_var h)
  refine sd_seq (sd_ifS (b := !WEIGHEDL.contains w) (et_test (a_niS (.inr rfl) (ev_var rfl) (ev_ref T.d_WEIGHED))) (fun z => ?_) (fun z => sd_next ?_))
  · have e : wfit w ws n = decide (ws.length = 0) := by
      unfold wfit
      rw [Bool.not_eq_true'] at z
      rw [z]
      rfl
    rw [e] at hk
    exact sd_ret (Ev.is (ev_eqD (d1 := .int (ws.length : Int)) (d2 := .int 0) (eL _ rfl) ev_int rfl rfl) (by rw [eqv_int]; congr 1; exact decide_eq_decide.mpr (by omega))) hk
  · have hw : WEIGHEDL.contains w = true := by simpa using z
    have e : wfit w ws n = (decide (ws.length = n) && ws.all fun x => decide (1 ≤ x) && decide (x ≤ 1000000)) := by
      unfold wfit
      rw [hw]
      rfl
    rw [e] at hk
    by_cases hl : ws.length = n
    · have hne : ws ≠ [] := fun z => by
        rw [z] at hl
        have : (0 : Nat) = n := hl
        omega
      obtain ⟨mn, m1, m2⟩ := int_min hne
      obtain ⟨mx, x1, x2⟩ := int_max hne
      refine sd_ret (Ev.is (ev_andV (x := decide (ws.length = n)) (y := decide (1 ≤ mn) && decide (mx ≤ 1000000)) (Ev.is (ev_eqD (d1 := .int (ws.length : Int)) (d2 := .int (n : Int)) (eL _ rfl) (ev_var rfl) rfl rfl) (by rw [eqv_int]; congr 1; exact decide_eq_decide.mpr (by omega))) fun _ => ev_andV (x := decide (1 ≤ mn)) (y := decide (mx ≤ 1000000)) (v_ge (v_minQ hd (ev_var rfl) m1 m2) ev_int) fun _ => v_le (v_maxQ hd (ev_var rfl) x1 x2) ev_int) ?_) hk
      congr 2
      rw [Bool.eq_iff_iff, Bool.and_eq_true, decide_eq_true_eq, decide_eq_true_eq, List.all_eq_true]
      constructor
      · rintro ⟨h1, h2⟩ x hx
        have := m2 x hx
        have := x2 x hx
        rw [Bool.and_eq_true, decide_eq_true_eq, decide_eq_true_eq]
        omega
      · intro h
        have h1 := h mn m1
        have h2 := h mx x1
        rw [Bool.and_eq_true, decide_eq_true_eq, decide_eq_true_eq] at h1 h2
        omega
    · rw [decide_eq_false hl] at hk
      refine sd_ret (Ev.is (ev_andV (x := false) (y := true) (Ev.is (ev_eqD (d1 := .int (ws.length : Int)) (d2 := .int (n : Int)) (eL _ rfl) (ev_var rfl) rfl rfl) (by rw [eqv_int, decide_eq_false (by omega)])) fun z => nomatch z) rfl) hk
theorem sc_looked : FnScope ["way", "weights", "claims"] ["way", "weights", "claims"] (defScope s_looked) := ⟨rfl, rfl, rfl, by decide +kernel, rfl, by decide +kernel, by decide +kernel⟩
theorem ok_looked (T : Txt K mg A) (hN : base.NoSeer) (hT : P.given.tree = none) (fnN_weights_fit : OkN P w K mg base 1 "weights_fit" ["way", "weights", "many"] (spc K cWFit)) : OkN P w K mg base 2 "looked" ["way", "weights", "claims"] (spc K (cLooked A.BadWay A.BadClaim A.BadWeights)) := by
  refine T.f_looked.okN sc_looked _ (fun ds k hc => by obtain ⟨_, _, _, _, _, rfl, _⟩ := hc; rfl) (fun cdv A' outer s H vs Q E hr h => ⟨_, (pss_cons (ps_if (pt_cmpR (o_notIn (K := K)) (pv 0) (pe_glob (v := .ref A.k_WAYS) rfl T.m_WAYS rfl) (by rfl)) (pss_one (ps_raiseCN rfl (L2N.takes_of rfl rfl rfl rfl) T.c_BadWay.x T.c_BadWay.g T.c_BadWay.k T.c_BadWay.b T.c_BadWay.t rfl)) pss_nil)
  (pss_cons (ps_if (PW.pt (pw_or (pt_cmpR (o_eq (K := K) hr.units) (pe_callB (c_lenA (K := K)) (by rfl) T.z_len (by decide +kernel) (pa_cons (pv 2) pa_nil)) pe_int (nomark _)) (pw_or1 (pt_cmpR o_lt (pe_callB (c_minL (K := K) rfl) (by rfl) T.z_min (by decide +kernel) (pa_cons (pv 2) pa_nil)) pe_int (nomark _))))) (pss_one (ps_raiseCN rfl (L2N.takes_of rfl rfl rfl rfl) T.c_BadClaim.x T.c_BadClaim.g T.c_BadClaim.k T.c_BadClaim.b T.c_BadClaim.t rfl)) pss_nil)
  (pss_one (ps_if (pt_not (pt_val (pe_fnN fnN_weights_fit (hr.mono (by decide)) (L2N.takes_of rfl rfl rfl rfl) rfl (pa_cons (pv 0) (pa_cons (pv 1) (pa_cons (pe_callB (c_lenA (K := K)) (by rfl) T.z_len (by decide +kernel) (pa_cons (pv 2) pa_nil)) pa_nil)))))) (pss_one (ps_raiseCN rfl (L2N.takes_of rfl rfl rfl rfl) T.c_BadWeights.x T.c_BadWeights.g T.c_BadWeights.k T.c_BadWeights.b T.c_BadWeights.t rfl)) pss_nil)))), body_of h fun ds k hc => ?_⟩)
  obtain ⟨w, dw, dc, ws, cs, rfl, hd, hdc, h0, h1, h2, h4⟩ := hc
  show Sd K _ _ _ [.val (.str w), .val dw, .val dc] _
  have eL : ∀ ρ : En, ρ[2]? = some (.val dc) → Ev K (tCB (rLenA K) (tCons (tVar 2) tNil)) ρ (.int (cs.length : Int)) := fun ρ h => by
    rw [← List.length_map (f := PyData.int) (as := cs)]
    exact a_lenQ hdc (ev_var h)
  unfold lookC at h0 h1 h2 h4
  refine sd_seq (sd_ifS (b := !WAYSL.contains w) (et_test (a_niS (.inr rfl) (ev_var rfl) (ev_ref T.d_WAYS))) (fun z => ?_) (fun z => sd_next ?_))
  · have z' : WAYSL.contains w = false := by simpa using z
    rw [z'] at h0
    exact sd_raise (h0 rfl)
  have z' : WAYSL.contains w = true := by simpa using z
  rw [z'] at h1 h2 h4
  refine sd_seq (sd_ifS (b := badC cs) ?_ (fun z => ?_) (fun z => sd_next ?_))
  · by_cases hl : cs.length = 0
    · exact EvT.is (et_or (x := true) (y := true) (EvT.is (et_test (ev_eqD (d1 := .int (cs.length : Int)) (d2 := .int 0) (eL _ rfl) ev_int rfl rfl)) (by rw [eqv_int, decide_eq_true (by omega)])) fun z => nomatch z) (by unfold badC; rw [decide_eq_true hl]; rfl)
    · have hne : cs ≠ [] := fun z => hl (by rw [z]; rfl)
      obtain ⟨mn, m1, m2⟩ := int_min hne
      refine EvT.is (et_or (x := false) (y := decide (mn < 0)) (EvT.is (et_test (ev_eqD (d1 := .int (cs.length : Int)) (d2 := .int 0) (eL _ rfl) ev_int rfl rfl)) (by rw [eqv_int, decide_eq_false (by omega)])) fun _ => et_test (v_lt (v_minQ hdc (ev_var rfl) m1 m2) ev_int)) ?_
      unfold badC
      rw [decide_eq_false hl]
      congr 1
      rw [Bool.eq_iff_iff, decide_eq_true_eq, List.any_eq_true]
      constructor
      · intro h
        exact ⟨mn, m1, decide_eq_true h⟩
      · rintro ⟨c, hc, h⟩
        have := of_decide_eq_true h
        have := m2 c hc
        omega
  · rw [z] at h1
    exact sd_raise (h1 rfl)
  rw [z] at h2 h4
  have hlen : 1 ≤ cs.length := by
    unfold badC at z
    rw [Bool.or_eq_false_iff] at z
    have := of_decide_eq_false z.1
    omega
  refine sd_ifS (b := !wfit w ws cs.length) (et_not (et_B (ev_call (ea_cons (ev_var rfl) (ea_cons (ev_var rfl) (ea_cons (eL _ rfl) ea_nil))) (wfit_v hd hlen)))) (fun z => ?_) (fun z => sd_next ?_)
  · have z' : wfit w ws cs.length = false := by simpa using z
    rw [z'] at h2
    exact sd_raise (h2 rfl)
  · have z' : wfit w ws cs.length = true := by simpa using z
    rw [z'] at h4
    exact h4 rfl
theorem sc_common_divisor : FnScope ["one", "other", "rest"] ["one", "other"] (defScope s_common_divisor) := ⟨rfl, rfl, rfl, by decide +kernel, rfl, by decide +kernel, by decide +kernel⟩
theorem ok_common_divisor (T : Txt K mg A) (hN : base.NoSeer) (hT : P.given.tree = none)  : OkN P w K mg base 1 "common_divisor" ["one", "other"] (spc K cCommon) := by
  refine T.f_common_divisor.okN sc_common_divisor _ (fun ds k hc => by obtain ⟨_, _, rfl, _⟩ := hc; rfl) (fun cdv A' outer s H vs Q E hr h => ⟨_, (pss_cons (ps_set (i := 0) sc_common_divisor.nd rfl (by first | exact Or.inl rfl | exact Or.inr rfl) (pe_callB (c_abs) (by rfl) T.z_abs (by decide +kernel) (pa_cons (pv 0) pa_nil)))
  (pss_cons (ps_set (i := 1) sc_common_divisor.nd rfl (by first | exact Or.inl rfl | exact Or.inr rfl) (pe_callB (c_abs) (by rfl) T.z_abs (by decide +kernel) (pa_cons (pv 1) pa_nil)))
  (pss_cons (ps_while (passes_of rfl) (pt_cmpR o_gt (pv 1) pe_int (nomark _)) (pss_cons (ps_set (i := 2) sc_common_divisor.nd rfl (by first | exact Or.inl rfl | exact Or.inr rfl) (pe_op o_mod (pv 0) (pv 1)))
  (pss_cons (ps_set (i := 0) sc_common_divisor.nd rfl (by first | exact Or.inl rfl | exact Or.inr rfl) (pv 1))
  (pss_one (ps_set (i := 1) sc_common_divisor.nd rfl (by first | exact Or.inl rfl | exact Or.inr rfl) (pv 2))))))
  (pss_one (ps_ret (pv 0)))))), body_of h fun ds k hc => ?_⟩)
  obtain ⟨a, b, rfl, hk⟩ := hc
  show Sd K _ _ _ [.val (.int a), .val (.int b), .un] _
  refine sd_seq (sd_set (by walk_at "ev") ?_)
  refine sd_seq (sd_set (by walk_at "ev") ?_)
  refine sd_seq ?_
  refine sd_while (fun ρ => ∃ (x y : Int) (z : Sl), ρ = [.val (.int x), .val (.int y), z] ∧ 0 ≤ y ∧ Int.gcd x y = Int.gcd a b ∧ 0 ≤ x) (fun ρ => match ρ with | [_, .val (.int y), _] => y.toNat | _ => 0) ⟨_, _, _, rfl, by omega, rfl, by omega⟩ ?_
  rintro ρ ⟨x, y, z, rfl, hy, hg, hx⟩
  refine ⟨_, by walk_at "ev", fun hb => ?_, fun hb => ?_⟩
  · have hy0 : 0 < y := of_decide_eq_true hb
    refine sd_seq (sd_set (by walk_at "ev") ?_)
    refine sd_seq (sd_set (by walk_at "ev") ?_)
    refine sd_set (by walk_at "ev") ?_
    refine ⟨⟨_, _, _, rfl, Int.emod_nonneg _ (by omega), ?_, hy⟩, ?_⟩
    · rw [← hg]
      exact gcd_step hx hy
    · show (x % y).toNat < y.toNat
      have := Int.emod_lt_of_pos x hy0
      omega
  · have hy0 : ¬ 0 < y := of_decide_eq_false hb
    have ey : y = 0 := by omega
    subst ey
    refine sd_ret (by walk_at "ev") ?_
    show k.rt _
    have e : (x : Int) = (Int.gcd a b : Int) := by
      rw [← hg, Int.gcd_zero]
      omega
    rw [e]
    exact hk
theorem sc_made : FnScope ["top", "bottom", "by"] ["top", "bottom"] (defScope s_made) := ⟨rfl, rfl, rfl, by decide +kernel, rfl, by decide +kernel, by decide +kernel⟩
theorem ok_made (T : Txt K mg A) (hN : base.NoSeer) (hT : P.given.tree = none) (fnN_common_divisor : OkN P w K mg base 1 "common_divisor" ["one", "other"] (spc K cCommon)) : OkN P w K mg base 40 "made" ["top", "bottom"] (spc K (cMade A.NoFraction)) := by
  refine T.f_made.okN sc_made _ (fun ds k hc => by obtain ⟨_, _, rfl, _⟩ := hc; rfl) (fun cdv A' outer s H vs Q E hr h => ⟨_, (pss_cons (ps_if (pt_cmpR (o_eq (K := K) hr.units) (pv 1) pe_int (nomark _)) (pss_one (ps_raiseCN rfl (L2N.takes_of rfl rfl rfl rfl) T.c_NoFraction.x T.c_NoFraction.g T.c_NoFraction.k T.c_NoFraction.b T.c_NoFraction.t rfl)) pss_nil)
  (pss_cons (ps_set (i := 2) sc_made.nd rfl (by first | exact Or.inl rfl | exact Or.inr rfl) (pe_fnN fnN_common_divisor (hr.mono (by decide)) (L2N.takes_of rfl rfl rfl rfl) rfl (pa_cons (pv 0) (pa_cons (pv 1) pa_nil))))
  (pss_cons (ps_if (pt_cmpR o_lt (pv 1) pe_int (nomark _)) (pss_one (ps_set (i := 2) sc_made.nd rfl (by first | exact Or.inl rfl | exact Or.inr rfl) (pe_un o_neg (pv 2)))) pss_nil)
  (pss_one (ps_ret (pe_tup (pa_cons (pe_op (o_fdivA hN hT rfl sc_made.gen sc_made.co (hr.mono (by decide))) (pv 0) (pv 2)) (pa_cons (pe_op (o_fdivA hN hT rfl sc_made.gen sc_made.co (hr.mono (by decide))) (pv 1) (pv 2)) pa_nil)))))))), body_of h fun ds k hc => ?_⟩)
  obtain ⟨a, b, rfl, hk0, hk1⟩ := hc
  show Sd K _ _ _ [.val (.int a), .val (.int b), .un] _
  refine sd_seq (sd_ifS (by walk_at "ev") (fun hb => ?_) (fun hb => ?_))
  · exact sd_raise (hk0 (eq_of_eqv hb))
  have hb0 : b ≠ 0 := ne_of_eqv hb
  have hk := hk1 hb0
  have hg := gcd_ne (a := a) hb0
  refine sd_next ?_
  refine sd_seq (sd_set (ev_call (ds := [.int a, .int b]) (by walk_at "ev") ⟨a, b, rfl, rfl⟩) ?_)
  refine sd_seq (sd_ifS (by walk_at "ev") (fun hb => ?_) (fun hb => ?_))
  · have hn : b < 0 := of_decide_eq_true hb
    refine sd_set (by walk_at "ev") ?_
    refine sd_ret (d := .tuple [.int (a.fdiv (-(Int.gcd a b : Int))), .int (b.fdiv (-(Int.gcd a b : Int)))]) (by walk_at "ev") ?_
    have e := divInt_neg_num (a := a) hn
    unfold fr at hk
    rw [e.1, e.2] at hk
    exact hk
  · have hn : ¬ b < 0 := of_decide_eq_false hb
    refine sd_next ?_
    refine sd_ret (d := .tuple [.int (a / (Int.gcd a b : Int)), .int (b / (Int.gcd a b : Int))]) (by walk_at "ev") ?_
    unfold fr at hk
    rw [divInt_num_pos (by omega), divInt_den_pos (by omega)] at hk
    exact hk
theorem sc_less : FnScope ["one", "two"] ["one", "two"] (defScope s_less) := ⟨rfl, rfl, rfl, by decide +kernel, rfl, by decide +kernel, by decide +kernel⟩
theorem ok_less (T : Txt K mg A) (hN : base.NoSeer) (hT : P.given.tree = none)  : OkN P w K mg base 1 "less" ["one", "two"] (spc K cLess) := by
  refine T.f_less.okN sc_less _ (fun ds k hc => by obtain ⟨_, _, _, _, rfl, _⟩ := hc; rfl) (fun cdv A' outer s H vs Q E hr h => ⟨_, (pss_one (ps_ret (pe_cmpR o_lt (pe_op o_mul (pe_ix (i_any (K := K)) (pv 0) pe_int (fun _ _ => rfl)) (pe_ix (i_any (K := K)) (pv 1) pe_int (fun _ _ => rfl))) (pe_op o_mul (pe_ix (i_any (K := K)) (pv 1) pe_int (fun _ _ => rfl)) (pe_ix (i_any (K := K)) (pv 0) pe_int (fun _ _ => rfl))) (nomark _)))), body_of h fun ds k hc => ?_⟩)
  obtain ⟨p, q, a, b, rfl, hp, hq, hab, hk⟩ := hc
  show Sd K _ _ _ [.val (.tuple [.int p.num, .int (p.den : Int)]), .val (.tuple [.int q.num, .int (q.den : Int)])] _
  have c1 : CMulB p.num (q.den : Int) := cmul_of hp.1 (j := (q.den : Int)) hq.2 (by omega)
  have c2 : CMulB q.num (p.den : Int) := cmul_of hq.1 (j := (p.den : Int)) hp.2 (by omega)
  have e : decide (p < q) = decide (p.num * (q.den : Int) < q.num * (p.den : Int)) := by
    simp only [Rat.lt_iff]
  rw [e] at hk
  exact sd_ret (by walk_at "ev") hk
theorem sc_minus : FnScope ["one", "two"] ["one", "two"] (defScope s_minus) := ⟨rfl, rfl, rfl, by decide +kernel, rfl, by decide +kernel, by decide +kernel⟩
theorem ok_minus (T : Txt K mg A) (hN : base.NoSeer) (hT : P.given.tree = none) (fnN_made : OkN P w K mg base 40 "made" ["top", "bottom"] (spc K (cMade A.NoFraction))) : OkN P w K mg base 41 "minus" ["one", "two"] (spc K cMinus) := by
  refine T.f_minus.okN sc_minus _ (fun ds k hc => by obtain ⟨_, _, _, _, rfl, _⟩ := hc; rfl) (fun cdv A' outer s H vs Q E hr h => ⟨_, (pss_one (ps_ret (pe_fnN fnN_made (hr.mono (by decide)) (L2N.takes_of rfl rfl rfl rfl) rfl (pa_cons (pe_op o_sub (pe_op o_mul (pe_ix (i_any (K := K)) (pv 0) pe_int (fun _ _ => rfl)) (pe_ix (i_any (K := K)) (pv 1) pe_int (fun _ _ => rfl))) (pe_op o_mul (pe_ix (i_any (K := K)) (pv 1) pe_int (fun _ _ => rfl)) (pe_ix (i_any (K := K)) (pv 0) pe_int (fun _ _ => rfl)))) (pa_cons (pe_op o_mul (pe_ix (i_any (K := K)) (pv 0) pe_int (fun _ _ => rfl)) (pe_ix (i_any (K := K)) (pv 1) pe_int (fun _ _ => rfl))) pa_nil))))), body_of h fun ds k hc => ?_⟩)
  obtain ⟨p, q, a, b, rfl, hp, hq, hab, hk⟩ := hc
  show Sd K _ _ _ [.val (.tuple [.int p.num, .int (p.den : Int)]), .val (.tuple [.int q.num, .int (q.den : Int)])] _
  have c1 : CMulB p.num (q.den : Int) := cmul_of hp.1 (j := (q.den : Int)) hq.2 (by omega)
  have c2 : CMulB q.num (p.den : Int) := cmul_of hq.1 (j := (p.den : Int)) hp.2 (by omega)
  have c3 : CMulB (p.den : Int) (q.den : Int) := cmul_of (i := (p.den : Int)) hp.2 (j := (q.den : Int)) hq.2 (by omega)
  have hm : cMade A.NoFraction [.int (p.num * (q.den : Int) - q.num * (p.den : Int)), .int ((p.den : Int) * (q.den : Int))] (kv (fr (p - q))) := by
    have z := made_v (C := A.NoFraction) (a := p.num * (q.den : Int) - q.num * (p.den : Int)) (mul_ne (den_ne p) (den_ne q))
    rw [minus_eq] at z
    exact z
  exact sd_ret (by walk_at "ev") hk
theorem sc_times : FnScope ["one", "two"] ["one", "two"] (defScope s_times) := ⟨rfl, rfl, rfl, by decide +kernel, rfl, by decide +kernel, by decide +kernel⟩
theorem ok_times (T : Txt K mg A) (hN : base.NoSeer) (hT : P.given.tree = none) (fnN_made : OkN P w K mg base 40 "made" ["top", "bottom"] (spc K (cMade A.NoFraction))) : OkN P w K mg base 41 "times" ["one", "two"] (spc K cTimes) := by
  refine T.f_times.okN sc_times _ (fun ds k hc => by obtain ⟨_, _, _, _, rfl, _⟩ := hc; rfl) (fun cdv A' outer s H vs Q E hr h => ⟨_, (pss_one (ps_ret (pe_fnN fnN_made (hr.mono (by decide)) (L2N.takes_of rfl rfl rfl rfl) rfl (pa_cons (pe_op o_mul (pe_ix (i_any (K := K)) (pv 0) pe_int (fun _ _ => rfl)) (pe_ix (i_any (K := K)) (pv 1) pe_int (fun _ _ => rfl))) (pa_cons (pe_op o_mul (pe_ix (i_any (K := K)) (pv 0) pe_int (fun _ _ => rfl)) (pe_ix (i_any (K := K)) (pv 1) pe_int (fun _ _ => rfl))) pa_nil))))), body_of h fun ds k hc => ?_⟩)
  obtain ⟨p, q, a, b, rfl, hp, hq, hab, hk⟩ := hc
  show Sd K _ _ _ [.val (.tuple [.int p.num, .int (p.den : Int)]), .val (.tuple [.int q.num, .int (q.den : Int)])] _
  have c4 : CMulB p.num q.num := cmul_of hp.1 hq.1 (by omega)
  have c3 : CMulB (p.den : Int) (q.den : Int) := cmul_of (i := (p.den : Int)) hp.2 (j := (q.den : Int)) hq.2 (by omega)
  have hm : cMade A.NoFraction [.int (p.num * q.num), .int ((p.den : Int) * (q.den : Int))] (kv (fr (p * q))) := by
    have z := made_v (C := A.NoFraction) (a := p.num * q.num) (mul_ne (den_ne p) (den_ne q))
    rw [times_eq] at z
    exact z
  exact sd_ret (by walk_at "ev") hk
theorem sc_by_fullness : FnScope ["weights", "claims", "places", "place", "at"] ["weights", "claims"] (defScope s_by_fullness) := ⟨rfl, rfl, rfl, by decide +kernel, rfl, by decide +kernel, by decide +kernel⟩
theorem ok_by_fullness (T : Txt K mg A) (hN : base.NoSeer) (hT : P.given.tree = none)  : OkN P w K mg base 1 "by_fullness" ["weights", "claims"] (spc K cByFull) := by
  refine T.f_by_fullness.okN sc_by_fullness _ (fun ds k hc => by obtain ⟨_, _, _, _, _, rfl, _⟩ := hc; rfl) (fun cdv A' outer s H vs Q E hr h => ⟨_, (pss_cons (ps_set (i := 2) sc_by_fullness.nd rfl (by first | exact Or.inl rfl | exact Or.inr rfl) (pe_lst pa_nil))
  (pss_cons (ps_for (passes_of rfl) rfl (pi_range1 rfl T.z_range (pa_cons (pe_callB (c_lenA (K := K)) (by rfl) T.z_len (by decide +kernel) (pa_cons (pv 1) pa_nil)) pa_nil)) (pg_name (i := 3) sc_by_fullness.nd rfl (by first | exact Or.inl rfl | exact Or.inr rfl)) (pss_cons (ps_set (i := 4) sc_by_fullness.nd rfl (by first | exact Or.inl rfl | exact Or.inr rfl) pe_int)
  (pss_cons (ps_while (passes_of rfl) (PW.pt (pw_and (pt_cmpR o_lt (pv 4) (pe_callB (c_lenA (K := K)) (by rfl) T.z_len (by decide +kernel) (pa_cons (pv 2) pa_nil)) (nomark _)) (pw_and1 (pt_cmpR o_le (pe_op o_mul (pe_ix (i_any (K := K)) (pv 1) (pe_ix (i_any (K := K)) (pv 2) (pv 4) (fun _ _ => rfl)) (fun _ _ => rfl)) (pe_ix (i_any (K := K)) (pv 0) (pv 3) (fun _ _ => rfl))) (pe_op o_mul (pe_ix (i_any (K := K)) (pv 1) (pv 3) (fun _ _ => rfl)) (pe_ix (i_any (K := K)) (pv 0) (pe_ix (i_any (K := K)) (pv 2) (pv 4) (fun _ _ => rfl)) (fun _ _ => rfl))) (nomark _))))) (pss_one (ps_set (i := 4) sc_by_fullness.nd rfl (by first | exact Or.inl rfl | exact Or.inr rfl) (pe_op (o_plus (K := K)) (pv 4) pe_int))))
  (pss_one (ps_expr (b_m (K := K) PySem.F.plainAttrs_list PySem.F.slot_list_insert PySem.F.type_list_insert m_insert (pv 2) (pa_cons (pv 4) (pa_cons (pv 3) pa_nil))))))))
  (pss_one (ps_ret (pv 2))))), body_of h fun ds k hc => ?_⟩)
  obtain ⟨dw, dc, ws, cs, B, rfl, hd, hdc, hl, hn, hws, hcs, hB, hk⟩ := hc
  show Sd K _ _ _ [.val dw, .val dc, .un, .un, .un] _
  refine sd_seq (sd_own (by walk_at "ef") ?_)
  have eL : ∀ ρ : En, ρ[1]? = some (.val dc) → Ev K (tCB (rLenA K) (tCons (tVar 1) tNil)) ρ (.int (cs.length : Int)) := fun ρ h => by
    rw [← List.length_map (f := PyData.int) (as := cs)]
    exact a_lenQ hdc (ev_var h)
  obtain ⟨le, hle⟩ : ∃ le, le = fullLe (qlist ws) (qlist cs) := ⟨_, rfl⟩
  refine sd_seq (sd_for (fun i ρ => ∃ z3 z4, ρ = [.val dw, .val dc, .own (natD (byF le i)), z3, z4]) (id_rng1 (ea_cons (eL _ rfl) ea_nil) (by omega) (by omega)) ⟨_, _, rfl⟩ ?_ ?_)
  · rintro i d ρ' hdd ⟨z3, z4, rfl⟩
    obtain ⟨hi, rfl⟩ := rangeD_get hdd
    have hi : i < cs.length := by omega
    refine ⟨_, gd_name, ?_⟩
    have hpl := byF_len le i
    have hpm : ∀ p, p ∈ byF le i → p < i := fun p hp => List.mem_range.mp ((byF_perm le i).mem_iff.mp hp)
    have eQ := byF_succ le i
    generalize byF le i = P at hpl hpm eQ
    refine sd_seq (sd_set (d := .int ((0 : Nat) : Int)) ev_int ?_)
    have ic := iD_at hi
    have iw := iD_at (ns := ws) (i := i) (by omega)
    refine sd_seq (sd_while (fun ρ => ∃ j : Nat, ρ = [.val dw, .val dc, .own (natD P), .val (.int (0 + (i : Int))), .val (.int (j : Int))] ∧ j ≤ P.length ∧ ∀ (m y : Nat), m < j → P[m]? = some y → le y i = true) (fun ρ => match ρ with | [_, _, _, _, .val (.int y)] => P.length - y.toNat | _ => 0) ⟨0, rfl, Nat.zero_le _, fun m y hm => absurd hm (by omega)⟩ ?_)
    rintro ρ ⟨j, rfl, hj, hle'⟩
    have eP : ∀ ρ : En, ρ[2]? = some (.own (natD P)) → Ev K (tCB (rLenA K) (tCons (tVar 2) tNil)) ρ (.int (P.length : Int)) := fun ρ h => by
      rw [← natD_len P]; exact a_lenL (evl_own h)
    cases hpj : P[j]? with
    | none =>
      have hjl : P.length ≤ j := List.getElem?_eq_none_iff.mp hpj
      refine ⟨false, EvT.is (et_and (x := decide ((j : Int) < (P.length : Int))) (y := true) (et_test (v_lt (ev_var rfl) (eP _ rfl))) fun z => absurd (of_decide_eq_true z) (by omega)) (by rw [decide_eq_false (by omega)]; rfl), (fun z => nomatch z), fun _ => ?_⟩
      refine sd_insert (d := .int (i : Int)) rfl (ev_var rfl) (Ev.is (ev_var rfl) (congrArg PyData.int (Int.zero_add (i : Int)))) (by rw [natD_len]; omega) (by omega) ⟨.val (.int (0 + (i : Int))), .val (.int (j : Int)), ?_⟩
      rw [eQ, insF_cut P j hj hle' fun y hy => by rw [hpj] at hy; cases hy]
      unfold natD
      rw [List.map_append, List.map_append, List.map_take, List.map_drop]
      rfl
    | some p =>
      have hjl := getElem?_lt hpj
      have hp := hpm p (List.mem_of_getElem? hpj)
      have pc := iD_at (ns := cs) (i := p) (by omega)
      have pw := iD_at (ns := ws) (i := p) (by omega)
      have eV : ∀ ρ : En, ρ[2]? = some (.own (natD P)) → ρ[4]? = some (.val (.int (j : Int))) → Ev K (tOp (rIx K) (tVar 2) (tVar 4)) ρ (.int (p : Int)) := fun ρ h h4 => ev_ixSL (evl_own h) (ev_var h4) (natD_at rfl hpj)
      have c1 : CMulB (iD cs p) (iD ws i) := cmul_of (small_iD hcs p) (small_iD hws i) (by omega)
      have c2 : CMulB (iD cs i) (iD ws p) := cmul_of (small_iD hcs i) (small_iD hws p) (by omega)
      refine ⟨le p i, EvT.is (et_and (x := decide ((j : Int) < (P.length : Int))) (y := decide (iD cs p * iD ws i ≤ iD cs i * iD ws p)) (et_test (v_lt (ev_var rfl) (eP _ rfl))) fun _ => et_test (v_le (v_mul (ev_ixQ hdc (ev_var rfl) (eV _ rfl rfl) (ints_at rfl pc)) (ev_ixQ hd (ev_var rfl) (ev_var rfl) (ints_at (by omega) iw)) c1) (v_mul (ev_ixQ hdc (ev_var rfl) (ev_var rfl) (ints_at (by omega) ic)) (ev_ixQ hd (ev_var rfl) (eV _ rfl rfl) (ints_at rfl pw)) c2))) (by rw [decide_eq_true (by omega), Bool.true_and, hle, fullLe_int]), fun z => ?_, fun z => ?_⟩
      · refine sd_set (a_add (ev_var rfl) ev_int) ⟨⟨j + 1, rfl, by omega, fun m y hm hy => ?_⟩, ?_⟩
        · by_cases e : m = j
          · subst e
            rw [hpj] at hy
            obtain rfl := Option.some.inj hy
            exact z
          · exact hle' m y (by omega) hy
        · show P.length - ((j : Int) + 1).toNat < P.length - (j : Int).toNat
          omega
      · refine sd_insert (d := .int (i : Int)) rfl (ev_var rfl) (Ev.is (ev_var rfl) (congrArg PyData.int (Int.zero_add (i : Int)))) (by rw [natD_len]; omega) (by omega) ⟨.val (.int (0 + (i : Int))), .val (.int (j : Int)), ?_⟩
        rw [eQ, insF_cut P j hj hle' fun y hy => by rw [hpj] at hy; obtain rfl := Option.some.inj hy; exact z]
        unfold natD
        rw [List.map_append, List.map_append, List.map_take, List.map_drop]
        rfl
  · rintro ρ ⟨z3, z4, rfl⟩
    rw [rangeD_len, show ((cs.length : Int)).toNat = cs.length by omega]
    have e : byF le cs.length = bySort ws cs := by rw [hle]; unfold bySort; rfl
    rw [e]
    exact sd_reto rfl hk
theorem sc_even_dealt : FnScope ["weights", "claims", "catch", "shares", "left", "rest", "places", "k", "place", "other", "claim"] ["weights", "claims", "catch"] (defScope s_even_dealt) := ⟨rfl, rfl, rfl, by decide +kernel, rfl, by decide +kernel, by decide +kernel⟩
theorem ok_even_dealt (T : Txt K mg A) (hN : base.NoSeer) (hT : P.given.tree = none) (fnN_made : OkN P w K mg base 40 "made" ["top", "bottom"] (spc K (cMade A.NoFraction))) (fnN_by_fullness : OkN P w K mg base 1 "by_fullness" ["weights", "claims"] (spc K cByFull)) (fnN_less : OkN P w K mg base 1 "less" ["one", "two"] (spc K cLess)) (fnN_times : OkN P w K mg base 41 "times" ["one", "two"] (spc K cTimes)) (fnN_minus : OkN P w K mg base 41 "minus" ["one", "two"] (spc K cMinus)) : OkN P w K mg base 42 "even_dealt" ["weights", "claims", "catch"] (spc K cEven) := by
  refine T.f_even_dealt.okN sc_even_dealt _ (fun ds k hc => by obtain ⟨_, _, _, _, _, _, _, rfl, _⟩ := hc; rfl) (fun cdv A' outer s H vs Q E hr h => ⟨_, (pss_cons (by first | exact (ps_setLc (i := 3) (own := [("claim", 10)]) rfl sc_even_dealt.nd rfl rfl (sw_true rfl rfl rfl (by decide +kernel)) (w_seq (K := K) (pv 1)) (blkOk_by (N := ["weights", "claims", "catch", "shares", "left", "rest", "places", "k", "place", "other", "claim"]) (sc := defScope s_even_dealt) (by decide +kernel)) (fun _ _ _ _ _ => (pg_name (i := 10) sc_even_dealt.nd rfl (by first | exact Or.inl rfl | exact Or.inr rfl))) (fun _ _ _ _ _ => pts_nil) (fun _ _ _ _ _ => (pe_fnN fnN_made (hr.mono (by decide)) takes0N rfl (pa_cons (pv 10) (pa_cons pe_int pa_nil))))) | exact (ps_set (i := 3) sc_even_dealt.nd rfl (by first | exact Or.inl rfl | exact Or.inr rfl) (pe_lc (own := [("claim", 10)]) rfl sc_even_dealt.nd (w_seq (K := K) (pv 1)) (blkOk_by (N := ["weights", "claims", "catch", "shares", "left", "rest", "places", "k", "place", "other", "claim"]) (sc := defScope s_even_dealt) (by decide +kernel)) (fun _ _ _ _ _ => (pg_name (i := 10) sc_even_dealt.nd rfl (by first | exact Or.inl rfl | exact Or.inr rfl))) (fun _ _ _ _ _ => pts_nil) (fun _ _ _ _ _ => (pe_fnN fnN_made (hr.mono (by decide)) takes0N rfl (pa_cons (pv 10) (pa_cons pe_int pa_nil)))))))
  (pss_cons (ps_set (i := 4) sc_even_dealt.nd rfl (by first | exact Or.inl rfl | exact Or.inr rfl) (pv 2))
  (pss_cons (ps_set (i := 5) sc_even_dealt.nd rfl (by first | exact Or.inl rfl | exact Or.inr rfl) (pe_callB (c_sumA (K := K) rfl) (by rfl) T.z_sum (by decide +kernel) (pa_cons (pv 0) pa_nil)))
  (pss_cons (ps_set (i := 6) sc_even_dealt.nd rfl (by first | exact Or.inl rfl | exact Or.inr rfl) (pe_fnN fnN_by_fullness (hr.mono (by decide)) (L2N.takes_of rfl rfl rfl rfl) rfl (pa_cons (pv 0) (pa_cons (pv 1) pa_nil))))
  (pss_cons (ps_for (passes_of rfl) rfl (w_enum (K := K) rfl T.z_enumerate (pa_cons (pv 6) pa_nil)) (g_tup (n := 2) (K := K) rfl (pgs_cons (pg_name (i := 7) sc_even_dealt.nd rfl (by first | exact Or.inl rfl | exact Or.inr rfl)) (pgs_cons (pg_name (i := 8) sc_even_dealt.nd rfl (by first | exact Or.inl rfl | exact Or.inr rfl)) pgs_nil))) (pss_cons (ps_if (pt_val (pe_fnN fnN_less (hr.mono (by decide)) (L2N.takes_of rfl rfl rfl rfl) rfl (pa_cons (pe_fnN fnN_times (hr.mono (by decide)) (L2N.takes_of rfl rfl rfl rfl) rfl (pa_cons (pe_fnN fnN_made (hr.mono (by decide)) (L2N.takes_of rfl rfl rfl rfl) rfl (pa_cons (pe_ix (i_any (K := K)) (pv 0) (pv 8) (fun _ _ => rfl)) (pa_cons pe_int pa_nil))) (pa_cons (pv 4) pa_nil))) (pa_cons (pe_fnN fnN_made (hr.mono (by decide)) (L2N.takes_of rfl rfl rfl rfl) rfl (pa_cons (pe_op o_mul (pe_ix (i_any (K := K)) (pv 1) (pv 8) (fun _ _ => rfl)) (pv 5)) (pa_cons pe_int pa_nil))) pa_nil)))) (pss_cons (ps_for (passes_of rfl) rfl (w_seq (K := K) (pe_slice (s_any (K := K)) (pv 6) (po_some (pv 7)) po_none)) (pg_name (i := 9) sc_even_dealt.nd rfl (by first | exact Or.inl rfl | exact Or.inr rfl)) (pss_one (ps_asg (pe_fnN fnN_times (hr.mono (by decide)) (L2N.takes_of rfl rfl rfl rfl) rfl (pa_cons (pe_fnN fnN_made (hr.mono (by decide)) (L2N.takes_of rfl rfl rfl rfl) rfl (pa_cons (pe_ix (i_any (K := K)) (pv 0) (pv 9) (fun _ _ => rfl)) (pa_cons (pv 5) pa_nil))) (pa_cons (pv 4) pa_nil))) (pg_sub (pv 3) (pv 9) set_list))))
  (pss_one (ps_ret (pv 3)))) pss_nil)
  (pss_cons (ps_set (i := 4) sc_even_dealt.nd rfl (by first | exact Or.inl rfl | exact Or.inr rfl) (pe_fnN fnN_minus (hr.mono (by decide)) (L2N.takes_of rfl rfl rfl rfl) rfl (pa_cons (pv 4) (pa_cons (pe_fnN fnN_made (hr.mono (by decide)) (L2N.takes_of rfl rfl rfl rfl) rfl (pa_cons (pe_ix (i_any (K := K)) (pv 1) (pv 8) (fun _ _ => rfl)) (pa_cons pe_int pa_nil))) pa_nil))))
  (pss_one (ps_set (i := 5) sc_even_dealt.nd rfl (by first | exact Or.inl rfl | exact Or.inr rfl) (pe_op o_sub (pv 5) (pe_ix (i_any (K := K)) (pv 0) (pv 8) (fun _ _ => rfl))))))))
  (pss_one (ps_ret (pv 3)))))))), body_of h fun ds k hc => ?_⟩)
  obtain ⟨dw, dc, ws, cs, q, B, n, rfl, hd, hdc, hl, hn, hpos, hws, hcs, hB, hq, hB2, hn2, hk⟩ := hc
  show Sd K _ _ _ [.val dw, .val dc, .val (fr q), .un, .un, .un, .un, .un, .un, .un, .un] _
  have hfr : fls (qlist cs) = cs.map fun c : Int => fr (c : Rat) := by unfold fls qlist; rw [List.map_map]; rfl
  refine sd_seq (sd_own (ds := fls (qlist cs)) ?_ ?_)
  · rw [hfr]
    exact f_mapA (enc := PyData.int) _ (w_seqQ hdc (ev_var rfl)) (gw_name (by decide)) (fun i c hc => ⟨_, gd_name, ev_call (ea_cons (ev_var rfl) (ea_cons ev_int ea_nil)) made1_v⟩) (by omega)
  refine sd_seq (sd_set (ev_var rfl) ?_)
  refine sd_seq (sd_set (v_sumQ hd (ev_var rfl)) ?_)
  have hbf := byFull_v hd hdc hl (by omega) hws hcs (by omega)
  refine sd_seq (sd_set (d := .list (natD (bySort ws cs))) (EvF.v (evf_call (ea_cons (ev_var rfl) (ea_cons (ev_var rfl) ea_nil)) hbf)) ?_)
  have hperm := byF_perm (fullLe (qlist ws) (qlist cs)) cs.length
  have hmem : ∀ p, p ∈ bySort ws cs → p < cs.length := fun p hp => List.mem_range.mp (hperm.mem_iff.mp hp)
  have hplen : (bySort ws cs).length = cs.length := byF_len _ _
  have hev : evenGo (qlist ws) (qlist cs) (bySort ws cs) q (qsum (qlist ws)) (qlist cs) = evenD (qlist ws) (qlist cs) q := by
    unfold evenD bySort
    rw [qlist_len]
  have hsum0 : psum (gD (qlist ws)) (bySort ws cs) = qsum (qlist ws) := by
    have e : psum (gD (qlist ws)) (bySort ws cs) = psum (gD (qlist ws)) (List.range cs.length) := qsum_perm (hperm.map _)
    rw [e, ← hl, ← qlist_len ws, qsum_range]
  generalize bySort ws cs = P at hbf hmem hplen hev hsum0
  have hs8 := sum_lt hws (by omega)
  have hwp : ∀ p, p < cs.length → 0 < iD ws p := fun p hp => hpos _ (List.mem_of_getElem? (iD_at (by omega)))
  refine sd_seq (sd_for (fun i ρ => ∃ (left : Rat) (rest : Int) (z7 z8 z9 : Sl), ρ = [.val dw, .val dc, .val (fr q), .own (fls (qlist cs)), .val (fr left), .val (.int rest), .val (.list (natD P)), z7, z8, z9, .un] ∧ i ≤ P.length ∧ bt left (n + i * (B + 1)) ∧ rest.natAbs < 2 ^ (B + 8) ∧ (rest : Rat) = psum (gD (qlist ws)) (P.drop i) ∧ evenGo (qlist ws) (qlist cs) (P.drop i) left (rest : Rat) (qlist cs) = evenD (qlist ws) (qlist cs) q) (id_enumL (ea_cons (ev_var rfl) ea_nil)) ⟨q, ws.sum, _, _, _, rfl, Nat.zero_le _, hq.mono (by omega), hs8, by rw [List.drop_zero, hsum0, qlist_sum], by rw [List.drop_zero, ← qlist_sum]; exact hev⟩ ?_ ?_)
  · rintro i d ρ' hdd ⟨left, rest, z7, z8, z9, rfl, hi, hbl, hrb, hrs, hgo⟩
    obtain ⟨x, hx, rfl⟩ := enumD_at hdd
    obtain ⟨p, hp, rfl⟩ : ∃ p, P[i]? = some p ∧ x = .int (p : Int) := by
      unfold natD at hx
      rw [List.getElem?_map] at hx
      cases e : P[i]? with
      | none => rw [e] at hx; cases hx
      | some p => rw [e] at hx; exact ⟨p, rfl, (Option.some.inj hx).symm⟩
    refine ⟨_, gd_tup2 gd_name gd_name, ?_⟩
    have hil := getElem?_lt hp
    have hdrop : P.drop i = p :: P.drop (i + 1) := (List.drop_eq_getElem_cons hil).trans (by rw [(List.getElem?_eq_some_iff.mp hp).2])
    rw [hdrop] at hrs hgo
    have hpl := hmem p (List.mem_of_getElem? hp)
    have pc := iD_at (ns := cs) (i := p) (by omega)
    have pw := iD_at (ns := ws) (i := p) (by omega)
    have im : i * (B + 1) ≤ 64 * (B + 1) := Nat.mul_le_mul_right _ (by omega)
    have eW : ∀ ρ : En, ρ[0]? = some (.val dw) → ρ[8]? = some (.val (.int (p : Int))) → Ev K (tOp (rIx K) (tVar 0) (tVar 8)) ρ (.int (iD ws p)) := fun ρ h h8 => ev_ixQ hd (ev_var h) (ev_var h8) (ints_at rfl pw)
    have eC : ∀ ρ : En, ρ[1]? = some (.val dc) → ρ[8]? = some (.val (.int (p : Int))) → Ev K (tOp (rIx K) (tVar 1) (tVar 8)) ρ (.int (iD cs p)) := fun ρ h h8 => ev_ixQ hdc (ev_var h) (ev_var h8) (ints_at rfl pc)
    have bw := bt_int (small_iD hws p) hB
    have bc := bt_int (small_iD hcs p) hB
    have c1 : CMulB (iD cs p) rest := cmul_of (small_iD hcs p) hrb (by omega)
    have t1 := times_v bw hbl (by omega)
    have hcr : (iD cs p * rest).natAbs < 2 ^ (2 * B + 8) := Nat.lt_of_lt_of_le (abs_mul_lt (small_iD hcs p) hrb) (Nat.pow_le_pow_right (by decide) (by omega))
    have bcr := bt_int hcr (by omega)
    have l1 := less_v (bt_times bw hbl) bcr (by omega)
    have hrpos : 0 < rest := by
      have h0 : (0 : Rat) < (rest : Rat) := by
        rw [hrs]
        refine psum_pos (fun x hx => ?_) (by simp)
        have hxl : x < cs.length := hmem x (by
          rcases List.mem_cons.mp hx with rfl | hx
          · exact List.mem_of_getElem? hp
          · exact List.mem_of_mem_drop hx)
        rw [gD_qlist]
        exact_mod_cast hwp x hxl
      exact_mod_cast h0
    unfold evenGo at hgo
    rw [gD_qlist, gD_qlist] at hgo
    have hcast : ((iD cs p : Int) : Rat) * (rest : Rat) = ((iD cs p * rest : Int) : Rat) := (Rat.intCast_mul _ _).symm
    rw [hcast] at hgo
    refine sd_seq (sd_ifS (b := decide (((iD ws p : Int) : Rat) * left < ((iD cs p * rest : Int) : Rat))) (et_B (ev_call (ea_cons (ev_call (ea_cons (ev_call (ea_cons (eW _ rfl rfl) (ea_cons ev_int ea_nil)) made1_v) (ea_cons (ev_var rfl) ea_nil)) t1) (ea_cons (ev_call (ea_cons (v_mul (eC _ rfl rfl) (ev_var rfl) c1) (ea_cons ev_int ea_nil)) made1_v) ea_nil)) l1)) (fun z => ?_) (fun z => sd_next ?_))
    · rw [if_pos (of_decide_eq_true z)] at hgo
      have hr0 : rest ≠ 0 := by omega
      have brest := bt_int hrb (by omega)
      refine sd_seq (sd_for (ds := natD (P.drop i)) (fun j ρ => ∃ z9 : Sl, ρ = [.val dw, .val dc, .val (fr q), .own (fls (Pu.fillAll (qlist ws) (left / (rest : Rat)) (qlist cs) ((P.drop i).take j))), .val (fr left), .val (.int rest), .val (.list (natD P)), .val (.int (i : Int)), .val (.int (p : Int)), z9, .un]) ?_ ⟨_, rfl⟩ ?_ ?_)
      · have e : natD (P.drop i) = cutD (natD P) (some (i : Int)) none := by
          rw [cut_from]
          unfold natD
          rw [List.map_drop]
        rw [e]
        exact w_list (EvF.v (a_slL (ev_var rfl).l (o_some (ev_var rfl)) o_none))
      · rintro j d ρ' hdj ⟨z9, rfl⟩
        obtain ⟨o, ho, rfl⟩ : ∃ o, (P.drop i)[j]? = some o ∧ d = .int (o : Int) := by
          unfold natD at hdj
          rw [List.getElem?_map] at hdj
          cases e : (P.drop i)[j]? with
          | none => rw [e] at hdj; cases hdj
          | some p => rw [e] at hdj; exact ⟨p, rfl, (Option.some.inj hdj).symm⟩
        refine ⟨_, gd_name, ?_⟩
        have hol := hmem o (List.mem_of_mem_drop (List.mem_of_getElem? ho))
        have ow := iD_at (ns := ws) (i := o) (by omega)
        have bo := bt_int (small_iD hws o) hB
        have hm2 : cMade A.NoFraction [.int (iD ws o), .int rest] (kv (fr (((iD ws o : Int) : Rat) / (rest : Rat)))) := made2_v hr0
        have t2 := times_v (bt_div0 bo brest) hbl (by omega)
        have ev : ((iD ws o : Int) : Rat) / (rest : Rat) * left = gD (qlist ws) o * (left / (rest : Rat)) := by
          rw [gD_qlist, Rat.div_def, Rat.div_def]
          grind
        rw [ev] at t2
        refine sd_put (q := o) (n := (o : Int)) rfl (ev_call (ea_cons (ev_call (ea_cons (ev_ixQ hd (ev_var rfl) (ev_var rfl) (ints_at rfl ow)) (ea_cons (ev_var rfl) ea_nil)) hm2) (ea_cons (ev_var rfl) ea_nil)) t2) (ev_var rfl) ?_ ⟨.val (.int (o : Int)), ?_⟩
        · rw [fls_len, fillAll_len, qlist_len]
          unfold ixN
          rw [if_pos (by omega), if_pos (by omega)]
          rfl
        · rw [take_snoc ho, show Pu.fillAll (qlist ws) (left / (rest : Rat)) (qlist cs) ((P.drop i).take j ++ [o]) = (Pu.fillAll (qlist ws) (left / (rest : Rat)) (qlist cs) ((P.drop i).take j)).set o (gD (qlist ws) o * (left / (rest : Rat))) by unfold Pu.fillAll; rw [List.foldl_append]; rfl]
          unfold fls
          rw [List.map_set]
          rfl
      · rintro ρ ⟨z9, rfl⟩
        rw [natD_len, List.take_length, hdrop, hgo]
        exact sd_reto rfl hk
    · rw [if_neg (of_decide_eq_false z)] at hgo
      have m1 := minus_v hbl bc (by omega)
      refine sd_seq (sd_set (ev_call (ea_cons (ev_var rfl) (ea_cons (ev_call (ea_cons (eC _ rfl rfl) (ea_cons ev_int ea_nil)) made1_v) ea_nil)) m1) ?_)
      have hrs' : ((rest - iD ws p : Int) : Rat) = psum (gD (qlist ws)) (P.drop (i + 1)) := by
        rw [psum_cons, gD_qlist] at hrs
        rw [Rat.intCast_sub]
        grind
      have hr0 : (0 : Int) ≤ rest - iD ws p := by
        have h0 : (0 : Rat) ≤ ((rest - iD ws p : Int) : Rat) := by
          rw [hrs']
          refine qsum_nonneg fun x hx => ?_
          obtain ⟨o, ho, rfl⟩ := List.mem_map.mp hx
          rw [gD_qlist]
          have := hwp o (hmem o (List.mem_of_mem_drop ho))
          exact_mod_cast Int.le_of_lt this
        exact_mod_cast h0
      have hw0 := hwp p hpl
      refine sd_set (v_sub (ev_var rfl) (eW _ rfl rfl)) ⟨_, rest - iD ws p, _, _, _, rfl, by omega, (bt_minus hbl bc).mono (by rw [Nat.succ_mul]; omega), by omega, hrs', by rw [Rat.intCast_sub]; exact hgo⟩
  · rintro ρ ⟨left, rest, z7, z8, z9, rfl, hi, hbl, hrb, hrs, hgo⟩
    rw [enumD_len, natD_len, List.drop_length] at hgo
    have e : evenD (qlist ws) (qlist cs) q = qlist cs := hgo.symm
    rw [e] at hk
    exact sd_reto rfl hk
theorem sc_lacking : FnScope ["claims", "shares", "claim", "share"] ["claims", "shares"] (defScope s_lacking) := ⟨rfl, rfl, rfl, by decide +kernel, rfl, by decide +kernel, by decide +kernel⟩
theorem ok_lacking (T : Txt K mg A) (hN : base.NoSeer) (hT : P.given.tree = none) (fnN_minus : OkN P w K mg base 41 "minus" ["one", "two"] (spc K cMinus)) (fnN_made : OkN P w K mg base 40 "made" ["top", "bottom"] (spc K (cMade A.NoFraction))) : OkN P w K mg base 42 "lacking" ["claims", "shares"] (spc K cLacking) := by
  refine T.f_lacking.okN sc_lacking _ (fun ds k hc => by obtain ⟨_, _, _, _, _, rfl, _⟩ := hc; rfl) (fun cdv A' outer s H vs Q E hr h => ⟨_, (pss_one (ps_ret (pe_lc (own := [("claim", 2), ("share", 3)]) rfl sc_lacking.nd (w_zipQ (K := K) rfl T.z_zip (pa_cons (pv 0) (pa_cons (pv 1) pa_nil))) (blkOk_by (N := ["claims", "shares", "claim", "share"]) (sc := defScope s_lacking) (by decide +kernel)) (fun _ _ _ _ _ => (g_tup (n := 2) (K := K) rfl (pgs_cons (pg_name (i := 2) sc_lacking.nd rfl (by first | exact Or.inl rfl | exact Or.inr rfl)) (pgs_cons (pg_name (i := 3) sc_lacking.nd rfl (by first | exact Or.inl rfl | exact Or.inr rfl)) pgs_nil)))) (fun _ _ _ _ _ => pts_nil) (fun _ _ _ _ _ => (pe_fnN fnN_minus (hr.mono (by decide)) takes0N rfl (pa_cons (pe_fnN fnN_made (hr.mono (by decide)) takes0N rfl (pa_cons (pv 2) (pa_cons pe_int pa_nil))) (pa_cons (pv 3) pa_nil))))))), body_of h fun ds k hc => ?_⟩)
  obtain ⟨dc, cs, gs, B, n, rfl, hdc, hg, hn, hcs, hB, hgs, hl, hk⟩ := hc
  show Sd K _ _ _ [.val dc, .val (.list (fls gs)), .un, .un] _
  have hz : (zipD (cs.map PyData.int) (fls gs)).length = cs.length := by rw [zipD_len, List.length_map, fls_len]; omega
  refine sd_retf (f_maps (fls (lackD (qlist cs) gs)) (id_zipQ hdc (.inl rfl) (ev_var rfl) (ev_var rfl)) (gw_tup2 (by decide) (by decide)) (by rw [fls_len, lackD_len (by rw [qlist_len, hg]), qlist_len, hz]) (fun i d e hd he => ?_) (by omega)) hk
  obtain ⟨x, y, hx, hy, rfl⟩ := zipD_at hd
  obtain ⟨z, hz, rfl⟩ := fls_get he
  obtain ⟨c, g, h1, h2, rfl⟩ := lackD_at hz
  obtain ⟨c', hc', rfl⟩ : ∃ c' : Int, cs[i]? = some c' ∧ c = (c' : Rat) := by
    unfold qlist at h1
    rw [List.getElem?_map] at h1
    cases e : cs[i]? with
    | none => rw [e] at h1; cases h1
    | some c' => rw [e] at h1; exact ⟨c', rfl, (Option.some.inj h1).symm⟩
  rw [List.getElem?_map, hc'] at hx
  obtain rfl := Option.some.inj hx
  have ey : y = fr g := by
    unfold fls at hy
    rw [List.getElem?_map, h2] at hy
    exact (Option.some.inj hy).symm
  subst ey
  have bc := bt_int (hcs c' (List.mem_of_getElem? hc')) hB
  have bg := hgs g (List.mem_of_getElem? h2)
  exact ⟨_, gd_tup2 gd_name gd_name, ev_call (ea_cons (ev_call (ea_cons (ev_var rfl) (ea_cons ev_int ea_nil)) made1_v) (ea_cons (ev_var rfl) ea_nil)) (minus_v bc bg (by omega))⟩
theorem sc_row_dealt : FnScope ["claims", "catch", "shares", "left", "claim", "share"] ["claims", "catch"] (defScope s_row_dealt) := ⟨rfl, rfl, rfl, by decide +kernel, rfl, by decide +kernel, by decide +kernel⟩
theorem ok_row_dealt (T : Txt K mg A) (hN : base.NoSeer) (hT : P.given.tree = none) (fnN_made : OkN P w K mg base 40 "made" ["top", "bottom"] (spc K (cMade A.NoFraction))) (fnN_less : OkN P w K mg base 1 "less" ["one", "two"] (spc K cLess)) (fnN_minus : OkN P w K mg base 41 "minus" ["one", "two"] (spc K cMinus)) : OkN P w K mg base 42 "row_dealt" ["claims", "catch"] (spc K cRow) := by
  refine T.f_row_dealt.okN sc_row_dealt _ (fun ds k hc => by obtain ⟨_, _, _, _, _, rfl, _⟩ := hc; rfl) (fun cdv A' outer s H vs Q E hr h => ⟨_, (pss_cons (ps_set (i := 2) sc_row_dealt.nd rfl (by first | exact Or.inl rfl | exact Or.inr rfl) (pe_lst pa_nil))
  (pss_cons (ps_set (i := 3) sc_row_dealt.nd rfl (by first | exact Or.inl rfl | exact Or.inr rfl) (pv 1))
  (pss_cons (ps_for (passes_of rfl) rfl (w_seq (K := K) (pv 0)) (pg_name (i := 4) sc_row_dealt.nd rfl (by first | exact Or.inl rfl | exact Or.inr rfl)) (pss_cons (ps_set (i := 5) sc_row_dealt.nd rfl (by first | exact Or.inl rfl | exact Or.inr rfl) (pe_fnN fnN_made (hr.mono (by decide)) (L2N.takes_of rfl rfl rfl rfl) rfl (pa_cons (pv 4) (pa_cons pe_int pa_nil))))
  (pss_cons (ps_if (pt_val (pe_fnN fnN_less (hr.mono (by decide)) (L2N.takes_of rfl rfl rfl rfl) rfl (pa_cons (pv 3) (pa_cons (pv 5) pa_nil)))) (pss_one (ps_set (i := 5) sc_row_dealt.nd rfl (by first | exact Or.inl rfl | exact Or.inr rfl) (pv 3))) pss_nil)
  (pss_cons (ps_expr (b_m (K := K) PySem.F.plainAttrs_list PySem.F.slot_list_append PySem.F.type_list_append mt_append (pv 2) (pa_cons (pv 5) pa_nil)))
  (pss_one (ps_set (i := 3) sc_row_dealt.nd rfl (by first | exact Or.inl rfl | exact Or.inr rfl) (pe_fnN fnN_minus (hr.mono (by decide)) (L2N.takes_of rfl rfl rfl rfl) rfl (pa_cons (pv 3) (pa_cons (pv 5) pa_nil)))))))))
  (pss_one (ps_ret (pv 2)))))), body_of h fun ds k hc => ?_⟩)
  obtain ⟨dc, cs, q, B, n, rfl, hdc, hl, hcs, hB, hq, hB2, hn, hk⟩ := hc
  show Sd K _ _ _ [.val dc, .val (fr q), .un, .un, .un, .un] _
  refine sd_seq (sd_own (by walk_at "ef") ?_)
  refine sd_seq (sd_set (ev_var rfl) ?_)
  have hlen : ∀ (xs : List Rat) (q : Rat), (rowD xs q).length = xs.length := fun xs => by
    induction xs with
    | nil => intro q; rfl
    | cons a r ih => intro q; show (rowD r _).length + 1 = _; rw [ih]; rfl
  refine sd_seq (sd_for (fun i ρ => ∃ z4 z5 : Sl, ρ = [.val dc, .val (fr q), .own (fls ((rowD (qlist cs) q).take i)), .val (fr (rowL (qlist cs) q i)), z4, z5]) (w_seqQ hdc (ev_var rfl)) ⟨_, _, by rw [show rowL (qlist cs) q 0 = q by cases qlist cs <;> rfl]; rfl⟩ ?_ ?_)
  · rintro i d ρ' hd ⟨z4, z5, rfl⟩
    obtain ⟨c, hc, rfl⟩ : ∃ c : Int, cs[i]? = some c ∧ d = .int c := by
      rw [List.getElem?_map] at hd
      cases e : cs[i]? with
      | none => rw [e] at hd; cases hd
      | some c => rw [e] at hd; exact ⟨c, rfl, (Option.some.inj hd).symm⟩
    refine ⟨_, gd_name, ?_⟩
    have hil := getElem?_lt hc
    have bc := bt_int (hcs c (List.mem_of_getElem? hc)) hB
    have bl_ := rowL_bt hB cs q n i hcs hq (by omega)
    have im : i * (B + 1) ≤ 100 * (B + 1) := Nat.mul_le_mul_right _ (by omega)
    obtain ⟨e1, e2⟩ := rowL_step (qlist cs) q i c (qlist_at hc)
    rw [e1]
    generalize rowL (qlist cs) q i = l at bl_ e1 e2
    refine sd_seq (sd_set (ev_call (ea_cons (ev_var rfl) (ea_cons ev_int ea_nil)) made1_v) ?_)
    refine sd_seq (sd_ifJ (fun ρ => ρ = [.val dc, .val (fr q), .own (fls ((rowD (qlist cs) q).take i)), .val (fr l), .val (.int c), .val (fr (if l < (c : Rat) then l else (c : Rat)))]) (b := decide (l < (c : Rat))) (et_B (ev_call (ea_cons (ev_var rfl) (ea_cons (ev_var rfl) ea_nil)) (less_v bl_ bc (by omega)))) (fun z => ?_) (fun z => ?_) ?_)
    · rw [if_pos (of_decide_eq_true z)]
      exact sd_set (ev_var rfl) rfl
    · rw [if_neg (of_decide_eq_false z)]
      exact sd_next rfl
    rintro ρ rfl
    have bs : bt (if l < (c : Rat) then l else (c : Rat)) (n + i * (B + 1) + 1 + B) := by
      split
      · exact bl_.mono (by omega)
      · exact bc.mono (by omega)
    have hm := minus_v bl_ bs (by omega)
    refine sd_seq (sd_append (d := fr (if l < (c : Rat) then l else (c : Rat))) rfl (ev_var rfl) (by rw [fls_len, List.length_take]; omega) ?_)
    have ea : fls ((rowD (qlist cs) q).take i) ++ [fr (if l < (c : Rat) then l else (c : Rat))] = fls ((rowD (qlist cs) q).take (i + 1)) := by
      rw [take_snoc e2]
      unfold fls
      rw [List.map_append]
      rfl
    rw [ea]
    exact sd_set (ev_call (ea_cons (ev_var rfl) (ea_cons (ev_var rfl) ea_nil)) hm) ⟨_, _, rfl⟩
  · rintro ρ ⟨z4, z5, rfl⟩
    rw [List.length_map, List.take_of_length_le (by rw [hlen, qlist_len]; exact Nat.le_refl _)]
    exact sd_reto rfl hk
theorem sc_part_dealt : FnScope ["claims", "catch", "whole", "claim"] ["claims", "catch"] (defScope s_part_dealt) := ⟨rfl, rfl, rfl, by decide +kernel, rfl, by decide +kernel, by decide +kernel⟩
theorem ok_part_dealt (T : Txt K mg A) (hN : base.NoSeer) (hT : P.given.tree = none) (fnN_times : OkN P w K mg base 41 "times" ["one", "two"] (spc K cTimes)) (fnN_made : OkN P w K mg base 40 "made" ["top", "bottom"] (spc K (cMade A.NoFraction))) : OkN P w K mg base 42 "part_dealt" ["claims", "catch"] (spc K cPart) := by
  refine T.f_part_dealt.okN sc_part_dealt _ (fun ds k hc => by obtain ⟨_, _, _, _, _, rfl, _⟩ := hc; rfl) (fun cdv A' outer s H vs Q E hr h => ⟨_, (pss_cons (ps_set (i := 2) sc_part_dealt.nd rfl (by first | exact Or.inl rfl | exact Or.inr rfl) (pe_callB (c_sumA (K := K) rfl) (by rfl) T.z_sum (by decide +kernel) (pa_cons (pv 0) pa_nil)))
  (pss_cons (ps_if (pt_cmpR (o_eq (K := K) hr.units) (pv 2) pe_int (nomark _)) (pss_one (ps_ret (pe_lc (own := [("claim", 3)]) rfl sc_part_dealt.nd (w_seq (K := K) (pv 0)) (blkOk_by (N := ["claims", "catch", "whole", "claim"]) (sc := defScope s_part_dealt) (by decide +kernel)) (fun _ _ _ _ _ => (pg_name (i := 3) sc_part_dealt.nd rfl (by first | exact Or.inl rfl | exact Or.inr rfl))) (fun _ _ _ _ _ => pts_nil) (fun _ _ _ _ _ => (pe_glob (v := .ref A.k_NOUGHT) rfl T.m_NOUGHT rfl))))) pss_nil)
  (pss_one (ps_ret (pe_lc (own := [("claim", 3)]) rfl sc_part_dealt.nd (w_seq (K := K) (pv 0)) (blkOk_by (N := ["claims", "catch", "whole", "claim"]) (sc := defScope s_part_dealt) (by decide +kernel)) (fun _ _ _ _ _ => (pg_name (i := 3) sc_part_dealt.nd rfl (by first | exact Or.inl rfl | exact Or.inr rfl))) (fun _ _ _ _ _ => pts_nil) (fun _ _ _ _ _ => (pe_fnN fnN_times (hr.mono (by decide)) takes0N rfl (pa_cons (pe_fnN fnN_made (hr.mono (by decide)) takes0N rfl (pa_cons (pv 3) (pa_cons (pv 2) pa_nil))) (pa_cons (pv 1) pa_nil))))))))), body_of h fun ds k hc => ?_⟩)
  obtain ⟨dc, cs, q, B, n, rfl, hdc, hl, hcs, hB, hq, hB2, hn, hk⟩ := hc
  show Sd K _ _ _ [.val dc, .val (fr q), .un, .un] _
  refine sd_seq (sd_set (v_sumQ hdc (ev_var rfl)) ?_)
  have hz : qsum (qlist cs) = 0 ↔ cs.sum = 0 := by
    rw [qlist_sum]
    constructor
    · intro h; exact_mod_cast h
    · intro h; rw [h]; rfl
  refine sd_seq (sd_ifS (b := decide (cs.sum = 0)) (EvT.is (et_test (ev_eqD (ev_var rfl) ev_int rfl rfl)) eqv_int) (fun z => ?_) (fun z => sd_next ?_))
  · have e : partD (qlist cs) q = zeros (qlist cs) := if_pos (hz.mpr (of_decide_eq_true z))
    rw [e] at hk
    have e2 : fls (zeros (qlist cs)) = cs.map fun _ => fr 0 := by unfold fls zeros qlist; rw [List.map_map, List.map_map]; rfl
    rw [e2] at hk
    exact sd_retf (f_mapA (enc := PyData.int) _ (w_seqQ hdc (ev_var rfl)) (gw_name (by decide)) (fun i c hc => ⟨_, gd_name, ev_ref T.d_NOUGHT⟩) (by omega)) hk
  · have hs0 := of_decide_eq_false z
    have e : partD (qlist cs) q = (qlist cs).map fun c => c / qsum (qlist cs) * q := if_neg fun h => hs0 (hz.mp h)
    rw [e] at hk
    have e2 : fls ((qlist cs).map fun c => c / qsum (qlist cs) * q) = cs.map fun c : Int => fr ((c : Rat) / ((cs.sum : Int) : Rat) * q) := by
      rw [qlist_sum]
      unfold fls qlist
      rw [List.map_map, List.map_map]
      rfl
    rw [e2] at hk
    have bS := bt_int (sum_lt hcs (by omega)) (by omega)
    refine sd_retf (f_mapA (enc := PyData.int) _ (w_seqQ hdc (ev_var rfl)) (gw_name (by decide)) (fun i c hc => ⟨_, gd_name, ?_⟩) (by omega)) hk
    have bc := bt_int (hcs c (List.mem_of_getElem? hc)) hB
    exact ev_call (ea_cons (ev_call (ea_cons (ev_var rfl) (ea_cons (ev_var rfl) ea_nil)) (made2_v hs0)) (ea_cons (ev_var rfl) ea_nil)) (times_v (bt_div0 bc bS) hq (by omega))
theorem sc_plus : FnScope ["one", "two"] ["one", "two"] (defScope s_plus) := ⟨rfl, rfl, rfl, by decide +kernel, rfl, by decide +kernel, by decide +kernel⟩
theorem ok_plus (T : Txt K mg A) (hN : base.NoSeer) (hT : P.given.tree = none) (fnN_made : OkN P w K mg base 40 "made" ["top", "bottom"] (spc K (cMade A.NoFraction))) : OkN P w K mg base 41 "plus" ["one", "two"] (spc K cPlus) := by
  refine T.f_plus.okN sc_plus _ (fun ds k hc => by obtain ⟨_, _, _, _, rfl, _⟩ := hc; rfl) (fun cdv A' outer s H vs Q E hr h => ⟨_, (pss_one (ps_ret (pe_fnN fnN_made (hr.mono (by decide)) (L2N.takes_of rfl rfl rfl rfl) rfl (pa_cons (pe_op (o_plus (K := K)) (pe_op o_mul (pe_ix (i_any (K := K)) (pv 0) pe_int (fun _ _ => rfl)) (pe_ix (i_any (K := K)) (pv 1) pe_int (fun _ _ => rfl))) (pe_op o_mul (pe_ix (i_any (K := K)) (pv 1) pe_int (fun _ _ => rfl)) (pe_ix (i_any (K := K)) (pv 0) pe_int (fun _ _ => rfl)))) (pa_cons (pe_op o_mul (pe_ix (i_any (K := K)) (pv 0) pe_int (fun _ _ => rfl)) (pe_ix (i_any (K := K)) (pv 1) pe_int (fun _ _ => rfl))) pa_nil))))), body_of h fun ds k hc => ?_⟩)
  obtain ⟨p, q, a, b, rfl, hp, hq, hab, hk⟩ := hc
  show Sd K _ _ _ [.val (.tuple [.int p.num, .int (p.den : Int)]), .val (.tuple [.int q.num, .int (q.den : Int)])] _
  have c1 : CMulB p.num (q.den : Int) := cmul_of hp.1 (j := (q.den : Int)) hq.2 (by omega)
  have c2 : CMulB q.num (p.den : Int) := cmul_of hq.1 (j := (p.den : Int)) hp.2 (by omega)
  have c3 : CMulB (p.den : Int) (q.den : Int) := cmul_of (i := (p.den : Int)) hp.2 (j := (q.den : Int)) hq.2 (by omega)
  have hm : cMade A.NoFraction [.int (p.num * (q.den : Int) + q.num * (p.den : Int)), .int ((p.den : Int) * (q.den : Int))] (kv (fr (p + q))) := by
    have z := made_v (C := A.NoFraction) (a := p.num * (q.den : Int) + q.num * (p.den : Int)) (mul_ne (den_ne p) (den_ne q))
    rw [plus_eq] at z
    exact z
  exact sd_ret (by walk_at "ev") hk
theorem sc_half_dealt : FnScope ["claims", "catch", "ones", "twice", "whole", "lack", "claim", "share"] ["claims", "catch"] (defScope s_half_dealt) := ⟨rfl, rfl, rfl, by decide +kernel, rfl, by decide +kernel, by decide +kernel⟩
theorem ok_half_dealt (T : Txt K mg A) (hN : base.NoSeer) (hT : P.given.tree = none) (fnN_plus : OkN P w K mg base 41 "plus" ["one", "two"] (spc K cPlus)) (fnN_made : OkN P w K mg base 40 "made" ["top", "bottom"] (spc K (cMade A.NoFraction))) (fnN_less : OkN P w K mg base 1 "less" ["one", "two"] (spc K cLess)) (fnN_even_dealt : OkN P w K mg base 42 "even_dealt" ["weights", "claims", "catch"] (spc K cEven)) (fnN_times : OkN P w K mg base 41 "times" ["one", "two"] (spc K cTimes)) (fnN_minus : OkN P w K mg base 41 "minus" ["one", "two"] (spc K cMinus)) (fnN_lacking : OkN P w K mg base 42 "lacking" ["claims", "shares"] (spc K cLacking)) : OkN P w K mg base 43 "half_dealt" ["claims", "catch"] (spc K cHalf) := by
  refine T.f_half_dealt.okN sc_half_dealt _ (fun ds k hc => by obtain ⟨_, _, _, _, _, rfl, _⟩ := hc; rfl) (fun cdv A' outer s H vs Q E hr h => ⟨_, (pss_cons (by first | exact (ps_setLc (i := 2) (own := [("claim", 6)]) rfl sc_half_dealt.nd rfl rfl (sw_true rfl rfl rfl (by decide +kernel)) (w_seq (K := K) (pv 0)) (blkOk_by (N := ["claims", "catch", "ones", "twice", "whole", "lack", "claim", "share"]) (sc := defScope s_half_dealt) (by decide +kernel)) (fun _ _ _ _ _ => (pg_name (i := 6) sc_half_dealt.nd rfl (by first | exact Or.inl rfl | exact Or.inr rfl))) (fun _ _ _ _ _ => pts_nil) (fun _ _ _ _ _ => pe_int)) | exact (ps_set (i := 2) sc_half_dealt.nd rfl (by first | exact Or.inl rfl | exact Or.inr rfl) (pe_lc (own := [("claim", 6)]) rfl sc_half_dealt.nd (w_seq (K := K) (pv 0)) (blkOk_by (N := ["claims", "catch", "ones", "twice", "whole", "lack", "claim", "share"]) (sc := defScope s_half_dealt) (by decide +kernel)) (fun _ _ _ _ _ => (pg_name (i := 6) sc_half_dealt.nd rfl (by first | exact Or.inl rfl | exact Or.inr rfl))) (fun _ _ _ _ _ => pts_nil) (fun _ _ _ _ _ => pe_int))))
  (pss_cons (ps_set (i := 3) sc_half_dealt.nd rfl (by first | exact Or.inl rfl | exact Or.inr rfl) (pe_fnN fnN_plus (hr.mono (by decide)) (L2N.takes_of rfl rfl rfl rfl) rfl (pa_cons (pv 1) (pa_cons (pv 1) pa_nil))))
  (pss_cons (ps_set (i := 4) sc_half_dealt.nd rfl (by first | exact Or.inl rfl | exact Or.inr rfl) (pe_fnN fnN_made (hr.mono (by decide)) (L2N.takes_of rfl rfl rfl rfl) rfl (pa_cons (pe_callB (c_sumA (K := K) rfl) (by rfl) T.z_sum (by decide +kernel) (pa_cons (pv 0) pa_nil)) (pa_cons pe_int pa_nil))))
  (pss_cons (ps_if (pt_not (pt_val (pe_fnN fnN_less (hr.mono (by decide)) (L2N.takes_of rfl rfl rfl rfl) rfl (pa_cons (pv 4) (pa_cons (pv 3) pa_nil))))) (pss_one (ps_ret (pe_lc (own := [("share", 7)]) rfl sc_half_dealt.nd (w_seq (K := K) (pe_fnN fnN_even_dealt (hr.mono (by decide)) (L2N.takes_of rfl rfl rfl rfl) rfl (pa_cons (pv 2) (pa_cons (pv 0) (pa_cons (pv 3) pa_nil))))) (blkOk_by (N := ["claims", "catch", "ones", "twice", "whole", "lack", "claim", "share"]) (sc := defScope s_half_dealt) (by decide +kernel)) (fun _ _ _ _ _ => (pg_name (i := 7) sc_half_dealt.nd rfl (by first | exact Or.inl rfl | exact Or.inr rfl))) (fun _ _ _ _ _ => pts_nil) (fun _ _ _ _ _ => (pe_fnN fnN_times (hr.mono (by decide)) takes0N rfl (pa_cons (pe_tup (pa_cons pe_int (pa_cons pe_int pa_nil))) (pa_cons (pv 7) pa_nil))))))) pss_nil)
  (pss_cons (ps_set (i := 5) sc_half_dealt.nd rfl (by first | exact Or.inl rfl | exact Or.inr rfl) (pe_fnN fnN_minus (hr.mono (by decide)) (L2N.takes_of rfl rfl rfl rfl) rfl (pa_cons (pe_fnN fnN_plus (hr.mono (by decide)) (L2N.takes_of rfl rfl rfl rfl) rfl (pa_cons (pv 4) (pa_cons (pv 4) pa_nil))) (pa_cons (pv 3) pa_nil))))
  (pss_one (ps_ret (pe_fnN fnN_lacking (hr.mono (by decide)) (L2N.takes_of rfl rfl rfl rfl) rfl (pa_cons (pv 0) (pa_cons (pe_lc (own := [("share", 7)]) rfl sc_half_dealt.nd (w_seq (K := K) (pe_fnN fnN_even_dealt (hr.mono (by decide)) (L2N.takes_of rfl rfl rfl rfl) rfl (pa_cons (pv 2) (pa_cons (pv 0) (pa_cons (pv 5) pa_nil))))) (blkOk_by (N := ["claims", "catch", "ones", "twice", "whole", "lack", "claim", "share"]) (sc := defScope s_half_dealt) (by decide +kernel)) (fun _ _ _ _ _ => (pg_name (i := 7) sc_half_dealt.nd rfl (by first | exact Or.inl rfl | exact Or.inr rfl))) (fun _ _ _ _ _ => pts_nil) (fun _ _ _ _ _ => (pe_fnN fnN_times (hr.mono (by decide)) takes0N rfl (pa_cons (pe_tup (pa_cons pe_int (pa_cons pe_int pa_nil))) (pa_cons (pv 7) pa_nil))))) pa_nil)))))))))), body_of h fun ds k hc => ?_⟩)
  obtain ⟨dc, cs, q, B, n, rfl, hdc, hl, hne, hnn, h0, h1, hcs, hB, hq, hB2, hn, hk⟩ := hc
  show Sd K _ _ _ [.val dc, .val (fr q), .un, .un, .un, .un, .un, .un] _
  refine sd_seq (sd_set (d := .list ((cs.map fun _ => (1 : Int)).map PyData.int)) (EvF.v ?_) ?_)
  · rw [List.map_map]
    exact f_mapA (enc := PyData.int) _ (w_seqQ hdc (ev_var rfl)) (gw_name (by decide)) (fun i c hc => ⟨_, gd_name, ev_int⟩) (by omega)
  have b1 := bt_plus hq hq
  have bS := bt_int (sum_lt hcs (by omega)) (by omega)
  have b2 := bt_plus bS bS
  refine sd_seq (sd_set (ev_call (ea_cons (ev_var rfl) (ea_cons (ev_var rfl) ea_nil)) (plus_v hq hq (by omega))) ?_)
  refine sd_seq (sd_set (ev_call (ea_cons (v_sumQ hdc (ev_var rfl)) (ea_cons ev_int ea_nil)) made1_v) ?_)
  have hl1 := less_v bS b1 (by omega)
  have ho : ∀ (p : Rat) (m : Nat), bt p m → m ≤ 5000000 → cEven [.list ((cs.map fun _ => (1 : Int)).map PyData.int), dc, fr p] (kl (fls (evenD (ones (qlist cs)) (qlist cs) p))) := fun p m hp hm => by
    rw [ones_q]
    exact even_v (.inl rfl) hdc (by rw [List.length_map]) hl (fun w hw => by
      obtain ⟨_, _, rfl⟩ := List.mem_map.mp hw
      decide) (small_ones hB) hcs hB hp hB2 hm
  have hb : ∀ (p : Rat) (m : Nat), bt p m → ∀ x ∈ evenD (ones (qlist cs)) (qlist cs) p, bt x (dB m B) := fun p m hp => by
    rw [ones_q]
    exact evenD_bt (small_ones hB) hcs hB (by rw [List.length_map]) hl hp
  have hok := ones_ok (nn_q hnn)
  have hneq : qlist cs ≠ [] := fun z => hne (List.map_eq_nil_iff.mp z)
  have dBn : ∀ m, dB m B = m + 200 * (B + 1) + 100 := fun m => rfl
  have hhv : ∀ (E : List Rat), fls (hv E) = E.map fun x => fr (1 / 2 * x) := fun E => by unfold fls hv; rw [List.map_map]; rfl
  have eH : ∀ ρ : En, Ev K (tTup (tCons (tC (V.int 1)) (tCons (tC (V.int 2)) tNil))) ρ (fr (1 / 2)) := fun ρ => by rw [← fr_half]; walk_at "ev"
  refine sd_seq (sd_ifS (b := !decide (((cs.sum : Int) : Rat) < q + q)) (et_not (et_B (ev_call (ea_cons (ev_var rfl) (ea_cons (ev_var rfl) ea_nil)) hl1))) (fun z => ?_) (fun z => sd_next ?_))
  · have hnl : ¬ qsum (qlist cs) < q + q := by rw [qlist_sum]; simpa using z
    have e : halfD (qlist cs) q = hv (evenD (ones (qlist cs)) (qlist cs) (q + q)) := if_neg hnl
    rw [e, hhv] at hk
    have h1' := ho _ _ b1 (by omega)
    have hb1 := hb _ _ b1
    have len := (evenD_ok (q := q + q) hok (by grind) (by grind) hneq).len
    rw [qlist_len] at len
    generalize evenD (ones (qlist cs)) (qlist cs) (q + q) = E at h1' hb1 len hk
    refine sd_retf (f_mapA (enc := fr) _ (w_list (EvF.v (evf_call (ea_cons (ev_var rfl) (ea_cons (ev_var rfl) (ea_cons (ev_var rfl) ea_nil))) h1'))) (gw_name (by decide)) (fun i x hx => ⟨_, gd_name, ?_⟩) (by omega)) hk
    have bx := hb1 x (List.mem_of_getElem? hx)
    rw [dBn] at bx
    exact ev_call (ea_cons (eH _) (ea_cons (ev_var rfl) ea_nil)) (times_v bt_half bx (by omega))
  · have hlt : qsum (qlist cs) < q + q := by rw [qlist_sum]; simpa using z
    have e : halfD (qlist cs) q = lackD (qlist cs) (hv (evenD (ones (qlist cs)) (qlist cs) (qsum (qlist cs) + qsum (qlist cs) - (q + q)))) := if_pos hlt
    rw [e] at hk
    have b3 := bt_minus b2 b1
    have p1 := plus_v bS bS (by omega)
    have m1 := minus_v b2 b1 (by omega)
    refine sd_seq (sd_set (ev_call (ea_cons (ev_call (ea_cons (ev_var rfl) (ea_cons (ev_var rfl) ea_nil)) p1) (ea_cons (ev_var rfl) ea_nil)) m1) ?_)
    rw [← qlist_sum] at b3 ⊢
    have h1' := ho _ _ b3 (by omega)
    have hb1 := hb _ _ b3
    have len := (evenD_ok (q := qsum (qlist cs) + qsum (qlist cs) - (q + q)) hok (by grind) (by grind) hneq).len
    rw [qlist_len] at len
    generalize evenD (ones (qlist cs)) (qlist cs) (qsum (qlist cs) + qsum (qlist cs) - (q + q)) = E at h1' hb1 len hk
    have hlk := lacking_v (B := B) hdc (gs := hv E) (by rw [hv_len, len]) (by omega) hcs hB (bt_hv hb1) (by rw [dBn]; omega)
    refine sd_retf (evf_call (ds := [dc, .list (fls (hv E))]) (ea_cons (ev_var rfl) (ea_cons (EvF.v ?_) ea_nil)) hlk) hk
    rw [hhv]
    refine f_mapA (enc := fr) _ (w_list (EvF.v (evf_call (ea_cons (ev_var rfl) (ea_cons (ev_var rfl) (ea_cons (ev_var rfl) ea_nil))) h1'))) (gw_name (by decide)) (fun i x hx => ⟨_, gd_name, ?_⟩) (by omega)
    have bx := hb1 x (List.mem_of_getElem? hx)
    rw [dBn] at bx
    exact ev_call (ea_cons (eH _) (ea_cons (ev_var rfl) ea_nil)) (times_v bt_half bx (by omega))
theorem sc_dealt_by : FnScope ["way", "weights", "claims", "catch", "lack"] ["way", "weights", "claims", "catch"] (defScope s_dealt_by) := ⟨rfl, rfl, rfl, by decide +kernel, rfl, by decide +kernel, by decide +kernel⟩
theorem ok_dealt_by (T : Txt K mg A) (hN : base.NoSeer) (hT : P.given.tree = none) (fnN_row_dealt : OkN P w K mg base 42 "row_dealt" ["claims", "catch"] (spc K cRow)) (fnN_even_dealt : OkN P w K mg base 42 "even_dealt" ["weights", "claims", "catch"] (spc K cEven)) (fnN_minus : OkN P w K mg base 41 "minus" ["one", "two"] (spc K cMinus)) (fnN_made : OkN P w K mg base 40 "made" ["top", "bottom"] (spc K (cMade A.NoFraction))) (fnN_lacking : OkN P w K mg base 42 "lacking" ["claims", "shares"] (spc K cLacking)) (fnN_part_dealt : OkN P w K mg base 42 "part_dealt" ["claims", "catch"] (spc K cPart)) (fnN_half_dealt : OkN P w K mg base 43 "half_dealt" ["claims", "catch"] (spc K cHalf)) : OkN P w K mg base 44 "dealt_by" ["way", "weights", "claims", "catch"] (spc K cDealtBy) := by
  refine T.f_dealt_by.okN sc_dealt_by _ (fun ds k hc => by obtain ⟨_, _, _, _, _, _, _, _, rfl, _⟩ := hc; rfl) (fun cdv A' outer s H vs Q E hr h => ⟨_, (pss_cons (ps_if (pt_cmpR (o_eq (K := K) hr.units) (pv 0) pe_str (nomark _)) (pss_one (ps_ret (pe_fnN fnN_row_dealt (hr.mono (by decide)) (L2N.takes_of rfl rfl rfl rfl) rfl (pa_cons (pv 2) (pa_cons (pv 3) pa_nil))))) pss_nil)
  (pss_cons (ps_if (pt_cmpR (o_eq (K := K) hr.units) (pv 0) pe_str (nomark _)) (pss_one (ps_ret (pe_listRev (K := K) rfl (by rfl) T.z_list (by rfl) T.z_reversed (pe_fnN fnN_row_dealt (hr.mono (by decide)) (L2N.takes_of rfl rfl rfl rfl) rfl (pa_cons (pe_listRev (K := K) rfl (by rfl) T.z_list (by rfl) T.z_reversed (pv 2)) (pa_cons (pv 3) pa_nil)))))) pss_nil)
  (pss_cons (ps_if (pt_cmpR (o_eq (K := K) hr.units) (pv 0) pe_str (nomark _)) (pss_one (ps_ret (pe_fnN fnN_even_dealt (hr.mono (by decide)) (L2N.takes_of rfl rfl rfl rfl) rfl (pa_cons (pv 1) (pa_cons (pv 2) (pa_cons (pv 3) pa_nil)))))) pss_nil)
  (pss_cons (ps_if (pt_cmpR (o_eq (K := K) hr.units) (pv 0) pe_str (nomark _)) (pss_cons (ps_set (i := 4) sc_dealt_by.nd rfl (by first | exact Or.inl rfl | exact Or.inr rfl) (pe_fnN fnN_minus (hr.mono (by decide)) (L2N.takes_of rfl rfl rfl rfl) rfl (pa_cons (pe_fnN fnN_made (hr.mono (by decide)) (L2N.takes_of rfl rfl rfl rfl) rfl (pa_cons (pe_callB (c_sumA (K := K) rfl) (by rfl) T.z_sum (by decide +kernel) (pa_cons (pv 2) pa_nil)) (pa_cons pe_int pa_nil))) (pa_cons (pv 3) pa_nil))))
  (pss_one (ps_ret (pe_fnN fnN_lacking (hr.mono (by decide)) (L2N.takes_of rfl rfl rfl rfl) rfl (pa_cons (pv 2) (pa_cons (pe_fnN fnN_even_dealt (hr.mono (by decide)) (L2N.takes_of rfl rfl rfl rfl) rfl (pa_cons (pv 1) (pa_cons (pv 2) (pa_cons (pv 4) pa_nil)))) pa_nil)))))) pss_nil)
  (pss_cons (ps_if (pt_cmpR (o_eq (K := K) hr.units) (pv 0) pe_str (nomark _)) (pss_one (ps_ret (pe_fnN fnN_part_dealt (hr.mono (by decide)) (L2N.takes_of rfl rfl rfl rfl) rfl (pa_cons (pv 2) (pa_cons (pv 3) pa_nil))))) pss_nil)
  (pss_one (ps_ret (pe_fnN fnN_half_dealt (hr.mono (by decide)) (L2N.takes_of rfl rfl rfl rfl) rfl (pa_cons (pv 2) (pa_cons (pv 3) pa_nil)))))))))), body_of h fun ds k hc => ?_⟩)
  obtain ⟨y, dw, dc, ws, cs, q, B, n, rfl, hd, hdc, h, hk⟩ := hc
  show Sd K _ _ _ [.val (.str y.s), .val dw, .val dc, .val (fr q), .un] _
  have hlen := h.len
  have hb1 := h.b1
  have hn1 := h.n1
  have no : ∀ (a b : Str) (ρ : En) (kk : Ko) (W : WX) (ex : Value → En → Prop) (t u : TS), ρ[0]? = some (.val (.str a)) → SeqAt.shaped (.str a) = true → SeqAt.shaped (.str b) = true → decide (a = b) = false → Sd K W ex u ρ kk → Sd K W ex (tSeq (tIfS (tTest (tOp (rEqD K) (tVar 0) (tC (V.str b)))) t tNext) u) ρ kk := fun a b ρ kk W ex t u h0 s1 s2 e hu =>
    sd_seq (sd_ifS (b := false) (EvT.is (et_test (ev_eqS (ev_var h0) ev_str s1 s2)) e) (fun z => nomatch z) (fun _ => sd_next hu))
  have yes : ∀ (a : Str) (ρ : En) (kk : Ko) (W : WX) (ex : Value → En → Prop) (t u : TS), ρ[0]? = some (.val (.str a)) → SeqAt.shaped (.str a) = true → Sd K W ex t ρ { kk with nx := fun ρ' => Sd K W ex u ρ' kk } → Sd K W ex (tSeq (tIfS (tTest (tOp (rEqD K) (tVar 0) (tC (V.str a)))) t tNext) u) ρ kk := fun a ρ kk W ex t u h0 s1 ht =>
    sd_seq (sd_ifS (b := true) (EvT.is (et_test (ev_eqS (ev_var h0) ev_str s1 s1)) (decide_eq_true rfl)) (fun _ => ht) (fun z => nomatch z))
  have bS := bt_int (sum_lt h.sc (by omega)) (by omega)
  cases y with
  | row =>
    refine yes "row" _ _ _ _ _ _ rfl (by decide +kernel) ?_
    exact sd_retf (evf_call (ea_cons (ev_var rfl) (ea_cons (ev_var rfl) ea_nil)) (row_v hdc (by omega) h.sc h.b0 h.bq h.b1 (by omega))) hk
  | back =>
    refine no "back" "row" _ _ _ _ _ _ rfl (by decide +kernel) (by decide +kernel) (by decide) ?_
    refine yes "back" _ _ _ _ _ _ rfl (by decide +kernel) ?_
    have e1 : (cs.map PyData.int).reverse = cs.reverse.map PyData.int := List.map_reverse.symm
    have hr := row_v (q := q) (dc := .list (cs.map PyData.int).reverse) (.inl (by rw [e1])) (by rw [List.length_reverse]; omega) (small_rev h.sc) h.b0 h.bq h.b1 (by omega)
    have e2 : fls (dealOf .back (qlist ws) (qlist cs) q) = (fls (rowD (qlist cs.reverse) q)).reverse := by
      show fls (rowD (qlist cs).reverse q).reverse = _
      rw [qlist_rev]
      unfold fls
      rw [List.map_reverse]
    rw [e2] at hk
    exact sd_retf (f_listRevL (EvF.l (evf_call (ea_cons (EvF.v (f_listRevQ hdc (ev_var rfl))) (ea_cons (ev_var rfl) ea_nil)) hr))) hk
  | even =>
    refine no "even" "row" _ _ _ _ _ _ rfl (by decide +kernel) (by decide +kernel) (by decide) ?_
    refine no "even" "back" _ _ _ _ _ _ rfl (by decide +kernel) (by decide +kernel) (by decide) ?_
    refine yes "even" _ _ _ _ _ _ rfl (by decide +kernel) ?_
    exact sd_retf (evf_call (ea_cons (ev_var rfl) (ea_cons (ev_var rfl) (ea_cons (ev_var rfl) ea_nil))) (even_v hd hdc (h.wt rfl).1 h.len (h.wt rfl).2 h.sw h.sc h.b0 h.bq h.b1 (by omega))) hk
  | lack =>
    refine no "lack" "row" _ _ _ _ _ _ rfl (by decide +kernel) (by decide +kernel) (by decide) ?_
    refine no "lack" "back" _ _ _ _ _ _ rfl (by decide +kernel) (by decide +kernel) (by decide) ?_
    refine no "lack" "even" _ _ _ _ _ _ rfl (by decide +kernel) (by decide +kernel) (by decide) ?_
    refine yes "lack" _ _ _ _ _ _ rfl (by decide +kernel) ?_
    have m1 := minus_v bS h.bq (by omega)
    refine sd_seq (sd_set (ev_call (ea_cons (ev_call (ea_cons (v_sumQ hdc (ev_var rfl)) (ea_cons ev_int ea_nil)) made1_v) (ea_cons (ev_var rfl) ea_nil)) m1) ?_)
    have bl_ := bt_minus bS h.bq
    have he := even_v hd hdc (h.wt rfl).1 h.len (h.wt rfl).2 h.sw h.sc h.b0 bl_ h.b1 (by omega)
    have hb := evenD_bt h.sw h.sc h.b0 (h.wt rfl).1 h.len bl_
    rw [← qlist_sum] at he hb ⊢
    have hdl := (evenD_ok (q := qsum (qlist cs) - q) (h.fit.ok rfl) (by have := h.hi; grind) (by have := h.lo; grind) h.fit.ne).len
    have hlk := lacking_v (B := B) hdc (gs := evenD (qlist ws) (qlist cs) (qsum (qlist cs) - q)) (by rw [hdl, qlist_len]) (by omega) h.sc h.b0 hb (by unfold dB; omega)
    exact sd_retf (evf_call (ea_cons (ev_var rfl) (ea_cons (EvF.v (evf_call (ea_cons (ev_var rfl) (ea_cons (ev_var rfl) (ea_cons (ev_var rfl) ea_nil))) he)) ea_nil)) hlk) hk
  | part =>
    refine no "part" "row" _ _ _ _ _ _ rfl (by decide +kernel) (by decide +kernel) (by decide) ?_
    refine no "part" "back" _ _ _ _ _ _ rfl (by decide +kernel) (by decide +kernel) (by decide) ?_
    refine no "part" "even" _ _ _ _ _ _ rfl (by decide +kernel) (by decide +kernel) (by decide) ?_
    refine no "part" "lack" _ _ _ _ _ _ rfl (by decide +kernel) (by decide +kernel) (by decide) ?_
    refine yes "part" _ _ _ _ _ _ rfl (by decide +kernel) ?_
    exact sd_retf (evf_call (ea_cons (ev_var rfl) (ea_cons (ev_var rfl) ea_nil)) (part_v hdc (by omega) h.sc h.b0 h.bq h.b1 (by omega))) hk
  | half =>
    refine no "half" "row" _ _ _ _ _ _ rfl (by decide +kernel) (by decide +kernel) (by decide) ?_
    refine no "half" "back" _ _ _ _ _ _ rfl (by decide +kernel) (by decide +kernel) (by decide) ?_
    refine no "half" "even" _ _ _ _ _ _ rfl (by decide +kernel) (by decide +kernel) (by decide) ?_
    refine no "half" "lack" _ _ _ _ _ _ rfl (by decide +kernel) (by decide +kernel) (by decide) ?_
    refine no "half" "part" _ _ _ _ _ _ rfl (by decide +kernel) (by decide +kernel) (by decide) ?_
    exact sd_retf (evf_call (ea_cons (ev_var rfl) (ea_cons (ev_var rfl) ea_nil)) (half_v hdc h.len h.ne h.nn h.lo h.hi h.sc h.b0 h.bq h.b1 h.n1)) hk
theorem sc_dealt : FnScope ["way", "weights", "claims", "catch"] ["way", "weights", "claims", "catch"] (defScope s_dealt) := ⟨rfl, rfl, rfl, by decide +kernel, rfl, by decide +kernel, by decide +kernel⟩
theorem ok_dealt (T : Txt K mg A) (hN : base.NoSeer) (hT : P.given.tree = none) (fnN_looked : OkN P w K mg base 2 "looked" ["way", "weights", "claims"] (spc K (cLooked A.BadWay A.BadClaim A.BadWeights))) (fnN_less : OkN P w K mg base 1 "less" ["one", "two"] (spc K cLess)) (fnN_made : OkN P w K mg base 40 "made" ["top", "bottom"] (spc K (cMade A.NoFraction))) (fnN_dealt_by : OkN P w K mg base 44 "dealt_by" ["way", "weights", "claims", "catch"] (spc K cDealtBy)) : OkN P w K mg base 45 "dealt" ["way", "weights", "claims", "catch"] (spc K (cDealt A.BadWay A.BadClaim A.BadWeights A.Outside)) := by
  refine T.f_dealt.okN sc_dealt _ (fun ds k hc => by obtain ⟨_, _, _, _, _, _, _, _, rfl, _⟩ := hc; rfl) (fun cdv A' outer s H vs Q E hr h => ⟨_, (pss_cons (ps_expr (pe_fnN fnN_looked (hr.mono (by decide)) (L2N.takes_of rfl rfl rfl rfl) rfl (pa_cons (pv 0) (pa_cons (pv 1) (pa_cons (pv 2) pa_nil)))))
  (pss_cons (ps_if (PW.pt (pw_or (pt_val (pe_fnN fnN_less (hr.mono (by decide)) (L2N.takes_of rfl rfl rfl rfl) rfl (pa_cons (pv 3) (pa_cons (pe_glob (v := .ref A.k_NOUGHT) rfl T.m_NOUGHT rfl) pa_nil)))) (pw_or1 (pt_val (pe_fnN fnN_less (hr.mono (by decide)) (L2N.takes_of rfl rfl rfl rfl) rfl (pa_cons (pe_fnN fnN_made (hr.mono (by decide)) (L2N.takes_of rfl rfl rfl rfl) rfl (pa_cons (pe_callB (c_sumA (K := K) rfl) (by rfl) T.z_sum (by decide +kernel) (pa_cons (pv 2) pa_nil)) (pa_cons pe_int pa_nil))) (pa_cons (pv 3) pa_nil))))))) (pss_one (ps_raiseCN rfl (L2N.takes_of rfl rfl rfl rfl) T.c_Outside.x T.c_Outside.g T.c_Outside.k T.c_Outside.b T.c_Outside.t rfl)) pss_nil)
  (pss_one (ps_ret (pe_fnN fnN_dealt_by (hr.mono (by decide)) (L2N.takes_of rfl rfl rfl rfl) rfl (pa_cons (pv 0) (pa_cons (pv 1) (pa_cons (pv 2) (pa_cons (pv 3) pa_nil))))))))), body_of h fun ds k hc => ?_⟩)
  obtain ⟨w, dw, dc, ws, cs, q, B, n, rfl, hd, hdc, hl, hs, h20, hB, hq, hn, h0, h1, h2, h3, h4⟩ := hc
  show Sd K _ _ _ [.val (.str w), .val dw, .val dc, .val (fr q)] _
  have hlk : lookC w ws cs = 0 ∨ lookC w ws cs = 1 ∨ lookC w ws cs = 2 ∨ lookC w ws cs = 4 := by
    unfold lookC
    split
    · split
      · exact .inr (.inl rfl)
      · split
        · exact .inr (.inr (.inr rfl))
        · exact .inr (.inr (.inl rfl))
    · exact .inl rfl
  have hC : ∀ k : Kc, (lookC w ws cs = 0 → k.ex (.ref A.BadWay)) → (lookC w ws cs = 1 → k.ex (.ref A.BadClaim)) → (lookC w ws cs = 2 → k.ex (.ref A.BadWeights)) → (lookC w ws cs = 4 → k.rt .none) → cLooked A.BadWay A.BadClaim A.BadWeights [.str w, dw, dc] k := fun k a b c d => ⟨w, dw, dc, ws, cs, rfl, hd, hdc, a, b, c, d⟩
  have hD : lookC w ws cs ≠ 4 → dealC w ws cs q = lookC w ws cs := fun h => if_neg h
  have eA : ∀ ρ : En, ρ[0]? = some (.val (.str w)) → ρ[1]? = some (.val dw) → ρ[2]? = some (.val dc) → EvA K (tCons (tVar 0) (tCons (tVar 1) (tCons (tVar 2) tNil))) ρ [.str w, dw, dc] := fun ρ a b c => ea_cons (ev_var a) (ea_cons (ev_var b) (ea_cons (ev_var c) ea_nil))
  rcases hlk with e | e | e | e
  · refine sd_seq (sd_dropx (evx_call (eA _ rfl rfl rfl) (hC (kx (.ref A.BadWay)) (fun _ => rfl) (fun z => ?_) (fun z => ?_) (fun z => ?_))) (h0 (by rw [hD (by rw [e]; decide), e]))) <;> (rw [e] at z; cases z)
  · refine sd_seq (sd_dropx (evx_call (eA _ rfl rfl rfl) (hC (kx (.ref A.BadClaim)) (fun z => ?_) (fun _ => rfl) (fun z => ?_) (fun z => ?_))) (h1 (by rw [hD (by rw [e]; decide), e]))) <;> (rw [e] at z; cases z)
  · refine sd_seq (sd_dropx (evx_call (eA _ rfl rfl rfl) (hC (kx (.ref A.BadWeights)) (fun z => ?_) (fun z => ?_) (fun _ => rfl) (fun z => ?_))) (h2 (by rw [hD (by rw [e]; decide), e]))) <;> (rw [e] at z; cases z)
  have hok : cLooked A.BadWay A.BadClaim A.BadWeights [.str w, dw, dc] (kv .none) := by
    refine hC (kv .none) (fun z => ?_) (fun z => ?_) (fun z => ?_) (fun _ => rfl) <;> (rw [e] at z; cases z)
  refine sd_seq (sd_drop (ev_call (eA _ rfl rfl rfl) hok) ?_)
  have hE : dealC w ws cs q = if q < 0 ∨ qsum (qlist cs) < q then 3 else 4 := if_pos e
  have bS := bt_int (sum_lt hs (by omega)) (by omega)
  have l1 : cLess [fr q, fr 0] (kv (.bool (decide (q < 0)))) := less_v hq bt_zero (by omega)
  have l2 := less_v bS hq (by omega)
  refine sd_seq (sd_ifS (b := decide (q < 0) || decide (((cs.sum : Int) : Rat) < q)) (et_or (et_B (ev_call (ea_cons (ev_var rfl) (ea_cons (ev_ref T.d_NOUGHT) ea_nil)) l1)) fun _ => et_B (ev_call (ea_cons (ev_call (ea_cons (v_sumQ hdc (ev_var rfl)) (ea_cons ev_int ea_nil)) made1_v) (ea_cons (ev_var rfl) ea_nil)) l2)) (fun z => ?_) (fun z => sd_next ?_))
  · refine sd_raise (h3 ?_)
    rw [hE, if_pos (by rw [qlist_sum]; simpa using z)]
  · have h4' : dealC w ws cs q = 4 := by rw [hE, if_neg (by rw [qlist_sum]; simpa using z)]
    have hk := h4 h4'
    have hw : WAYSL.contains w = true := by
      unfold lookC at e
      split at e
      · assumption
      · cases e
    obtain ⟨y, rfl⟩ := way_cases hw
    rw [wyOf_s] at hk
    exact sd_retf (evf_call (ea_cons (ev_var rfl) (ea_cons (ev_var rfl) (ea_cons (ev_var rfl) (ea_cons (ev_var rfl) ea_nil)))) (dealtBy_v hd hdc (ask_of h4' hl hs h20 hB hq hn))) hk
theorem sc_contrary_way : FnScope ["way"] ["way"] (defScope s_contrary_way) := ⟨rfl, rfl, rfl, by decide +kernel, rfl, by decide +kernel, by decide +kernel⟩
theorem ok_contrary_way (T : Txt K mg A) (hN : base.NoSeer) (hT : P.given.tree = none)  : OkN P w K mg base 1 "contrary_way" ["way"] (spc K (cContrary A.BadWay)) := by
  refine T.f_contrary_way.okN sc_contrary_way _ (fun ds k hc => by obtain ⟨_, rfl, _⟩ := hc; rfl) (fun cdv A' outer s H vs Q E hr h => ⟨_, (pss_cons (ps_if (pt_cmpR (o_notIn (K := K)) (pv 0) (pe_glob (v := .ref A.k_WAYS) rfl T.m_WAYS rfl) (by rfl)) (pss_one (ps_raiseCN rfl (L2N.takes_of rfl rfl rfl rfl) T.c_BadWay.x T.c_BadWay.g T.c_BadWay.k T.c_BadWay.b T.c_BadWay.t rfl)) pss_nil)
  (pss_cons (ps_if (PW.pt (pw_or (pt_cmpR (o_eq (K := K) hr.units) (pv 0) pe_str (nomark _)) (pw_or1 (pt_cmpR (o_eq (K := K) hr.units) (pv 0) pe_str (nomark _))))) (pss_one (ps_ret (pv 0))) pss_nil)
  (pss_cons (ps_if (pt_cmpR (o_in (K := K)) (pv 0) (pe_glob (v := .ref A.k_WEIGHED) rfl T.m_WEIGHED rfl) (by rfl)) (pss_one (ps_ret (pe_ix (i_any (K := K)) (pe_glob (v := .ref A.k_WEIGHED) rfl T.m_WEIGHED rfl) (pe_op o_sub pe_int (b_m (K := K) PySem.F.plainAttrs_tuple PySem.F.slot_tuple_index PySem.F.type_tuple_index (m_indexT (K := K)) (pe_glob (v := .ref A.k_WEIGHED) rfl T.m_WEIGHED rfl) (pa_cons (pv 0) pa_nil))) (fun _ _ => rfl)))) pss_nil)
  (pss_one (ps_ret (pe_ix (i_any (K := K)) (pe_glob (v := .ref A.k_WAYS) rfl T.m_WAYS rfl) (pe_op o_sub pe_int (b_m (K := K) PySem.F.plainAttrs_tuple PySem.F.slot_tuple_index PySem.F.type_tuple_index (m_indexT (K := K)) (pe_glob (v := .ref A.k_WAYS) rfl T.m_WAYS rfl) (pa_cons (pv 0) pa_nil))) (fun _ _ => rfl))))))), body_of h fun ds k hc => ?_⟩)
  obtain ⟨w, rfl, h0, h1⟩ := hc
  show Sd K _ _ _ [.val (.str w)] _
  refine sd_seq (sd_ifS (b := !WAYSL.contains w) (et_test (a_niS (.inr rfl) (ev_var rfl) (ev_ref T.d_WAYS))) (fun z => sd_raise (h0 (by simpa using z))) (fun z => sd_next ?_))
  obtain ⟨y, rfl⟩ := way_cases (w := w) (by simpa using z)
  have hk := h1 y rfl
  have eq : ∀ (a b : Str) (ρ : En), ρ[0]? = some (.val (.str a)) → SeqAt.shaped (.str a) = true → SeqAt.shaped (.str b) = true → EvT K (tTest (tOp (rEqD K) (tVar 0) (tC (V.str b)))) ρ (decide (a = b)) := fun a b ρ h s1 s2 => et_test (ev_eqS (ev_var h) ev_str s1 s2)
  have i1 : ∀ (z : Str) (k : Nat) (d : D), (["even", "lack"] : List Str).contains z = true → (["even", "lack"] : List Str).idxOf z = k → atI [PyData.str "even", .str "lack"] (1 - (k : Int)) = some d → Ev K (tOp (rIx K) (tC (.ref A.k_WEIGHED)) (tOp Pu.rSub (tC (V.int 1)) (tBM K "tuple" (rIndexT K) (tC (.ref A.k_WEIGHED)) (tCons (tVar 0) tNil)))) [.val (.str z)] d := fun z k d hz e h => by
    have q := v_indexT (ρ := [.val (.str z)]) (zs := ["even", "lack"]) T.d_WEIGHED T.t_WEIGHED (ev_var (i := 0) rfl) (List.contains_iff_mem.mp hz)
    rw [e] at q
    exact ev_ixST (ev_ref T.d_WEIGHED) (v_sub ev_int q) h
  have i2 : ∀ (z : Str) (k : Nat) (d : D), WAYSL.contains z = true → WAYSL.idxOf z = k → atI [PyData.str "row", .str "back", .str "even", .str "lack", .str "part", .str "half"] (1 - (k : Int)) = some d → Ev K (tOp (rIx K) (tC (.ref A.k_WAYS)) (tOp Pu.rSub (tC (V.int 1)) (tBM K "tuple" (rIndexT K) (tC (.ref A.k_WAYS)) (tCons (tVar 0) tNil)))) [.val (.str z)] d := fun z k d hz e h => by
    have q := v_indexT (ρ := [.val (.str z)]) (zs := WAYSL) T.d_WAYS T.t_WAYS (ev_var (i := 0) rfl) (List.contains_iff_mem.mp hz)
    rw [e] at q
    exact ev_ixST (ev_ref T.d_WAYS) (v_sub ev_int q) h
  have ph : ∀ (a : Str) (x y : Bool), SeqAt.shaped (.str a) = true → decide (a = "part") = x → decide (a = "half") = y → EvT K (tOr (tTest (tOp (rEqD K) (tVar 0) (tC (V.str "part")))) (tTest (tOp (rEqD K) (tVar 0) (tC (V.str "half"))))) [.val (.str a)] (x || y) := fun a x y s e1 e2 => et_or (EvT.is (eq a "part" _ rfl s (by decide +kernel)) e1) fun _ => EvT.is (eq a "half" _ rfl s (by decide +kernel)) e2
  have hw : ∀ (a : Str), EvT K (tTest (tOp (rIn K false) (tVar 0) (tC (.ref A.k_WEIGHED)))) [.val (.str a)] (WEIGHEDL.contains a) := fun a => et_test (a_inS (.inr rfl) (ev_var rfl) (ev_ref T.d_WEIGHED))
  cases y with
  | row =>
    refine sd_seq (sd_ifS (b := false) (ph "row" false false (by decide +kernel) (by decide) (by decide)) (fun z => nomatch z) (fun _ => sd_next ?_))
    refine sd_seq (sd_ifS (b := false) (EvT.is (hw "row") (by decide)) (fun z => nomatch z) (fun _ => sd_next ?_))
    exact sd_ret (i2 "row" 0 (.str "back") (by decide) (by decide) rfl) hk
  | back =>
    refine sd_seq (sd_ifS (b := false) (ph "back" false false (by decide +kernel) (by decide) (by decide)) (fun z => nomatch z) (fun _ => sd_next ?_))
    refine sd_seq (sd_ifS (b := false) (EvT.is (hw "back") (by decide)) (fun z => nomatch z) (fun _ => sd_next ?_))
    exact sd_ret (i2 "back" 1 (.str "row") (by decide) (by decide) rfl) hk
  | even =>
    refine sd_seq (sd_ifS (b := false) (ph "even" false false (by decide +kernel) (by decide) (by decide)) (fun z => nomatch z) (fun _ => sd_next ?_))
    refine sd_seq (sd_ifS (b := true) (EvT.is (hw "even") (by decide)) (fun _ => ?_) (fun z => nomatch z))
    exact sd_ret (i1 "even" 0 (.str "lack") (by decide) (by decide) rfl) hk
  | lack =>
    refine sd_seq (sd_ifS (b := false) (ph "lack" false false (by decide +kernel) (by decide) (by decide)) (fun z => nomatch z) (fun _ => sd_next ?_))
    refine sd_seq (sd_ifS (b := true) (EvT.is (hw "lack") (by decide)) (fun _ => ?_) (fun z => nomatch z))
    exact sd_ret (i1 "lack" 1 (.str "even") (by decide) (by decide) rfl) hk
  | part =>
    refine sd_seq (sd_ifS (b := true) (ph "part" true false (by decide +kernel) (by decide) (by decide)) (fun _ => ?_) (fun z => nomatch z))
    exact sd_ret (ev_var rfl) hk
  | half =>
    refine sd_seq (sd_ifS (b := true) (ph "half" false true (by decide +kernel) (by decide) (by decide)) (fun _ => ?_) (fun z => nomatch z))
    exact sd_ret (ev_var rfl) hk
theorem sc__law_refusal : FnScope ["ask", "way", "weights", "claims", "catch", "found", "told", "e", "kinds", "kind"] ["ask", "way", "weights", "claims", "catch"] (defScope s__law_refusal) := ⟨rfl, rfl, rfl, by decide +kernel, rfl, by decide +kernel, by decide +kernel⟩
structure K13 (K : Frag) (A : Ad) (C : Addr) (i : Nat) : Prop where
  lt : i < 4
  e : ExcC K C
  h : PySem.W.exmOne K (.ref C) (.ref A.CatchError) = some true
  k0 : PySem.W.kitOne K (.ref C) (.ref A.BadWay) = some (decide (i = 0))
  k1 : PySem.W.kitOne K (.ref C) (.ref A.BadClaim) = some (decide (i = 1))
  k2 : PySem.W.kitOne K (.ref C) (.ref A.BadWeights) = some (decide (i = 2))
  k3 : PySem.W.kitOne K (.ref C) (.ref A.Outside) = some (decide (i = 3))
  kv : PySem.W.kitOne K (.ref C) (.type "ValueError") = some true
  no : PySem.W.kitAny K (.ref C) ([A.BadCatch, A.BadLine, A.NoBoat, A.NoFraction, A.NoText, A.TooMany, A.Unlike].map Value.ref) = some false
theorem k13_0 {K : Frag} {mg : Str → Option Value} {A : Ad} (T : Txt K mg A) : K13 K A A.BadWay 0 := ⟨by decide, T.c_BadWay.e, T.h_BadWay_CatchError, T.y_BadWay_BadWay, T.n_BadWay_BadClaim, T.n_BadWay_BadWeights, T.n_BadWay_Outside, T.y_BadWay_ValueError, kitAny_no fun c m => by
  simp only [List.map_cons, List.map_nil, List.mem_cons, List.not_mem_nil, or_false] at m
  rcases m with rfl | rfl | rfl | rfl | rfl | rfl | rfl
  · exact T.n_BadWay_BadCatch
  · exact T.n_BadWay_BadLine
  · exact T.n_BadWay_NoBoat
  · exact T.n_BadWay_NoFraction
  · exact T.n_BadWay_NoText
  · exact T.n_BadWay_TooMany
  · exact T.n_BadWay_Unlike⟩
theorem k13_1 {K : Frag} {mg : Str → Option Value} {A : Ad} (T : Txt K mg A) : K13 K A A.BadClaim 1 := ⟨by decide, T.c_BadClaim.e, T.h_BadClaim_CatchError, T.n_BadClaim_BadWay, T.y_BadClaim_BadClaim, T.n_BadClaim_BadWeights, T.n_BadClaim_Outside, T.y_BadClaim_ValueError, kitAny_no fun c m => by
  simp only [List.map_cons, List.map_nil, List.mem_cons, List.not_mem_nil, or_false] at m
  rcases m with rfl | rfl | rfl | rfl | rfl | rfl | rfl
  · exact T.n_BadClaim_BadCatch
  · exact T.n_BadClaim_BadLine
  · exact T.n_BadClaim_NoBoat
  · exact T.n_BadClaim_NoFraction
  · exact T.n_BadClaim_NoText
  · exact T.n_BadClaim_TooMany
  · exact T.n_BadClaim_Unlike⟩
theorem k13_2 {K : Frag} {mg : Str → Option Value} {A : Ad} (T : Txt K mg A) : K13 K A A.BadWeights 2 := ⟨by decide, T.c_BadWeights.e, T.h_BadWeights_CatchError, T.n_BadWeights_BadWay, T.n_BadWeights_BadClaim, T.y_BadWeights_BadWeights, T.n_BadWeights_Outside, T.y_BadWeights_ValueError, kitAny_no fun c m => by
  simp only [List.map_cons, List.map_nil, List.mem_cons, List.not_mem_nil, or_false] at m
  rcases m with rfl | rfl | rfl | rfl | rfl | rfl | rfl
  · exact T.n_BadWeights_BadCatch
  · exact T.n_BadWeights_BadLine
  · exact T.n_BadWeights_NoBoat
  · exact T.n_BadWeights_NoFraction
  · exact T.n_BadWeights_NoText
  · exact T.n_BadWeights_TooMany
  · exact T.n_BadWeights_Unlike⟩
theorem k13_3 {K : Frag} {mg : Str → Option Value} {A : Ad} (T : Txt K mg A) : K13 K A A.Outside 3 := ⟨by decide, T.c_Outside.e, T.h_Outside_CatchError, T.n_Outside_BadWay, T.n_Outside_BadClaim, T.n_Outside_BadWeights, T.y_Outside_Outside, T.y_Outside_ValueError, kitAny_no fun c m => by
  simp only [List.map_cons, List.map_nil, List.mem_cons, List.not_mem_nil, or_false] at m
  rcases m with rfl | rfl | rfl | rfl | rfl | rfl | rfl
  · exact T.n_Outside_BadCatch
  · exact T.n_Outside_BadLine
  · exact T.n_Outside_NoBoat
  · exact T.n_Outside_NoFraction
  · exact T.n_Outside_NoText
  · exact T.n_Outside_TooMany
  · exact T.n_Outside_Unlike⟩
def bits13 (i : Nat) : List Bool := [decide (i = 0), decide (i = 1), decide (i = 2), decide (i = 3)]
theorem bits13_sum {i : Nat} (h : i < 4) : ((bits13 i).map fun b => if b then (1 : Int) else 0).sum = 1 := by
  rcases (by omega : i = 0 ∨ i = 1 ∨ i = 2 ∨ i = 3) with rfl | rfl | rfl | rfl <;> rfl
theorem bits13_ix {i : Nat} (h : i < 4) : true ∈ bits13 i ∧ (bits13 i).idxOf true = i := by
  rcases (by omega : i = 0 ∨ i = 1 ∨ i = 2 ∨ i = 3) with rfl | rfl | rfl | rfl <;> decide
def dealD (w : Str) (ws cs : List Int) (q : Rat) : D := if dealC w ws cs q = 4 then .list (fls (dealOf (wyOf w) (qlist ws) (qlist cs) q)) else .none
def conC (w : Str) : Nat := if WAYSL.contains w then 4 else 0
def conD (w : Str) : D := if WAYSL.contains w then .str (wyOf w).con.s else .none
def cRefusal : Ct := fun ds k => ∃ (a : Int) (w : Str) (dw dc : D) (ws cs : List Int) (q : Rat) (n : Nat), ds = [.int a, .str w, dw, dc, fr q] ∧ SeqD dw (ws.map PyData.int) ∧ SeqD dc (cs.map PyData.int) ∧ cs.length ≤ 64 ∧ small cs 200 ∧ bt q n ∧ n ≤ 1000000 ∧
  ((a = 0 ∧ k.rt (.tuple [.int (lookC w ws cs), .none])) ∨ (a = 1 ∧ k.rt (.tuple [.int (dealC w ws cs q), dealD w ws cs q])) ∨ (a = 2 ∧ k.rt (.tuple [.int (conC w), conD w])))
theorem ok__law_refusal (T : Txt K mg A) (hN : base.NoSeer) (hT : P.given.tree = none) (fnN_looked : OkN P w K mg base 2 "looked" ["way", "weights", "claims"] (spc K (cLooked A.BadWay A.BadClaim A.BadWeights))) (fnN_dealt : OkN P w K mg base 45 "dealt" ["way", "weights", "claims", "catch"] (spc K (cDealt A.BadWay A.BadClaim A.BadWeights A.Outside))) (fnN_contrary_way : OkN P w K mg base 1 "contrary_way" ["way"] (spc K (cContrary A.BadWay))) : OkN P w K mg base 46 "_law_refusal" ["ask", "way", "weights", "claims", "catch"] (spc K cRefusal) := by
  refine T.f__law_refusal.okN sc__law_refusal _ (fun ds k hc => by obtain ⟨_, _, _, _, _, _, _, _, rfl, _⟩ := hc; rfl) (fun cdv A' outer s H vs Q E hr h => ⟨_, (pss_cons (ps_set (i := 5) sc__law_refusal.nd rfl (by first | exact Or.inl rfl | exact Or.inr rfl) pe_int)
  (pss_cons (ps_set (i := 6) sc__law_refusal.nd rfl (by first | exact Or.inl rfl | exact Or.inr rfl) pe_non)
  (pss_cons (t_tryN (K := K) (i := 7) rfl rfl sc__law_refusal.nd rfl rfl ⟨rfl, by decide, .inl T.c_CatchError.g⟩ (L2N.takes_of rfl rfl rfl rfl)
    (fun W pn xe tk po => (pss_one (ps_if (pt_cmpR (o_eq (K := K) hr.units) (pv 0) pe_int (nomark _)) (pss_one (ps_set (i := 6) sc__law_refusal.nd rfl (by first | exact Or.inl rfl | exact Or.inr rfl) (pe_fnN fnN_looked (hr.mono (by decide)) tk rfl (pa_cons (pv 1) (pa_cons (pv 2) (pa_cons (pv 3) pa_nil)))))) (pss_one (ps_if (pt_cmpR (o_eq (K := K) hr.units) (pv 0) pe_int (nomark _)) (pss_one (ps_set (i := 6) sc__law_refusal.nd rfl (by first | exact Or.inl rfl | exact Or.inr rfl) (pe_fnN fnN_dealt (hr.mono (by decide)) tk rfl (pa_cons (pv 1) (pa_cons (pv 2) (pa_cons (pv 3) (pa_cons (pv 4) pa_nil))))))) (pss_one (ps_set (i := 6) sc__law_refusal.nd rfl (by first | exact Or.inl rfl | exact Or.inr rfl) (pe_fnN fnN_contrary_way (hr.mono (by decide)) tk rfl (pa_cons (pv 1) pa_nil)))))))))
    (fun a oe cls d pn hz hf => (pss_cons (ps_set (i := 8) sc__law_refusal.nd rfl (by first | exact Or.inl rfl | exact Or.inr rfl) (pe_lst (pa_cons (pe_callB (c_isX (K := K) (L2N.Zn.zc hz) hf) (by rfl) T.z_isinstance (by decide +kernel) (pa_cons (pv 7) (pa_cons (pe_glob (v := .ref A.BadWay) rfl T.c_BadWay.g rfl) pa_nil))) (pa_cons (pe_callB (c_isX (K := K) (L2N.Zn.zc hz) hf) (by rfl) T.z_isinstance (by decide +kernel) (pa_cons (pv 7) (pa_cons (pe_glob (v := .ref A.BadClaim) rfl T.c_BadClaim.g rfl) pa_nil))) (pa_cons (pe_callB (c_isX (K := K) (L2N.Zn.zc hz) hf) (by rfl) T.z_isinstance (by decide +kernel) (pa_cons (pv 7) (pa_cons (pe_glob (v := .ref A.BadWeights) rfl T.c_BadWeights.g rfl) pa_nil))) (pa_cons (pe_callB (c_isX (K := K) (L2N.Zn.zc hz) hf) (by rfl) T.z_isinstance (by decide +kernel) (pa_cons (pv 7) (pa_cons (pe_glob (v := .ref A.Outside) rfl T.c_Outside.g rfl) pa_nil))) pa_nil))))))
  (pss_cons (ps_set (i := 5) sc__law_refusal.nd rfl (by first | exact Or.inl rfl | exact Or.inr rfl) (pe_un o_neg pe_int))
  (pss_cons (ps_if (PW.pt (pw_and (pt_cmpR (o_eq (K := K) hr.units) (pe_callB (c_sumH (K := K) (hot_suite hz hf)) (by rfl) T.z_sum (by decide +kernel) (pa_cons (pe_lcH (own := [("kind", 9)]) (hot_suite hz hf) sc__law_refusal.nd (pi_listHK (K := K) (pv 8)) (blkOk_by (N := ["ask", "way", "weights", "claims", "catch", "found", "told", "e", "kinds", "kind"]) (sc := defScope s__law_refusal) (by decide +kernel)) (fun _ _ _ _ _ => (pg_name (i := 9) sc__law_refusal.nd rfl (by first | exact Or.inl rfl | exact Or.inr rfl))) (fun _ _ _ _ _ => (pe_callTy (c_intA) (by rfl) T.z_int (by decide +kernel) (pa_cons (pv 9) pa_nil)))) pa_nil)) pe_int (nomark _)) (pw_and1 (pt_val (pe_callB (c_isX (K := K) (L2N.Zn.zc hz) hf) (by rfl) T.z_isinstance (by decide +kernel) (pa_cons (pv 7) (pa_cons (pe_bltn (v := .ty "ValueError") (by rfl) T.z_ValueError (by decide +kernel) rfl) pa_nil))))))) (pss_one (ps_set (i := 5) sc__law_refusal.nd rfl (by first | exact Or.inl rfl | exact Or.inr rfl) (b_m (K := K) PySem.F.plainAttrs_list PySem.F.slot_list_index PySem.F.type_list_index (m_index (K := K)) (pv 8) (pa_cons pe_bl pa_nil)))) pss_nil)
  (pss_one (ps_if (pt_val (pe_callB (c_isX (K := K) (L2N.Zn.zc hz) hf) (by rfl) T.z_isinstance (by decide +kernel) (pa_cons (pv 7) (pa_cons (pe_tup (pa_cons (pe_glob (v := .ref A.BadCatch) rfl T.c_BadCatch.g rfl) (pa_cons (pe_glob (v := .ref A.BadLine) rfl T.c_BadLine.g rfl) (pa_cons (pe_glob (v := .ref A.NoBoat) rfl T.c_NoBoat.g rfl) (pa_cons (pe_glob (v := .ref A.NoFraction) rfl T.c_NoFraction.g rfl) (pa_cons (pe_glob (v := .ref A.NoText) rfl T.c_NoText.g rfl) (pa_cons (pe_glob (v := .ref A.TooMany) rfl T.c_TooMany.g rfl) (pa_cons (pe_glob (v := .ref A.Unlike) rfl T.c_Unlike.g rfl) pa_nil)))))))) pa_nil)))) (pss_one (ps_set (i := 5) sc__law_refusal.nd rfl (by first | exact Or.inl rfl | exact Or.inr rfl) (pe_un o_neg pe_int))) pss_nil)))))))
  (pss_one (ps_ret (pe_tup (pa_cons (pv 5) (pa_cons (pv 6) pa_nil)))))))), body_of h fun ds k hc => ?_⟩)
  obtain ⟨a, w, dw, dc, ws, cs, q, n, rfl, hdw, hdc, hl, hsm, hq, hn, hk⟩ := hc
  show Sd K _ _ _ [.val (.int a), .val (.str w), .val dw, .val dc, .val (fr q), .un, .un, .un, .un, .un] _
  refine sd_seq (sd_set ev_int ?_)
  refine sd_seq (sd_set ev_non ?_)
  have a0 : ∀ (ρ : En) (j : Int), ρ[0]? = some (.val (.int a)) → EvT K (tTest (tOp (rEqD K) (tVar 0) (tC (V.int j)))) ρ (decide (a = j)) := fun ρ j h => EvT.is (et_test (ev_eqD (d1 := .int a) (d2 := .int j) (ev_var h) ev_int rfl rfl)) eqv_int
  rcases hk with ⟨rfl, hk⟩ | ⟨rfl, hk⟩ | ⟨rfl, hk⟩
  · have hc : lookC w ws cs = 4 ∨ ∃ C, K13 K A C (lookC w ws cs) ∧ cLooked A.BadWay A.BadClaim A.BadWeights [.str w, dw, dc] (kx (.ref C)) := by
      have hv : lookC w ws cs = 0 ∨ lookC w ws cs = 1 ∨ lookC w ws cs = 2 ∨ lookC w ws cs = 4 := by
        unfold lookC
        split
        · split
          · exact .inr (.inl rfl)
          · split
            · exact .inr (.inr (.inr rfl))
            · exact .inr (.inr (.inl rfl))
        · exact .inl rfl
      rcases hv with e | e | e | e
      · refine .inr ⟨A.BadWay, by rw [e]; exact k13_0 T, w, dw, dc, ws, cs, rfl, hdw, hdc, fun _ => rfl, fun z => ?_, fun z => ?_, fun z => ?_⟩ <;> (rw [e] at z; cases z)
      · refine .inr ⟨A.BadClaim, by rw [e]; exact k13_1 T, w, dw, dc, ws, cs, rfl, hdw, hdc, fun z => ?_, fun _ => rfl, fun z => ?_, fun z => ?_⟩ <;> (rw [e] at z; cases z)
      · refine .inr ⟨A.BadWeights, by rw [e]; exact k13_2 T, w, dw, dc, ws, cs, rfl, hdw, hdc, fun z => ?_, fun z => ?_, fun _ => rfl, fun z => ?_⟩ <;> (rw [e] at z; cases z)
      · exact .inl e
    rcases hc with e | ⟨C, hC, hx⟩
    · rw [e] at hk
      have hv : cLooked A.BadWay A.BadClaim A.BadWeights [.str w, dw, dc] (kv .none) := by
        refine ⟨w, dw, dc, ws, cs, rfl, hdw, hdc, fun z => ?_, fun z => ?_, fun z => ?_, fun _ => rfl⟩ <;> (rw [e] at z; cases z)
      refine sd_seq (sd_tryAs fun W' => ?_)
      refine sd_ifS (b := true) (a0 _ 0 rfl) (fun _ => ?_) (fun z => nomatch z)
      refine sd_set (ev_call (ea_cons (ev_var rfl) (ea_cons (ev_var rfl) (ea_cons (ev_var rfl) ea_nil))) hv) ?_
      exact sd_ret (ev_tup (ea_cons (ev_var rfl) (ea_cons (ev_var rfl) ea_nil)) (by exact Nat.le_of_ble_eq_true rfl)) hk
    · generalize lookC w ws cs = i at hk hC
      refine sd_seq (sd_tryAs fun W' => ?_)
      refine sd_ifS (b := true) (a0 _ 0 rfl) (fun _ => ?_) (fun z => nomatch z)
      refine sd_setx (evx_call (ea_cons (ev_var rfl) (ea_cons (ev_var rfl) (ea_cons (ev_var rfl) ea_nil))) hx) ⟨true, hC.h, fun _ a => ?_, fun e => nomatch e⟩
      refine sd_seq (sd_set (d := .list ((bits13 i).map PyData.bool)) (EvF.v (evf_lst (ea_cons (a_isX rfl hC.e (fun u h => h) hC.k0 rfl) (ea_cons (a_isX rfl hC.e (fun u h => h) hC.k1 rfl) (ea_cons (a_isX rfl hC.e (fun u h => h) hC.k2 rfl) (ea_cons (a_isX rfl hC.e (fun u h => h) hC.k3 rfl) ea_nil)))) (by exact Nat.le_of_ble_eq_true rfl))) ?_)
      refine sd_seq (sd_set (d := .int (-1)) (by walk_at "ev") ?_)
      refine sd_seq (sd_ifS (b := true && true) (et_and (EvT.is (et_test (ev_eqD (d1 := .int 1) (d2 := .int 1) (by
        rw [← bits13_sum hC.lt]
        refine v_sumH (EvF.l ?_)
        rw [List.map_map]
        exact f_mapA (enc := PyData.bool) _ (id_listH (ev_var rfl)) (gw_name (by decide)) (fun j b hb => ⟨_, gd_name, v_intB (ev_var rfl)⟩) (by show 4 ≤ 100000; decide)) ev_int rfl rfl)) rfl) fun _ => et_test (a_isX rfl hC.e (fun u h => h) hC.kv rfl)) (fun _ => ?_) (fun z => nomatch z))
      obtain ⟨b1, b2⟩ := bits13_ix hC.lt
      refine sd_set (d := .int (i : Int)) (Ev.is (v_indexB (z := true) (zs := bits13 i) (ev_var rfl).l ev_bl b1) (by rw [b2])) ?_
      refine sd_ifS (b := false) (et_test (a_isXT (cs := [A.BadCatch, A.BadLine, A.NoBoat, A.NoFraction, A.NoText, A.TooMany, A.Unlike]) rfl rfl hC.e hC.no (Nat.le_of_ble_eq_true rfl) rfl)) (fun z => nomatch z) (fun _ => sd_next ?_)
      exact sd_ret (ev_tup (ea_cons (ev_var rfl) (ea_cons (ev_var rfl) ea_nil)) (by exact Nat.le_of_ble_eq_true rfl)) hk
  · have hc : dealC w ws cs q = 4 ∨ ∃ C, K13 K A C (dealC w ws cs q) ∧ cDealt A.BadWay A.BadClaim A.BadWeights A.Outside [.str w, dw, dc, fr q] (kx (.ref C)) := by
      have hv : dealC w ws cs q = 0 ∨ dealC w ws cs q = 1 ∨ dealC w ws cs q = 2 ∨ dealC w ws cs q = 3 ∨ dealC w ws cs q = 4 := by
        unfold dealC
        split
        · split
          · exact .inr (.inr (.inr (.inl rfl)))
          · exact .inr (.inr (.inr (.inr rfl)))
        · rename_i h4
          unfold lookC at h4 ⊢
          split at h4
          · rename_i h1
            rw [if_pos h1]
            split at h4
            · rename_i h2
              rw [if_pos h2]
              exact .inr (.inl rfl)
            · rename_i h2
              rw [if_neg h2]
              split at h4
              · exact absurd rfl h4
              · rename_i h3
                rw [if_neg h3]
                exact .inr (.inr (.inl rfl))
          · rename_i h1
            rw [if_neg h1]
            exact .inl rfl
      rcases hv with e | e | e | e | e
      · refine .inr ⟨A.BadWay, by rw [e]; exact k13_0 T, w, dw, dc, ws, cs, q, 200, n, rfl, hdw, hdc, hl, hsm, by decide, by decide, hq, hn, fun _ => rfl, fun z => ?_, fun z => ?_, fun z => ?_, fun z => ?_⟩ <;> (rw [e] at z; cases z)
      · refine .inr ⟨A.BadClaim, by rw [e]; exact k13_1 T, w, dw, dc, ws, cs, q, 200, n, rfl, hdw, hdc, hl, hsm, by decide, by decide, hq, hn, fun z => ?_, fun _ => rfl, fun z => ?_, fun z => ?_, fun z => ?_⟩ <;> (rw [e] at z; cases z)
      · refine .inr ⟨A.BadWeights, by rw [e]; exact k13_2 T, w, dw, dc, ws, cs, q, 200, n, rfl, hdw, hdc, hl, hsm, by decide, by decide, hq, hn, fun z => ?_, fun z => ?_, fun _ => rfl, fun z => ?_, fun z => ?_⟩ <;> (rw [e] at z; cases z)
      · refine .inr ⟨A.Outside, by rw [e]; exact k13_3 T, w, dw, dc, ws, cs, q, 200, n, rfl, hdw, hdc, hl, hsm, by decide, by decide, hq, hn, fun z => ?_, fun z => ?_, fun z => ?_, fun _ => rfl, fun z => ?_⟩ <;> (rw [e] at z; cases z)
      · exact .inl e
    rcases hc with e | ⟨C, hC, hx⟩
    · unfold dealD at hk
      rw [if_pos e, e] at hk
      have hv : cDealt A.BadWay A.BadClaim A.BadWeights A.Outside [.str w, dw, dc, fr q] (kl (fls (dealOf (wyOf w) (qlist ws) (qlist cs) q))) := by
        refine ⟨w, dw, dc, ws, cs, q, 200, n, rfl, hdw, hdc, hl, hsm, by decide, by decide, hq, hn, fun z => ?_, fun z => ?_, fun z => ?_, fun z => ?_, fun _ => rfl⟩ <;> (rw [e] at z; cases z)
      refine sd_seq (sd_tryAs fun W' => ?_)
      refine sd_ifS (b := false) (a0 _ 0 rfl) (fun z => nomatch z) (fun _ => ?_)
      refine sd_ifS (b := true) (a0 _ 1 rfl) (fun _ => ?_) (fun z => nomatch z)
      refine sd_set (EvF.v (evf_call (ea_cons (ev_var rfl) (ea_cons (ev_var rfl) (ea_cons (ev_var rfl) (ea_cons (ev_var rfl) ea_nil)))) hv)) ?_
      exact sd_ret (ev_tup (ea_cons (ev_var rfl) (ea_cons (ev_var rfl) ea_nil)) (by exact Nat.le_of_ble_eq_true rfl)) hk
    · have hlt := hC.lt
      unfold dealD at hk
      rw [if_neg (by omega)] at hk
      generalize dealC w ws cs q = i at hk hC
      refine sd_seq (sd_tryAs fun W' => ?_)
      refine sd_ifS (b := false) (a0 _ 0 rfl) (fun z => nomatch z) (fun _ => ?_)
      refine sd_ifS (b := true) (a0 _ 1 rfl) (fun _ => ?_) (fun z => nomatch z)
      refine sd_setx (evx_call (ea_cons (ev_var rfl) (ea_cons (ev_var rfl) (ea_cons (ev_var rfl) (ea_cons (ev_var rfl) ea_nil)))) hx) ⟨true, hC.h, fun _ a => ?_, fun e => nomatch e⟩
      refine sd_seq (sd_set (d := .list ((bits13 i).map PyData.bool)) (EvF.v (evf_lst (ea_cons (a_isX rfl hC.e (fun u h => h) hC.k0 rfl) (ea_cons (a_isX rfl hC.e (fun u h => h) hC.k1 rfl) (ea_cons (a_isX rfl hC.e (fun u h => h) hC.k2 rfl) (ea_cons (a_isX rfl hC.e (fun u h => h) hC.k3 rfl) ea_nil)))) (by exact Nat.le_of_ble_eq_true rfl))) ?_)
      refine sd_seq (sd_set (d := .int (-1)) (by walk_at "ev") ?_)
      refine sd_seq (sd_ifS (b := true && true) (et_and (EvT.is (et_test (ev_eqD (d1 := .int 1) (d2 := .int 1) (by
        rw [← bits13_sum hC.lt]
        refine v_sumH (EvF.l ?_)
        rw [List.map_map]
        exact f_mapA (enc := PyData.bool) _ (id_listH (ev_var rfl)) (gw_name (by decide)) (fun j b hb => ⟨_, gd_name, v_intB (ev_var rfl)⟩) (by show 4 ≤ 100000; decide)) ev_int rfl rfl)) rfl) fun _ => et_test (a_isX rfl hC.e (fun u h => h) hC.kv rfl)) (fun _ => ?_) (fun z => nomatch z))
      obtain ⟨b1, b2⟩ := bits13_ix hC.lt
      refine sd_set (d := .int (i : Int)) (Ev.is (v_indexB (z := true) (zs := bits13 i) (ev_var rfl).l ev_bl b1) (by rw [b2])) ?_
      refine sd_ifS (b := false) (et_test (a_isXT (cs := [A.BadCatch, A.BadLine, A.NoBoat, A.NoFraction, A.NoText, A.TooMany, A.Unlike]) rfl rfl hC.e hC.no (Nat.le_of_ble_eq_true rfl) rfl)) (fun z => nomatch z) (fun _ => sd_next ?_)
      exact sd_ret (ev_tup (ea_cons (ev_var rfl) (ea_cons (ev_var rfl) ea_nil)) (by exact Nat.le_of_ble_eq_true rfl)) hk
  · unfold conC conD at hk
    cases hw : WAYSL.contains w with
    | true =>
      rw [hw, if_pos rfl, if_pos rfl] at hk
      obtain ⟨y, rfl⟩ := way_cases hw
      rw [wyOf_s] at hk
      refine sd_seq (sd_tryAs fun W' => ?_)
      refine sd_ifS (b := false) (a0 _ 0 rfl) (fun z => nomatch z) (fun _ => ?_)
      refine sd_ifS (b := false) (a0 _ 1 rfl) (fun z => nomatch z) (fun _ => ?_)
      refine sd_set (ev_call (ea_cons (ev_var rfl) ea_nil) contrary_v) ?_
      exact sd_ret (ev_tup (ea_cons (ev_var rfl) (ea_cons (ev_var rfl) ea_nil)) (by exact Nat.le_of_ble_eq_true rfl)) hk
    | false =>
      rw [hw, if_neg (by decide), if_neg (by decide)] at hk
      have hx : cContrary A.BadWay [.str w] (kx (.ref A.BadWay)) := ⟨w, rfl, fun _ => rfl, fun y e => by rw [e, ways_s] at hw; cases hw⟩
      have hC := k13_0 T
      obtain ⟨C, hCe⟩ : ∃ C, C = A.BadWay := ⟨_, rfl⟩
      rw [← hCe] at hC
      have hx : cContrary A.BadWay [.str w] (kx (.ref C)) := by rw [hCe]; exact hx
      obtain ⟨i, hi⟩ : ∃ i : Nat, i = 0 := ⟨_, rfl⟩
      rw [← hi] at hC hk
      refine sd_seq (sd_tryAs fun W' => ?_)
      refine sd_ifS (b := false) (a0 _ 0 rfl) (fun z => nomatch z) (fun _ => ?_)
      refine sd_ifS (b := false) (a0 _ 1 rfl) (fun z => nomatch z) (fun _ => ?_)
      refine sd_setx (evx_call (ea_cons (ev_var rfl) ea_nil) hx) ⟨true, hC.h, fun _ a => ?_, fun e => nomatch e⟩
      refine sd_seq (sd_set (d := .list ((bits13 i).map PyData.bool)) (EvF.v (evf_lst (ea_cons (a_isX rfl hC.e (fun u h => h) hC.k0 rfl) (ea_cons (a_isX rfl hC.e (fun u h => h) hC.k1 rfl) (ea_cons (a_isX rfl hC.e (fun u h => h) hC.k2 rfl) (ea_cons (a_isX rfl hC.e (fun u h => h) hC.k3 rfl) ea_nil)))) (by exact Nat.le_of_ble_eq_true rfl))) ?_)
      refine sd_seq (sd_set (d := .int (-1)) (by walk_at "ev") ?_)
      refine sd_seq (sd_ifS (b := true && true) (et_and (EvT.is (et_test (ev_eqD (d1 := .int 1) (d2 := .int 1) (by
        rw [← bits13_sum hC.lt]
        refine v_sumH (EvF.l ?_)
        rw [List.map_map]
        exact f_mapA (enc := PyData.bool) _ (id_listH (ev_var rfl)) (gw_name (by decide)) (fun j b hb => ⟨_, gd_name, v_intB (ev_var rfl)⟩) (by show 4 ≤ 100000; decide)) ev_int rfl rfl)) rfl) fun _ => et_test (a_isX rfl hC.e (fun u h => h) hC.kv rfl)) (fun _ => ?_) (fun z => nomatch z))
      obtain ⟨b1, b2⟩ := bits13_ix hC.lt
      refine sd_set (d := .int (i : Int)) (Ev.is (v_indexB (z := true) (zs := bits13 i) (ev_var rfl).l ev_bl b1) (by rw [b2])) ?_
      refine sd_ifS (b := false) (et_test (a_isXT (cs := [A.BadCatch, A.BadLine, A.NoBoat, A.NoFraction, A.NoText, A.TooMany, A.Unlike]) rfl rfl hC.e hC.no (Nat.le_of_ble_eq_true rfl) rfl)) (fun z => nomatch z) (fun _ => sd_next ?_)
      exact sd_ret (ev_tup (ea_cons (ev_var rfl) (ea_cons (ev_var rfl) ea_nil)) (by exact Nat.le_of_ble_eq_true rfl)) hk
theorem sc_law : FnScope ["script", "way", "claims", "weights", "cell", "whole", "catch", "handed", "due", "found", "ways"] ["script"] (defScope s_law) := ⟨rfl, rfl, rfl, by decide +kernel, rfl, by decide +kernel, by decide +kernel⟩
theorem ok_law {f : Addr} {fd : FuncData} (F : Fun K "law" "law" s_law f fd) (T : Txt K mg A) (hN : base.NoSeer) (hT : P.given.tree = none) (fnN__law_way : OkN P w K mg base 1 "_law_way" ["cell"] (spc K cWay)) (fnN__law_cell_at : OkN P w K mg base 1 "_law_cell_at" ["script", "k"] (spc K cCell)) (fnN__law_claims : OkN P w K mg base 2 "_law_claims" ["script", "cell"] (spc K cClaims)) (fnN__law_weights : OkN P w K mg base 2 "_law_weights" ["script", "cell", "way", "many"] (spc K cWeights)) (fnN__law_fraction : OkN P w K mg base 40 "_law_fraction" ["top", "bottom"] (spc K cLFr)) (fnN__law_due : OkN P w K mg base 1 "_law_due" ["way", "weights", "claims"] (spc K cDue)) (fnN__law_refusal : OkN P w K mg base 46 "_law_refusal" ["ask", "way", "weights", "claims", "catch"] (spc K cRefusal)) : FnOk P w K mg base CX0 47 f fd ["script"] (spc K cLaw) := by
  refine FnAt.law F sc_law _ cLaw_len (fun cdv A' outer s H vs Q E hr h => ⟨_, (pss_cons (ps_set (i := 1) sc_law.nd rfl (by first | exact Or.inl rfl | exact Or.inr rfl) (pe_fnN fnN__law_way (hr.mono (by decide)) takes0N rfl (pa_cons (pe_op o_mod (pe_fnN fnN__law_cell_at (hr.mono (by decide)) takes0N rfl (pa_cons (pv 0) (pa_cons pe_int pa_nil))) (pe_op o_pow pe_int pe_int)) pa_nil)))
  (pss_cons (ps_set (i := 2) sc_law.nd rfl (by first | exact Or.inl rfl | exact Or.inr rfl) (pe_fnN fnN__law_claims (hr.mono (by decide)) takes0N rfl (pa_cons (pv 0) (pa_cons (pe_op o_mod (pe_fnN fnN__law_cell_at (hr.mono (by decide)) takes0N rfl (pa_cons (pv 0) (pa_cons pe_int pa_nil))) (pe_op o_pow pe_int pe_int)) pa_nil))))
  (pss_cons (ps_set (i := 3) sc_law.nd rfl (by first | exact Or.inl rfl | exact Or.inr rfl) (pe_fnN fnN__law_weights (hr.mono (by decide)) takes0N rfl (pa_cons (pv 0) (pa_cons (pe_op o_mod (pe_fnN fnN__law_cell_at (hr.mono (by decide)) takes0N rfl (pa_cons (pv 0) (pa_cons pe_int pa_nil))) (pe_op o_pow pe_int pe_int)) (pa_cons (pv 1) (pa_cons (pe_callB (c_lenA (K := K)) (by rfl) T.z_len (by decide +kernel) (pa_cons (pv 2) pa_nil)) pa_nil))))))
  (pss_cons (ps_set (i := 4) sc_law.nd rfl (by first | exact Or.inl rfl | exact Or.inr rfl) (pe_op o_mod (pe_fnN fnN__law_cell_at (hr.mono (by decide)) takes0N rfl (pa_cons (pv 0) (pa_cons pe_int pa_nil))) (pe_op o_pow pe_int pe_int)))
  (pss_cons (ps_set (i := 5) sc_law.nd rfl (by first | exact Or.inl rfl | exact Or.inr rfl) (pe_callB (c_sumA (K := K) rfl) (by rfl) T.z_sum (by decide +kernel) (pa_cons (pv 2) pa_nil)))
  (pss_cons (ps_set (i := 6) sc_law.nd rfl (by first | exact Or.inl rfl | exact Or.inr rfl) (pe_fnN fnN__law_fraction (hr.mono (by decide)) takes0N rfl (pa_cons (pe_op o_mod (pe_op o_fdiv (pv 4) pe_int) (pe_op (o_plus (K := K)) (pe_op o_mul pe_int (pe_callB (c_abs) (by rfl) T.z_abs (by decide +kernel) (pa_cons (pv 5) pa_nil))) pe_int)) (pa_cons pe_int pa_nil))))
  (pss_cons (ps_if (pt_cmpR (o_eq (K := K) hr.units) (pe_op o_mod (pv 4) pe_int) pe_int (nomark _)) (pss_one (ps_set (i := 6) sc_law.nd rfl (by first | exact Or.inl rfl | exact Or.inr rfl) (pe_fnN fnN__law_fraction (hr.mono (by decide)) takes0N rfl (pa_cons (pe_op (o_plus (K := K)) (pe_op (o_plus (K := K)) (pe_op o_mul pe_int (pv 5)) pe_int) (pe_op o_mod (pe_op o_fdiv (pv 4) pe_int) (pe_ix (i_any (K := K)) (pe_lst (pa_cons pe_int (pa_cons (pe_op o_pow pe_int pe_int) pa_nil))) (pe_op o_mod (pe_op o_fdiv (pv 4) pe_int) pe_int) (fun _ _ => rfl)))) (pa_cons pe_int pa_nil))))) pss_nil)
  (pss_cons (ps_if (pt_cmpR (o_eq (K := K) hr.units) (pe_op o_mod (pv 4) pe_int) pe_int (nomark _)) (pss_one (ps_set (i := 6) sc_law.nd rfl (by first | exact Or.inl rfl | exact Or.inr rfl) (pe_fnN fnN__law_fraction (hr.mono (by decide)) takes0N rfl (pa_cons (pe_op o_sub (pe_un o_neg pe_int) (pe_op o_mod (pe_op o_fdiv (pv 4) pe_int) (pe_ix (i_any (K := K)) (pe_lst (pa_cons pe_int (pa_cons (pe_op o_pow pe_int pe_int) pa_nil))) (pe_op o_mod (pe_op o_fdiv (pv 4) pe_int) pe_int) (fun _ _ => rfl)))) (pa_cons pe_int pa_nil))))) pss_nil)
  (pss_cons (ps_set (i := 7) sc_law.nd rfl (by first | exact Or.inl rfl | exact Or.inr rfl) (pe_lst (pa_cons (pe_callTy (c_listA (K := K)) (by rfl) T.z_list (by decide +kernel) (pa_cons (pv 3) pa_nil)) (pa_cons (pe_callTy (c_listA (K := K)) (by rfl) T.z_list (by decide +kernel) (pa_cons (pv 2) pa_nil)) pa_nil))))
  (pss_cons (ps_set (i := 8) sc_law.nd rfl (by first | exact Or.inl rfl | exact Or.inr rfl) (pe_fnN fnN__law_due (hr.mono (by decide)) takes0N rfl (pa_cons (pv 1) (pa_cons (pv 3) (pa_cons (pv 2) pa_nil)))))
  (pss_cons (ps_if (pt_cmpR (o_ne (K := K) hr.units) (pe_fnN fnN__law_refusal (hr.mono (by decide)) takes0N rfl (pa_cons pe_int (pa_cons (pv 1) (pa_cons (pe_ix (i_any (K := K)) (pv 7) pe_int (fun _ _ => rfl)) (pa_cons (pe_ix (i_any (K := K)) (pv 7) pe_int (fun _ _ => rfl)) (pa_cons (pv 6) pa_nil)))))) (pe_tup (pa_cons (pv 8) (pa_cons pe_non pa_nil))) (nomark _)) (pss_one (ps_ret pe_bl)) pss_nil)
  (pss_cons (ps_if (PW.pt (pw_and (pt_cmpR (o_eq (K := K) hr.units) (pv 8) pe_int (nomark _)) (pw_and1 (PW.pt (pw_or (pt_cmpR o_lt (pe_ix (i_any (K := K)) (pv 6) pe_int (fun _ _ => rfl)) pe_int (nomark _)) (pw_or1 (pt_cmpR o_gt (pe_ix (i_any (K := K)) (pv 6) pe_int (fun _ _ => rfl)) (pe_op o_mul (pv 5) (pe_ix (i_any (K := K)) (pv 6) pe_int (fun _ _ => rfl))) (nomark _)))))))) (pss_one (ps_set (i := 8) sc_law.nd rfl (by first | exact Or.inl rfl | exact Or.inr rfl) pe_int)) pss_nil)
  (pss_cons (ps_set (i := 9) sc_law.nd rfl (by first | exact Or.inl rfl | exact Or.inr rfl) (pe_fnN fnN__law_refusal (hr.mono (by decide)) takes0N rfl (pa_cons pe_int (pa_cons (pv 1) (pa_cons (pe_ix (i_any (K := K)) (pv 7) pe_int (fun _ _ => rfl)) (pa_cons (pe_callTy (c_tupleA (K := K)) (by rfl) T.z_tuple (by decide +kernel) (pa_cons (pe_ix (i_any (K := K)) (pv 7) pe_int (fun _ _ => rfl)) pa_nil)) (pa_cons (pv 6) pa_nil)))))))
  (pss_cons (ps_if (PW.pt (pw_or (pt_cmpR (o_ne (K := K) hr.units) (pe_ix (i_any (K := K)) (pv 9) pe_int (fun _ _ => rfl)) (pv 8) (nomark _)) (pw_or (pt_cmpR (o_ne (K := K) hr.units) (pe_cmpR (o_eq (K := K) hr.units) (pv 8) pe_int (nomark _)) (pe_callB (c_isiA (K := K)) (by rfl) T.z_isinstance (by decide +kernel) (pa_cons (pe_ix (i_any (K := K)) (pv 9) pe_int (fun _ _ => rfl)) (pa_cons (pe_bltn (v := .ty "list") (by rfl) T.z_list (by decide +kernel) rfl) pa_nil))) (nomark _)) (pw_or1 (pt_cmpR (o_ne (K := K) hr.units) (pv 7) (pe_lst (pa_cons (pv 3) (pa_cons (pv 2) pa_nil))) (nomark _)))))) (pss_one (ps_ret pe_bl)) pss_nil)
  (pss_cons (ps_set (i := 10) sc_law.nd rfl (by first | exact Or.inl rfl | exact Or.inr rfl) (pe_lst (pa_cons pe_str (pa_cons pe_str (pa_cons pe_str (pa_cons pe_str (pa_cons pe_str (pa_cons pe_str pa_nil))))))))
  (pss_cons (ps_if (pt_cmpR (o_notIn (K := K)) (pv 1) (pv 10) (by rfl)) (pss_one (ps_ret (pe_cmpR (o_eq (K := K) hr.units) (pe_ix (i_any (K := K)) (pe_fnN fnN__law_refusal (hr.mono (by decide)) takes0N rfl (pa_cons pe_int (pa_cons (pv 1) (pa_cons (pe_lst pa_nil) (pa_cons (pe_lst pa_nil) (pa_cons (pv 6) pa_nil)))))) pe_int (fun _ _ => rfl)) pe_int (nomark _)))) pss_nil)
  (pss_one (ps_ret (pe_cmpR (o_eq (K := K) hr.units) (pe_fnN fnN__law_refusal (hr.mono (by decide)) takes0N rfl (pa_cons pe_int (pa_cons (pv 1) (pa_cons (pe_lst pa_nil) (pa_cons (pe_lst pa_nil) (pa_cons (pv 6) pa_nil)))))) (pe_tup (pa_cons pe_int (pa_cons (pe_ix (i_any (K := K)) (pe_lst (pa_cons pe_str (pa_cons pe_str (pa_cons pe_str (pa_cons pe_str (pa_cons pe_str (pa_cons pe_str pa_nil))))))) (b_m (K := K) PySem.F.plainAttrs_list PySem.F.slot_list_index PySem.F.type_list_index (m_index (K := K)) (pv 10) (pa_cons (pv 1) pa_nil)) (fun _ _ => rfl)) pa_nil))) (nomark _)))))))))))))))))))), body_law h fun ds k hc => ?_⟩)
  obtain ⟨ns, rfl, h63, hbits, hk⟩ := hc
  show Sd K _ _ _ [.val (.list (ns.map PyData.int)), .un, .un, .un, .un, .un, .un, .un, .un, .un, .un] _
  refine sd_seq (sd_set (d := .str (way13 (cellAt ns 0 % 10 ^ (30 : Int).toNat))) (ev_call (ea_cons (v_emod (ev_call (ea_cons (ev_var rfl) (ea_cons ev_int ea_nil)) (cell_v (by omega))) (by walk_at "ev") (by decide)) ea_nil) way_v) ?_)
  have hw := way13_ok (cellAt ns 0 % 10 ^ (30 : Int).toNat)
  have hws := way13_shaped hw
  generalize way13 (cellAt ns 0 % 10 ^ (30 : Int).toNat) = w at hw hws
  refine sd_seq (sd_set (d := .list ((c13 ns (cellAt ns 1 % 10 ^ (60 : Int).toNat)).map PyData.int)) (EvF.v (evf_call (ea_cons (ev_var rfl) (ea_cons (v_emod (ev_call (ea_cons (ev_var rfl) (ea_cons ev_int ea_nil)) (cell_v (by omega))) (by walk_at "ev") (by decide)) ea_nil)) claims_v)) ?_)
  obtain ⟨hcl, hsm⟩ := c13_ok ns (cellAt ns 1 % 10 ^ (60 : Int).toNat)
  generalize c13 ns (cellAt ns 1 % 10 ^ (60 : Int).toNat) = cs at hcl hsm
  refine sd_seq (sd_set (d := .list ((w13 ns w (cellAt ns 2 % 10 ^ (60 : Int).toNat) cs.length).map PyData.int)) (weights_ev hws hcl (ea_cons (ev_var rfl) (ea_cons (v_emod (ev_call (ea_cons (ev_var rfl) (ea_cons ev_int ea_nil)) (cell_v (by omega))) (by walk_at "ev") (by decide)) (ea_cons (ev_var rfl) (ea_cons ?_ ea_nil))))) ?_)
  · rw [← List.length_map (f := PyData.int) (as := cs)]
    exact a_lenL (ev_var rfl).l
  generalize w13 ns w (cellAt ns 2 % 10 ^ (60 : Int).toNat) cs.length = ws
  refine sd_seq (sd_set (d := .int (cellAt ns 3 % 10 ^ (60 : Int).toNat)) (v_emod (ev_call (ea_cons (ev_var rfl) (ea_cons ev_int ea_nil)) (cell_v (by omega))) (by walk_at "ev") (by decide)) ?_)
  have e60 : (10 : Int) ^ (60 : Int).toNat = 1000000000000000000000000000000000000000000000000000000000000 := by decide
  have e50 : (10 : Int) ^ (50 : Int).toNat = 100000000000000000000000000000000000000000000000000 := by decide
  have p200 : (2 : Nat) ^ 210 = 1645504557321206042154969182557350504982735865633579863348609024 := by decide
  have p220 : (2 : Nat) ^ 220 = 1684996666696914987166688442938726917102321526408785780068975640576 := by decide
  obtain ⟨e, he, he0, he1⟩ : ∃ e : Int, e = cellAt ns 3 % 10 ^ (60 : Int).toNat ∧ 0 ≤ e ∧ e < 1000000000000000000000000000000000000000000000000000000000000 := ⟨_, rfl, by rw [e60]; omega, by rw [e60]; omega⟩
  rw [← he]
  refine sd_seq (sd_set (v_sumQ (.inl rfl) (ev_var rfl)) ?_)
  have hW := sum_lt hsm (by omega)
  have hWn : cs.sum.natAbs < 1645504557321206042154969182557350504982735865633579863348609024 := by
    rw [← p200]
    exact Nat.lt_of_lt_of_le hW (Nat.pow_le_pow_right (by decide) (by decide))
  have mk : ∀ t : Int, t.natAbs < 1684996666696914987166688442938726917102321526408785780068975640576 → bt (Rat.divInt t 2) 300 := fun t h => bt_divInt (by decide) (Nat.lt_of_lt_of_le h (by rw [← p220]; exact Nat.pow_le_pow_right (by decide) (by decide))) (Nat.lt_of_lt_of_le (show (2 : Int).natAbs < 2 ^ 2 by decide) (Nat.pow_le_pow_right (by decide) (by decide)))
  have a3 : atI [PyData.int 3, .int (10 ^ (50 : Int).toNat)] (e / 4 % 2) = some (.int (if e / 4 % 2 = 0 then 3 else 10 ^ (50 : Int).toNat)) := by
    rw [at_2 (by omega) (by omega)]
    split <;> rfl
  have p3 : (0 : Int) < (if e / 4 % 2 = 0 then 3 else 10 ^ (50 : Int).toNat) := by split <;> decide
  have p4 : (if e / 4 % 2 = 0 then 3 else 10 ^ (50 : Int).toNat) ≤ (100000000000000000000000000000000000000000000000000 : Int) := by rw [← e50]; split <;> decide
  obtain ⟨f, hf⟩ : ∃ f : Int, f = (if e / 4 % 2 = 0 then 3 else 10 ^ (50 : Int).toNat) := ⟨_, rfl⟩
  rw [← hf] at a3 p3 p4
  have m1 := Int.emod_nonneg (e / 12) (b := f) (by omega)
  have m2 := Int.emod_lt_of_pos (e / 12) p3
  have c2a : CMulB 2 (cs.sum.natAbs : Int) := cmul_of (a := 2) (b := 220) (by decide) (by omega) (by decide)
  have c2b : CMulB 2 cs.sum := cmul_of (a := 2) (b := 220) (by decide) (by omega) (by decide)
  have n1 := Int.emod_nonneg (e / 12) (b := 2 * (cs.sum.natAbs : Int) + 1) (by omega)
  have n2 := Int.emod_lt_of_pos (e / 12) (b := 2 * (cs.sum.natAbs : Int) + 1) (by omega)
  refine sd_seq (sd_set (d := fr (Rat.divInt (e / 12 % (2 * (cs.sum.natAbs : Int) + 1)) 2)) (ev_call (ea_cons (v_emod (by walk_at "ev") (a_add (v_mul ev_int (v_abs (ev_var rfl)) c2a) ev_int) (by omega)) (ea_cons ev_int ea_nil)) (lfr_v (by decide))) ?_)
  refine sd_seq (sd_ifJ (fun ρ => ∃ q : Rat, bt q 300 ∧ ρ = [.val (.list (ns.map PyData.int)), .val (.str w), .val (.list (cs.map PyData.int)), .val (.list (ws.map PyData.int)), .val (.int e), .val (.int cs.sum), .val (fr q), .un, .un, .un, .un]) (b := decide (e % 4 = 1)) (EvT.is (et_test (ev_eqD (d1 := .int (e % 4)) (d2 := .int 1) (by walk_at "ev") ev_int rfl rfl)) eqv_int) (fun z => ?_) (fun z => sd_next ⟨_, mk _ (by omega), rfl⟩) ?_)
  · exact sd_set (d := fr (Rat.divInt (2 * cs.sum + 1 + e / 12 % f) 2)) (ev_call (ea_cons (a_add (a_add (v_mul ev_int (ev_var rfl) c2b) ev_int) (v_emod (by walk_at "ev") (ev_ixSL (EvF.l (evf_lst (ea_cons ev_int (ea_cons (by walk_at "ev") ea_nil)) (by exact Nat.le_of_ble_eq_true rfl))) (by walk_at "ev") a3) p3)) (ea_cons ev_int ea_nil)) (lfr_v (by decide))) ⟨_, mk _ (by omega), rfl⟩
  rintro ρ ⟨q, hq, rfl⟩
  refine sd_seq (sd_ifJ (fun ρ => ∃ q : Rat, bt q 300 ∧ ρ = [.val (.list (ns.map PyData.int)), .val (.str w), .val (.list (cs.map PyData.int)), .val (.list (ws.map PyData.int)), .val (.int e), .val (.int cs.sum), .val (fr q), .un, .un, .un, .un]) (b := decide (e % 4 = 2)) (EvT.is (et_test (ev_eqD (d1 := .int (e % 4)) (d2 := .int 2) (by walk_at "ev") ev_int rfl rfl)) eqv_int) (fun z => ?_) (fun z => sd_next ⟨_, hq, rfl⟩) ?_)
  · exact sd_set (d := fr (Rat.divInt (-1 - e / 12 % f) 2)) (ev_call (ea_cons (v_sub (by walk_at "ev") (v_emod (by walk_at "ev") (ev_ixSL (EvF.l (evf_lst (ea_cons ev_int (ea_cons (by walk_at "ev") ea_nil)) (by exact Nat.le_of_ble_eq_true rfl))) (by walk_at "ev") a3) p3)) (ea_cons ev_int ea_nil)) (lfr_v (by decide))) ⟨_, mk _ (by omega), rfl⟩
  clear q hq
  rintro ρ ⟨q, hq, rfl⟩
  refine sd_seq (sd_set (EvF.v (evf_lst (ea_cons (EvF.v (f_listL (ev_var rfl).l)) (ea_cons (EvF.v (f_listL (ev_var rfl).l)) ea_nil)) (by exact Nat.le_of_ble_eq_true rfl))) ?_)
  refine sd_seq (sd_set (ev_call (ea_cons (ev_var rfl) (ea_cons (ev_var rfl) (ea_cons (ev_var rfl) ea_nil))) (due_v hws)) ?_)
  have i0 : ∀ ρ : En, ρ[7]? = some (.val (.list [.list (ws.map PyData.int), .list (cs.map PyData.int)])) → Ev K (tOp (rIx K) (tVar 7) (tC (V.int 0))) ρ (.list (ws.map PyData.int)) := fun ρ h => ev_ixSL (ev_var h).l ev_int rfl
  have i1 : ∀ ρ : En, ρ[7]? = some (.val (.list [.list (ws.map PyData.int), .list (cs.map PyData.int)])) → Ev K (tOp (rIx K) (tVar 7) (tC (V.int 1))) ρ (.list (cs.map PyData.int)) := fun ρ h => ev_ixSL (ev_var h).l ev_int rfl
  have r0 : cRefusal [.int 0, .str w, .list (ws.map PyData.int), .list (cs.map PyData.int), fr q] (kv (.tuple [.int (lookC w ws cs), .none])) := ⟨0, w, _, _, ws, cs, q, 300, rfl, .inl rfl, .inl rfl, by omega, hsm, hq, by decide, .inl ⟨rfl, rfl⟩⟩
  have r1 : cRefusal [.int 1, .str w, .list (ws.map PyData.int), .tuple (cs.map PyData.int), fr q] (kv (.tuple [.int (dealC w ws cs q), dealD w ws cs q])) := ⟨1, w, _, _, ws, cs, q, 300, rfl, .inl rfl, .inr rfl, by omega, hsm, hq, by decide, .inr (.inl ⟨rfl, rfl⟩)⟩
  have r2 : cRefusal [.int 2, .str w, .list [], .list [], fr q] (kv (.tuple [.int (conC w), conD w])) := ⟨2, w, _, _, [], [], q, 300, rfl, .inl rfl, .inl rfl, by decide, (fun x hx => by cases hx), hq, by decide, .inr (.inr ⟨rfl, rfl⟩)⟩
  have st : ∀ i : Nat, SeqAt.shaped (.tuple [.int (i : Int), .none]) = true := fun i => rfl
  refine sd_seq (sd_ifS (b := !(PyData.eqv (.tuple [.int (lookC w ws cs : Int), .none]) (.tuple [.int (lookC w ws cs : Int), .none]))) (et_test (ev_neD (ev_call (ea_cons ev_int (ea_cons (ev_var rfl) (ea_cons (i0 _ rfl) (ea_cons (i1 _ rfl) (ea_cons (ev_var rfl) ea_nil))))) r0) (ev_tup (ea_cons (ev_var rfl) (ea_cons ev_non ea_nil)) (by exact Nat.le_of_ble_eq_true rfl)) (st _) (st _))) (fun z => ?_) (fun _ => sd_next ?_))
  · rw [SeqAt.eqv_refl _ rfl] at z
    cases z
  have cw : CMulB cs.sum (q.den : Int) := cmul_of hW (j := (q.den : Int)) hq.2 (by decide)
  have hd0 : (0 : Int) < (q.den : Int) := by have := q.den_pos; omega
  have hdq : (0 : Rat) < ((q.den : Int) : Rat) := by exact_mod_cast hd0
  have hneg : q.num < 0 ↔ q < 0 := by
    rw [← Rat.intCast_lt_intCast, num_den q]
    constructor
    · intro h
      exact lt_of_mul hdq (by rw [Rat.zero_mul]; exact h)
    · intro h
      have := Rat.mul_lt_mul_of_pos_right h hdq
      rw [Rat.zero_mul] at this
      exact this
  have hbig : cs.sum * (q.den : Int) < q.num ↔ qsum (qlist cs) < q := by
    rw [← Rat.intCast_lt_intCast, num_den q, Rat.intCast_mul, qlist_sum]
    exact ⟨fun h => lt_of_mul hdq h, fun h => Rat.mul_lt_mul_of_pos_right h hdq⟩
  have hdc : ((if decide (lookC w ws cs = 4) && (decide (q.num < 0) || decide (cs.sum * (q.den : Int) < q.num)) then (3 : Nat) else lookC w ws cs) : Nat) = dealC w ws cs q := by
    unfold dealC
    by_cases h4 : lookC w ws cs = 4
    · rw [decide_eq_true h4, Bool.true_and, if_pos h4]
      by_cases ho : q < 0 ∨ qsum (qlist cs) < q
      · rw [if_pos ho, if_pos]
        rcases ho with h | h
        · rw [decide_eq_true (hneg.mpr h)]; rfl
        · rw [decide_eq_true (hbig.mpr h), Bool.or_true]
      · rw [if_neg ho, if_neg, h4]
        intro h
        rw [Bool.or_eq_true, decide_eq_true_eq, decide_eq_true_eq, hneg, hbig] at h
        exact ho h
    · rw [decide_eq_false h4, if_neg h4]
      rfl
  refine sd_seq (sd_ifJ (fun ρ => ρ = [.val (.list (ns.map PyData.int)), .val (.str w), .val (.list (cs.map PyData.int)), .val (.list (ws.map PyData.int)), .val (.int e), .val (.int cs.sum), .val (fr q), .val (.list [.list (ws.map PyData.int), .list (cs.map PyData.int)]), .val (.int (dealC w ws cs q : Int)), .un, .un]) (b := decide (lookC w ws cs = 4) && (decide (q.num < 0) || decide (cs.sum * (q.den : Int) < q.num))) ?_ (fun z => ?_) (fun z => sd_next ?_) ?_)
  · have q0 : ∀ ρ : En, ρ[6]? = some (.val (fr q)) → Ev K (tOp (rIx K) (tVar 6) (tC (V.int 0))) ρ (.int q.num) := fun ρ h => ev_ixST (ds := [.int q.num, .int (q.den : Int)]) (ev_var h) ev_int rfl
    have q1 : ∀ ρ : En, ρ[6]? = some (.val (fr q)) → Ev K (tOp (rIx K) (tVar 6) (tC (V.int 1))) ρ (.int (q.den : Int)) := fun ρ h => ev_ixST (ds := [.int q.num, .int (q.den : Int)]) (ev_var h) ev_int rfl
    refine et_and (EvT.is (et_test (ev_eqD (d1 := .int (lookC w ws cs : Int)) (d2 := .int 4) (ev_var rfl) ev_int rfl rfl)) ?_) fun _ => et_or (et_test (v_lt (q0 _ rfl) ev_int)) fun _ => et_test (v_gt (q0 _ rfl) (v_mul (ev_var rfl) (q1 _ rfl) cw))
    rw [eqv_int]
    exact decide_eq_decide.mpr (by omega)
  · refine sd_set ev_int ?_
    rw [← hdc, if_pos z]
    rfl
  · rw [← hdc, if_neg (by rw [z]; decide)]
    rfl
  rintro ρ rfl
  have i1' : ∀ ρ : En, ρ[7]? = some (.val (.list [.list (ws.map PyData.int), .list (cs.map PyData.int)])) → Ev K (tCB (rTpl K) (tCons (tOp (rIx K) (tVar 7) (tC (V.int 1))) tNil)) ρ (.tuple (cs.map PyData.int)) := fun ρ h => v_tupleL (i1 ρ h).l
  refine sd_seq (sd_set (d := .tuple [.int (dealC w ws cs q : Int), dealD w ws cs q]) (ev_call (ea_cons ev_int (ea_cons (ev_var rfl) (ea_cons (i0 _ rfl) (ea_cons (i1' _ rfl) (ea_cons (ev_var rfl) ea_nil))))) r1) ?_)
  have sh2 : Sh 2 (.list [.list (ws.map PyData.int), .list (cs.map PyData.int)]) := sh_list fun d hd => by
    rcases List.mem_cons.mp hd with rfl | hd
    · exact sh_ints
    · obtain rfl := List.mem_singleton.mp hd
      exact sh_ints
  have fx0 : ∀ ρ : En, ρ[9]? = some (.val (.tuple [.int (dealC w ws cs q : Int), dealD w ws cs q])) → Ev K (tOp (rIx K) (tVar 9) (tC (V.int 0))) ρ (.int (dealC w ws cs q : Int)) := fun ρ h => ev_ixST (ev_var h) ev_int rfl
  have fx1 : ∀ ρ : En, ρ[9]? = some (.val (.tuple [.int (dealC w ws cs q : Int), dealD w ws cs q])) → Ev K (tOp (rIx K) (tVar 9) (tC (V.int 1))) ρ (dealD w ws cs q) := fun ρ h => ev_ixST (ev_var h) ev_int rfl
  have eI : ∀ ρ : En, ρ[9]? = some (.val (.tuple [.int (dealC w ws cs q : Int), dealD w ws cs q])) → Ev K (tCB (rIsi K) (tCons (tOp (rIx K) (tVar 9) (tC (V.int 1))) (tCons (tC (.ty "list")) tNil))) ρ (.bool (decide (dealC w ws cs q = 4))) := fun ρ h => by
    have f1 := fx1 ρ h
    unfold dealD at f1
    by_cases h4 : dealC w ws cs q = 4
    · rw [if_pos h4] at f1
      rw [decide_eq_true h4]
      exact v_isi f1 kit_list_list
    · rw [if_neg h4] at f1
      rw [decide_eq_false h4]
      exact v_isi f1 kit_NoneType_list
  refine sd_seq (sd_ifS (b := false || (false || false)) (et_or (EvT.is (et_test (ev_neD (d1 := .int (dealC w ws cs q : Int)) (d2 := .int (dealC w ws cs q : Int)) (fx0 _ rfl) (ev_var rfl) rfl rfl)) (by rw [eqv_int, decide_eq_true rfl]; rfl)) fun _ => et_or (EvT.is (et_test (ev_neD (d1 := .bool (decide (dealC w ws cs q = 4))) (d2 := .bool (decide (dealC w ws cs q = 4))) (Ev.is (ev_eqD (d1 := .int (dealC w ws cs q : Int)) (d2 := .int 4) (ev_var rfl) ev_int rfl rfl) (by rw [eqv_int]; exact congrArg PyData.bool (decide_eq_decide.mpr (by omega)))) (eI _ rfl) rfl rfl)) (by rw [SeqAt.eqv_refl _ rfl]; rfl)) fun _ => EvT.is (et_test (ev_neD (ev_var rfl) (EvF.v (evf_lst (ea_cons (ev_var rfl) (ea_cons (ev_var rfl) ea_nil)) (by exact Nat.le_of_ble_eq_true rfl))) (sh2.shaped (by decide)) (sh2.shaped (by decide)))) (by rw [SeqAt.eqv_refl _ sh2.1]; rfl)) (fun z => nomatch z) (fun _ => sd_next ?_))
  refine sd_seq (sd_set (d := .list (WAYSL.map PyData.str)) (EvF.v (evf_lst (ea_cons ev_str (ea_cons ev_str (ea_cons ev_str (ea_cons ev_str (ea_cons ev_str (ea_cons ev_str ea_nil)))))) (by exact Nat.le_of_ble_eq_true rfl))) ?_)
  have nilE : ∀ ρ : En, Ev K (tLst tNil) ρ (.list []) := fun ρ => EvF.v (evf_lst ea_nil (by exact Nat.le_of_ble_eq_true rfl))
  have cR : ∀ ρ : En, ρ[1]? = some (.val (.str w)) → ρ[6]? = some (.val (fr q)) → EvA K (tCons (tC (V.int 2)) (tCons (tVar 1) (tCons (tLst tNil) (tCons (tLst tNil) (tCons (tVar 6) tNil))))) ρ [.int 2, .str w, .list [], .list [], fr q] := fun ρ h1 h2 => ea_cons ev_int (ea_cons (ev_var h1) (ea_cons (nilE _) (ea_cons (nilE _) (ea_cons (ev_var h2) ea_nil))))
  unfold conC conD at r2
  refine sd_seq (sd_ifS (b := !WAYSL.contains w) (et_test (a_niS (.inl rfl) (ev_var rfl) (ev_var rfl))) (fun z => ?_) (fun z => sd_next ?_))
  · have hz : WAYSL.contains w = false := by simpa using z
    rw [hz] at r2
    exact sd_ret (Ev.is (ev_eqD (d1 := .int 0) (d2 := .int 0) (ev_ixST (ds := [.int 0, .none]) (ev_call (cR _ rfl rfl) r2) ev_int rfl) ev_int rfl rfl) rfl) hk
  · have hz : WAYSL.contains w = true := by simpa using z
    rw [hz, if_pos rfl, if_pos rfl] at r2
    obtain ⟨y, rfl⟩ := way_cases hz
    rw [wyOf_s] at r2
    have hmem : y.s ∈ WAYSL := List.contains_iff_mem.mp hz
    have hix : atI ((["back", "row", "lack", "even", "part", "half"] : List Str).map PyData.str) ((WAYSL.idxOf y.s : Nat) : Int) = some (.str y.con.s) := by cases y <;> rfl
    have sT : Sh 1 (.tuple [.int 4, .str y.con.s]) := sh_tuple fun d hd => by
      rcases List.mem_cons.mp hd with rfl | hd
      · exact sh_int
      · obtain rfl := List.mem_singleton.mp hd
        exact sh_str (by cases y <;> decide +kernel)
    exact sd_ret (Ev.is (ev_eqD (d1 := .tuple [.int 4, .str y.con.s]) (d2 := .tuple [.int 4, .str y.con.s]) (ev_call (cR _ rfl rfl) r2) (ev_tup (ea_cons ev_int (ea_cons (ev_ixSL (EvF.l (evf_lst (ea_cons ev_str (ea_cons ev_str (ea_cons ev_str (ea_cons ev_str (ea_cons ev_str (ea_cons ev_str ea_nil)))))) (by exact Nat.le_of_ble_eq_true rfl))) (v_indexS (ev_var rfl).l (ev_var rfl) hmem) hix) ea_nil)) (by exact Nat.le_of_ble_eq_true rfl)) (sT.shaped (by decide)) (sT.shaped (by decide))) (by rw [SeqAt.eqv_refl _ sT.1])) hk
end
theorem all_mk {l : PySem.W.OpenLaw} {w : World} {K : Frag} {h : Heap} {mg : Str → Option Value} {f0 f1 f2 f3 f4 f5 f6 f7 f8 f9 f10 f11 f12 f13 f14 f15 f16 f17 f18 f19 f20 f21 f22 f23 f24 C0 C1 C2 C3 C4 C5 C6 C7 C8 C9 C10 C11 N_NOUGHT N_WAYS N_WEIGHED fa : Addr} {od0 an0 od1 an1 od2 an2 od3 an3 od4 an4 od5 an5 od6 an6 od7 an7 od8 an8 od9 an9 od10 an10 od11 an11 od12 an12 od13 an13 od14 an14 od15 an15 od16 an16 od17 an17 od18 an18 od19 an19 od20 an20 od21 an21 od22 an22 od23 an23 od24 an24 : Option Addr} {sl0 sl1 sl2 sl3 sl4 sl5 sl6 sl7 sl8 sl9 sl10 sl11 sl12 sl13 sl14 sl15 sl16 sl17 sl18 sl19 sl20 sl21 sl22 sl23 sl24 : Array (Option Value)} {oc0 kV0 dc0 pm0 cd0 ct0 oc1 kV1 dc1 pm1 cd1 ct1 oc2 kV2 dc2 pm2 cd2 ct2 oc3 kV3 dc3 pm3 cd3 ct3 oc4 kV4 dc4 pm4 cd4 ct4 oc5 kV5 dc5 pm5 cd5 ct5 oc6 kV6 dc6 pm6 cd6 ct6 oc7 kV7 dc7 pm7 cd7 ct7 oc8 kV8 dc8 pm8 cd8 ct8 oc9 kV9 dc9 pm9 cd9 ct9 oc10 kV10 dc10 pm10 cd10 ct10 oc11 kV11 dc11 pm11 cd11 ct11 oc12 kV12 dc12 pm12 cd12 ct12 oc13 kV13 dc13 pm13 cd13 ct13 oc14 kV14 dc14 pm14 cd14 ct14 oc15 kV15 dc15 pm15 cd15 ct15 oc16 kV16 dc16 pm16 cd16 ct16 oc17 kV17 dc17 pm17 cd17 ct17 oc18 kV18 dc18 pm18 cd18 ct18 oc19 kV19 dc19 pm19 cd19 ct19 oc20 kV20 dc20 pm20 cd20 ct20 oc21 kV21 dc21 pm21 cd21 ct21 oc22 kV22 dc22 pm22 cd22 ct22 oc23 kV23 dc23 pm23 cd23 ct23 oc24 kV24 dc24 pm24 cd24 ct24 : Value} {t_MOST_WEIGHT t_NOUGHT_0 t_NOUGHT_1 t_WAYS_0 t_WAYS_1 t_WAYS_2 t_WAYS_3 t_WAYS_4 t_WAYS_5 t_WEIGHED_0 t_WEIGHED_1 : Tok} {n_NOUGHT : Nat} {sl_NOUGHT : Array (Option Value)} {n_WAYS : Nat} {sl_WAYS : Array (Option Value)} {n_WEIGHED : Nat} {sl_WEIGHED : Array (Option Value)} (X : K.In h) (G : h.Ns mainGlobals mg) (hfa : mg "law" = some (.ref fa)) (hT : l.prog.given.tree = none)
    (a0 : PySem.W.nsIn K mainGlobals "_law_cell_at" = some (some (.ref f0)))
    (l0 : K.lookup f0 = some ⟨oc0, od0, .func (PySem.W.fnOf "_law_cell_at" "_law_cell_at" (defArgs s__law_cell_at) (defBody s__law_cell_at) (defScope s__law_cell_at) .none kV0 dc0 pm0 an0 cd0 ct0), sl0⟩)
    (c0 : PySem.W.codeIn K cd0 "_law_cell_at" = true)
    (k0 : PySem.W.keepIn K (.ref f0) = true)
    (a1 : PySem.W.nsIn K mainGlobals "_law_fraction" = some (some (.ref f1)))
    (l1 : K.lookup f1 = some ⟨oc1, od1, .func (PySem.W.fnOf "_law_fraction" "_law_fraction" (defArgs s__law_fraction) (defBody s__law_fraction) (defScope s__law_fraction) .none kV1 dc1 pm1 an1 cd1 ct1), sl1⟩)
    (c1 : PySem.W.codeIn K cd1 "_law_fraction" = true)
    (k1 : PySem.W.keepIn K (.ref f1) = true)
    (a2 : PySem.W.nsIn K mainGlobals "_law_way" = some (some (.ref f2)))
    (l2 : K.lookup f2 = some ⟨oc2, od2, .func (PySem.W.fnOf "_law_way" "_law_way" (defArgs s__law_way) (defBody s__law_way) (defScope s__law_way) .none kV2 dc2 pm2 an2 cd2 ct2), sl2⟩)
    (c2 : PySem.W.codeIn K cd2 "_law_way" = true)
    (k2 : PySem.W.keepIn K (.ref f2) = true)
    (a3 : PySem.W.nsIn K mainGlobals "_law_claims" = some (some (.ref f3)))
    (l3 : K.lookup f3 = some ⟨oc3, od3, .func (PySem.W.fnOf "_law_claims" "_law_claims" (defArgs s__law_claims) (defBody s__law_claims) (defScope s__law_claims) .none kV3 dc3 pm3 an3 cd3 ct3), sl3⟩)
    (c3 : PySem.W.codeIn K cd3 "_law_claims" = true)
    (k3 : PySem.W.keepIn K (.ref f3) = true)
    (a4 : PySem.W.nsIn K mainGlobals "_law_weights" = some (some (.ref f4)))
    (l4 : K.lookup f4 = some ⟨oc4, od4, .func (PySem.W.fnOf "_law_weights" "_law_weights" (defArgs s__law_weights) (defBody s__law_weights) (defScope s__law_weights) .none kV4 dc4 pm4 an4 cd4 ct4), sl4⟩)
    (c4 : PySem.W.codeIn K cd4 "_law_weights" = true)
    (k4 : PySem.W.keepIn K (.ref f4) = true)
    (a5 : PySem.W.nsIn K mainGlobals "_law_due" = some (some (.ref f5)))
    (l5 : K.lookup f5 = some ⟨oc5, od5, .func (PySem.W.fnOf "_law_due" "_law_due" (defArgs s__law_due) (defBody s__law_due) (defScope s__law_due) .none kV5 dc5 pm5 an5 cd5 ct5), sl5⟩)
    (c5 : PySem.W.codeIn K cd5 "_law_due" = true)
    (k5 : PySem.W.keepIn K (.ref f5) = true)
    (a6 : PySem.W.nsIn K mainGlobals "weights_fit" = some (some (.ref f6)))
    (l6 : K.lookup f6 = some ⟨oc6, od6, .func (PySem.W.fnOf "weights_fit" "weights_fit" (defArgs s_weights_fit) (defBody s_weights_fit) (defScope s_weights_fit) .none kV6 dc6 pm6 an6 cd6 ct6), sl6⟩)
    (c6 : PySem.W.codeIn K cd6 "weights_fit" = true)
    (k6 : PySem.W.keepIn K (.ref f6) = true)
    (a7 : PySem.W.nsIn K mainGlobals "looked" = some (some (.ref f7)))
    (l7 : K.lookup f7 = some ⟨oc7, od7, .func (PySem.W.fnOf "looked" "looked" (defArgs s_looked) (defBody s_looked) (defScope s_looked) .none kV7 dc7 pm7 an7 cd7 ct7), sl7⟩)
    (c7 : PySem.W.codeIn K cd7 "looked" = true)
    (k7 : PySem.W.keepIn K (.ref f7) = true)
    (a8 : PySem.W.nsIn K mainGlobals "common_divisor" = some (some (.ref f8)))
    (l8 : K.lookup f8 = some ⟨oc8, od8, .func (PySem.W.fnOf "common_divisor" "common_divisor" (defArgs s_common_divisor) (defBody s_common_divisor) (defScope s_common_divisor) .none kV8 dc8 pm8 an8 cd8 ct8), sl8⟩)
    (c8 : PySem.W.codeIn K cd8 "common_divisor" = true)
    (k8 : PySem.W.keepIn K (.ref f8) = true)
    (a9 : PySem.W.nsIn K mainGlobals "made" = some (some (.ref f9)))
    (l9 : K.lookup f9 = some ⟨oc9, od9, .func (PySem.W.fnOf "made" "made" (defArgs s_made) (defBody s_made) (defScope s_made) .none kV9 dc9 pm9 an9 cd9 ct9), sl9⟩)
    (c9 : PySem.W.codeIn K cd9 "made" = true)
    (k9 : PySem.W.keepIn K (.ref f9) = true)
    (a10 : PySem.W.nsIn K mainGlobals "less" = some (some (.ref f10)))
    (l10 : K.lookup f10 = some ⟨oc10, od10, .func (PySem.W.fnOf "less" "less" (defArgs s_less) (defBody s_less) (defScope s_less) .none kV10 dc10 pm10 an10 cd10 ct10), sl10⟩)
    (c10 : PySem.W.codeIn K cd10 "less" = true)
    (k10 : PySem.W.keepIn K (.ref f10) = true)
    (a11 : PySem.W.nsIn K mainGlobals "minus" = some (some (.ref f11)))
    (l11 : K.lookup f11 = some ⟨oc11, od11, .func (PySem.W.fnOf "minus" "minus" (defArgs s_minus) (defBody s_minus) (defScope s_minus) .none kV11 dc11 pm11 an11 cd11 ct11), sl11⟩)
    (c11 : PySem.W.codeIn K cd11 "minus" = true)
    (k11 : PySem.W.keepIn K (.ref f11) = true)
    (a12 : PySem.W.nsIn K mainGlobals "times" = some (some (.ref f12)))
    (l12 : K.lookup f12 = some ⟨oc12, od12, .func (PySem.W.fnOf "times" "times" (defArgs s_times) (defBody s_times) (defScope s_times) .none kV12 dc12 pm12 an12 cd12 ct12), sl12⟩)
    (c12 : PySem.W.codeIn K cd12 "times" = true)
    (k12 : PySem.W.keepIn K (.ref f12) = true)
    (a13 : PySem.W.nsIn K mainGlobals "by_fullness" = some (some (.ref f13)))
    (l13 : K.lookup f13 = some ⟨oc13, od13, .func (PySem.W.fnOf "by_fullness" "by_fullness" (defArgs s_by_fullness) (defBody s_by_fullness) (defScope s_by_fullness) .none kV13 dc13 pm13 an13 cd13 ct13), sl13⟩)
    (c13 : PySem.W.codeIn K cd13 "by_fullness" = true)
    (k13 : PySem.W.keepIn K (.ref f13) = true)
    (a14 : PySem.W.nsIn K mainGlobals "even_dealt" = some (some (.ref f14)))
    (l14 : K.lookup f14 = some ⟨oc14, od14, .func (PySem.W.fnOf "even_dealt" "even_dealt" (defArgs s_even_dealt) (defBody s_even_dealt) (defScope s_even_dealt) .none kV14 dc14 pm14 an14 cd14 ct14), sl14⟩)
    (c14 : PySem.W.codeIn K cd14 "even_dealt" = true)
    (k14 : PySem.W.keepIn K (.ref f14) = true)
    (a15 : PySem.W.nsIn K mainGlobals "lacking" = some (some (.ref f15)))
    (l15 : K.lookup f15 = some ⟨oc15, od15, .func (PySem.W.fnOf "lacking" "lacking" (defArgs s_lacking) (defBody s_lacking) (defScope s_lacking) .none kV15 dc15 pm15 an15 cd15 ct15), sl15⟩)
    (c15 : PySem.W.codeIn K cd15 "lacking" = true)
    (k15 : PySem.W.keepIn K (.ref f15) = true)
    (a16 : PySem.W.nsIn K mainGlobals "row_dealt" = some (some (.ref f16)))
    (l16 : K.lookup f16 = some ⟨oc16, od16, .func (PySem.W.fnOf "row_dealt" "row_dealt" (defArgs s_row_dealt) (defBody s_row_dealt) (defScope s_row_dealt) .none kV16 dc16 pm16 an16 cd16 ct16), sl16⟩)
    (c16 : PySem.W.codeIn K cd16 "row_dealt" = true)
    (k16 : PySem.W.keepIn K (.ref f16) = true)
    (a17 : PySem.W.nsIn K mainGlobals "part_dealt" = some (some (.ref f17)))
    (l17 : K.lookup f17 = some ⟨oc17, od17, .func (PySem.W.fnOf "part_dealt" "part_dealt" (defArgs s_part_dealt) (defBody s_part_dealt) (defScope s_part_dealt) .none kV17 dc17 pm17 an17 cd17 ct17), sl17⟩)
    (c17 : PySem.W.codeIn K cd17 "part_dealt" = true)
    (k17 : PySem.W.keepIn K (.ref f17) = true)
    (a18 : PySem.W.nsIn K mainGlobals "plus" = some (some (.ref f18)))
    (l18 : K.lookup f18 = some ⟨oc18, od18, .func (PySem.W.fnOf "plus" "plus" (defArgs s_plus) (defBody s_plus) (defScope s_plus) .none kV18 dc18 pm18 an18 cd18 ct18), sl18⟩)
    (c18 : PySem.W.codeIn K cd18 "plus" = true)
    (k18 : PySem.W.keepIn K (.ref f18) = true)
    (a19 : PySem.W.nsIn K mainGlobals "half_dealt" = some (some (.ref f19)))
    (l19 : K.lookup f19 = some ⟨oc19, od19, .func (PySem.W.fnOf "half_dealt" "half_dealt" (defArgs s_half_dealt) (defBody s_half_dealt) (defScope s_half_dealt) .none kV19 dc19 pm19 an19 cd19 ct19), sl19⟩)
    (c19 : PySem.W.codeIn K cd19 "half_dealt" = true)
    (k19 : PySem.W.keepIn K (.ref f19) = true)
    (a20 : PySem.W.nsIn K mainGlobals "dealt_by" = some (some (.ref f20)))
    (l20 : K.lookup f20 = some ⟨oc20, od20, .func (PySem.W.fnOf "dealt_by" "dealt_by" (defArgs s_dealt_by) (defBody s_dealt_by) (defScope s_dealt_by) .none kV20 dc20 pm20 an20 cd20 ct20), sl20⟩)
    (c20 : PySem.W.codeIn K cd20 "dealt_by" = true)
    (k20 : PySem.W.keepIn K (.ref f20) = true)
    (a21 : PySem.W.nsIn K mainGlobals "dealt" = some (some (.ref f21)))
    (l21 : K.lookup f21 = some ⟨oc21, od21, .func (PySem.W.fnOf "dealt" "dealt" (defArgs s_dealt) (defBody s_dealt) (defScope s_dealt) .none kV21 dc21 pm21 an21 cd21 ct21), sl21⟩)
    (c21 : PySem.W.codeIn K cd21 "dealt" = true)
    (k21 : PySem.W.keepIn K (.ref f21) = true)
    (a22 : PySem.W.nsIn K mainGlobals "contrary_way" = some (some (.ref f22)))
    (l22 : K.lookup f22 = some ⟨oc22, od22, .func (PySem.W.fnOf "contrary_way" "contrary_way" (defArgs s_contrary_way) (defBody s_contrary_way) (defScope s_contrary_way) .none kV22 dc22 pm22 an22 cd22 ct22), sl22⟩)
    (c22 : PySem.W.codeIn K cd22 "contrary_way" = true)
    (k22 : PySem.W.keepIn K (.ref f22) = true)
    (a23 : PySem.W.nsIn K mainGlobals "_law_refusal" = some (some (.ref f23)))
    (l23 : K.lookup f23 = some ⟨oc23, od23, .func (PySem.W.fnOf "_law_refusal" "_law_refusal" (defArgs s__law_refusal) (defBody s__law_refusal) (defScope s__law_refusal) .none kV23 dc23 pm23 an23 cd23 ct23), sl23⟩)
    (c23 : PySem.W.codeIn K cd23 "_law_refusal" = true)
    (k23 : PySem.W.keepIn K (.ref f23) = true)
    (a24 : PySem.W.nsIn K mainGlobals "law" = some (some (.ref f24)))
    (l24 : K.lookup f24 = some ⟨oc24, od24, .func (PySem.W.fnOf "law" "law" (defArgs s_law) (defBody s_law) (defScope s_law) .none kV24 dc24 pm24 an24 cd24 ct24), sl24⟩)
    (c24 : PySem.W.codeIn K cd24 "law" = true)
    (k24 : PySem.W.keepIn K (.ref f24) = true)
    (aC0 : PySem.W.nsIn K mainGlobals "CatchError" = some (some (.ref C0)))
    (xC0 : PySem.W.excIn K C0 [.type "ValueError", .type "Exception", .type "BaseException", .type "object"] "ValueError.__new__" = true)
    (kC0 : PySem.W.keepIn K (.ref C0) = true)
    (bC0 : PySem.W.subIn K (.ref C0) (.type "BaseException") = some true)
    (tC0 : PySem.W.typeIn K (.ref C0) = some (.type "type"))
    (hg0 : PySem.W.findIn K (.ref C0) "__getattribute__" = some (some (.builtin "BaseException.__getattribute__")))
    (hk0 : PySem.W.findIn K (.ref C0) "__getattr__" = some none)
    (hd0 : PySem.W.hasDictIn K C0 = true)
    (ha0 : PySem.W.findIn K (.ref C0) "__class__" = some (some (.builtin "object.__class__")))
    (hm0 : PySem.W.mroIn K C0 (.type "object") = some true)
    (aC1 : PySem.W.nsIn K mainGlobals "NoFraction" = some (some (.ref C1)))
    (xC1 : PySem.W.excIn K C1 [.type "ValueError", .type "Exception", .type "BaseException", .type "object"] "ValueError.__new__" = true)
    (kC1 : PySem.W.keepIn K (.ref C1) = true)
    (bC1 : PySem.W.subIn K (.ref C1) (.type "BaseException") = some true)
    (tC1 : PySem.W.typeIn K (.ref C1) = some (.type "type"))
    (hg1 : PySem.W.findIn K (.ref C1) "__getattribute__" = some (some (.builtin "BaseException.__getattribute__")))
    (hk1 : PySem.W.findIn K (.ref C1) "__getattr__" = some none)
    (hd1 : PySem.W.hasDictIn K C1 = true)
    (ha1 : PySem.W.findIn K (.ref C1) "__class__" = some (some (.builtin "object.__class__")))
    (hm1 : PySem.W.mroIn K C1 (.type "object") = some true)
    (aC2 : PySem.W.nsIn K mainGlobals "BadLine" = some (some (.ref C2)))
    (xC2 : PySem.W.excIn K C2 [.type "ValueError", .type "Exception", .type "BaseException", .type "object"] "ValueError.__new__" = true)
    (kC2 : PySem.W.keepIn K (.ref C2) = true)
    (bC2 : PySem.W.subIn K (.ref C2) (.type "BaseException") = some true)
    (tC2 : PySem.W.typeIn K (.ref C2) = some (.type "type"))
    (hg2 : PySem.W.findIn K (.ref C2) "__getattribute__" = some (some (.builtin "BaseException.__getattribute__")))
    (hk2 : PySem.W.findIn K (.ref C2) "__getattr__" = some none)
    (hd2 : PySem.W.hasDictIn K C2 = true)
    (ha2 : PySem.W.findIn K (.ref C2) "__class__" = some (some (.builtin "object.__class__")))
    (hm2 : PySem.W.mroIn K C2 (.type "object") = some true)
    (aC3 : PySem.W.nsIn K mainGlobals "Outside" = some (some (.ref C3)))
    (xC3 : PySem.W.excIn K C3 [.type "ValueError", .type "Exception", .type "BaseException", .type "object"] "ValueError.__new__" = true)
    (kC3 : PySem.W.keepIn K (.ref C3) = true)
    (bC3 : PySem.W.subIn K (.ref C3) (.type "BaseException") = some true)
    (tC3 : PySem.W.typeIn K (.ref C3) = some (.type "type"))
    (hg3 : PySem.W.findIn K (.ref C3) "__getattribute__" = some (some (.builtin "BaseException.__getattribute__")))
    (hk3 : PySem.W.findIn K (.ref C3) "__getattr__" = some none)
    (hd3 : PySem.W.hasDictIn K C3 = true)
    (ha3 : PySem.W.findIn K (.ref C3) "__class__" = some (some (.builtin "object.__class__")))
    (hm3 : PySem.W.mroIn K C3 (.type "object") = some true)
    (aC4 : PySem.W.nsIn K mainGlobals "Unlike" = some (some (.ref C4)))
    (xC4 : PySem.W.excIn K C4 [.type "ValueError", .type "Exception", .type "BaseException", .type "object"] "ValueError.__new__" = true)
    (kC4 : PySem.W.keepIn K (.ref C4) = true)
    (bC4 : PySem.W.subIn K (.ref C4) (.type "BaseException") = some true)
    (tC4 : PySem.W.typeIn K (.ref C4) = some (.type "type"))
    (hg4 : PySem.W.findIn K (.ref C4) "__getattribute__" = some (some (.builtin "BaseException.__getattribute__")))
    (hk4 : PySem.W.findIn K (.ref C4) "__getattr__" = some none)
    (hd4 : PySem.W.hasDictIn K C4 = true)
    (ha4 : PySem.W.findIn K (.ref C4) "__class__" = some (some (.builtin "object.__class__")))
    (hm4 : PySem.W.mroIn K C4 (.type "object") = some true)
    (aC5 : PySem.W.nsIn K mainGlobals "BadWay" = some (some (.ref C5)))
    (xC5 : PySem.W.excIn K C5 [.type "ValueError", .type "Exception", .type "BaseException", .type "object"] "ValueError.__new__" = true)
    (kC5 : PySem.W.keepIn K (.ref C5) = true)
    (bC5 : PySem.W.subIn K (.ref C5) (.type "BaseException") = some true)
    (tC5 : PySem.W.typeIn K (.ref C5) = some (.type "type"))
    (hg5 : PySem.W.findIn K (.ref C5) "__getattribute__" = some (some (.builtin "BaseException.__getattribute__")))
    (hk5 : PySem.W.findIn K (.ref C5) "__getattr__" = some none)
    (hd5 : PySem.W.hasDictIn K C5 = true)
    (ha5 : PySem.W.findIn K (.ref C5) "__class__" = some (some (.builtin "object.__class__")))
    (hm5 : PySem.W.mroIn K C5 (.type "object") = some true)
    (aC6 : PySem.W.nsIn K mainGlobals "BadWeights" = some (some (.ref C6)))
    (xC6 : PySem.W.excIn K C6 [.type "ValueError", .type "Exception", .type "BaseException", .type "object"] "ValueError.__new__" = true)
    (kC6 : PySem.W.keepIn K (.ref C6) = true)
    (bC6 : PySem.W.subIn K (.ref C6) (.type "BaseException") = some true)
    (tC6 : PySem.W.typeIn K (.ref C6) = some (.type "type"))
    (hg6 : PySem.W.findIn K (.ref C6) "__getattribute__" = some (some (.builtin "BaseException.__getattribute__")))
    (hk6 : PySem.W.findIn K (.ref C6) "__getattr__" = some none)
    (hd6 : PySem.W.hasDictIn K C6 = true)
    (ha6 : PySem.W.findIn K (.ref C6) "__class__" = some (some (.builtin "object.__class__")))
    (hm6 : PySem.W.mroIn K C6 (.type "object") = some true)
    (aC7 : PySem.W.nsIn K mainGlobals "BadClaim" = some (some (.ref C7)))
    (xC7 : PySem.W.excIn K C7 [.type "ValueError", .type "Exception", .type "BaseException", .type "object"] "ValueError.__new__" = true)
    (kC7 : PySem.W.keepIn K (.ref C7) = true)
    (bC7 : PySem.W.subIn K (.ref C7) (.type "BaseException") = some true)
    (tC7 : PySem.W.typeIn K (.ref C7) = some (.type "type"))
    (hg7 : PySem.W.findIn K (.ref C7) "__getattribute__" = some (some (.builtin "BaseException.__getattribute__")))
    (hk7 : PySem.W.findIn K (.ref C7) "__getattr__" = some none)
    (hd7 : PySem.W.hasDictIn K C7 = true)
    (ha7 : PySem.W.findIn K (.ref C7) "__class__" = some (some (.builtin "object.__class__")))
    (hm7 : PySem.W.mroIn K C7 (.type "object") = some true)
    (aC8 : PySem.W.nsIn K mainGlobals "TooMany" = some (some (.ref C8)))
    (xC8 : PySem.W.excIn K C8 [.type "ValueError", .type "Exception", .type "BaseException", .type "object"] "ValueError.__new__" = true)
    (kC8 : PySem.W.keepIn K (.ref C8) = true)
    (bC8 : PySem.W.subIn K (.ref C8) (.type "BaseException") = some true)
    (tC8 : PySem.W.typeIn K (.ref C8) = some (.type "type"))
    (hg8 : PySem.W.findIn K (.ref C8) "__getattribute__" = some (some (.builtin "BaseException.__getattribute__")))
    (hk8 : PySem.W.findIn K (.ref C8) "__getattr__" = some none)
    (hd8 : PySem.W.hasDictIn K C8 = true)
    (ha8 : PySem.W.findIn K (.ref C8) "__class__" = some (some (.builtin "object.__class__")))
    (hm8 : PySem.W.mroIn K C8 (.type "object") = some true)
    (aC9 : PySem.W.nsIn K mainGlobals "NoBoat" = some (some (.ref C9)))
    (xC9 : PySem.W.excIn K C9 [.type "ValueError", .type "Exception", .type "BaseException", .type "object"] "ValueError.__new__" = true)
    (kC9 : PySem.W.keepIn K (.ref C9) = true)
    (bC9 : PySem.W.subIn K (.ref C9) (.type "BaseException") = some true)
    (tC9 : PySem.W.typeIn K (.ref C9) = some (.type "type"))
    (hg9 : PySem.W.findIn K (.ref C9) "__getattribute__" = some (some (.builtin "BaseException.__getattribute__")))
    (hk9 : PySem.W.findIn K (.ref C9) "__getattr__" = some none)
    (hd9 : PySem.W.hasDictIn K C9 = true)
    (ha9 : PySem.W.findIn K (.ref C9) "__class__" = some (some (.builtin "object.__class__")))
    (hm9 : PySem.W.mroIn K C9 (.type "object") = some true)
    (aC10 : PySem.W.nsIn K mainGlobals "BadCatch" = some (some (.ref C10)))
    (xC10 : PySem.W.excIn K C10 [.type "ValueError", .type "Exception", .type "BaseException", .type "object"] "ValueError.__new__" = true)
    (kC10 : PySem.W.keepIn K (.ref C10) = true)
    (bC10 : PySem.W.subIn K (.ref C10) (.type "BaseException") = some true)
    (tC10 : PySem.W.typeIn K (.ref C10) = some (.type "type"))
    (hg10 : PySem.W.findIn K (.ref C10) "__getattribute__" = some (some (.builtin "BaseException.__getattribute__")))
    (hk10 : PySem.W.findIn K (.ref C10) "__getattr__" = some none)
    (hd10 : PySem.W.hasDictIn K C10 = true)
    (ha10 : PySem.W.findIn K (.ref C10) "__class__" = some (some (.builtin "object.__class__")))
    (hm10 : PySem.W.mroIn K C10 (.type "object") = some true)
    (aC11 : PySem.W.nsIn K mainGlobals "NoText" = some (some (.ref C11)))
    (xC11 : PySem.W.excIn K C11 [.type "ValueError", .type "Exception", .type "BaseException", .type "object"] "ValueError.__new__" = true)
    (kC11 : PySem.W.keepIn K (.ref C11) = true)
    (bC11 : PySem.W.subIn K (.ref C11) (.type "BaseException") = some true)
    (tC11 : PySem.W.typeIn K (.ref C11) = some (.type "type"))
    (hg11 : PySem.W.findIn K (.ref C11) "__getattribute__" = some (some (.builtin "BaseException.__getattribute__")))
    (hk11 : PySem.W.findIn K (.ref C11) "__getattr__" = some none)
    (hd11 : PySem.W.hasDictIn K C11 = true)
    (ha11 : PySem.W.findIn K (.ref C11) "__class__" = some (some (.builtin "object.__class__")))
    (hm11 : PySem.W.mroIn K C11 (.type "object") = some true)
    (hn : PySem.W.specialIn K (.builtin "object.__class__") "__get__" = some (some (.builtin "getset_descriptor.__get__")))
    (ht : PySem.W.takesIn K (.builtin "object.__class__") = some true)
    (h_BadWay_CatchError : PySem.W.exmOne K (.ref C5) (.ref C0) = some true)
    (h_BadClaim_CatchError : PySem.W.exmOne K (.ref C7) (.ref C0) = some true)
    (h_BadWeights_CatchError : PySem.W.exmOne K (.ref C6) (.ref C0) = some true)
    (h_Outside_CatchError : PySem.W.exmOne K (.ref C3) (.ref C0) = some true)
    (y_BadWay_BadWay : PySem.W.kitOne K (.ref C5) (.ref C5) = some true)
    (n_BadWay_BadClaim : PySem.W.kitOne K (.ref C5) (.ref C7) = some false)
    (n_BadWay_BadWeights : PySem.W.kitOne K (.ref C5) (.ref C6) = some false)
    (n_BadWay_Outside : PySem.W.kitOne K (.ref C5) (.ref C3) = some false)
    (n_BadClaim_BadWay : PySem.W.kitOne K (.ref C7) (.ref C5) = some false)
    (y_BadClaim_BadClaim : PySem.W.kitOne K (.ref C7) (.ref C7) = some true)
    (n_BadClaim_BadWeights : PySem.W.kitOne K (.ref C7) (.ref C6) = some false)
    (n_BadClaim_Outside : PySem.W.kitOne K (.ref C7) (.ref C3) = some false)
    (n_BadWeights_BadWay : PySem.W.kitOne K (.ref C6) (.ref C5) = some false)
    (n_BadWeights_BadClaim : PySem.W.kitOne K (.ref C6) (.ref C7) = some false)
    (y_BadWeights_BadWeights : PySem.W.kitOne K (.ref C6) (.ref C6) = some true)
    (n_BadWeights_Outside : PySem.W.kitOne K (.ref C6) (.ref C3) = some false)
    (n_Outside_BadWay : PySem.W.kitOne K (.ref C3) (.ref C5) = some false)
    (n_Outside_BadClaim : PySem.W.kitOne K (.ref C3) (.ref C7) = some false)
    (n_Outside_BadWeights : PySem.W.kitOne K (.ref C3) (.ref C6) = some false)
    (y_Outside_Outside : PySem.W.kitOne K (.ref C3) (.ref C3) = some true)
    (y_BadWay_ValueError : PySem.W.kitOne K (.ref C5) (.type "ValueError") = some true)
    (y_BadClaim_ValueError : PySem.W.kitOne K (.ref C7) (.type "ValueError") = some true)
    (y_BadWeights_ValueError : PySem.W.kitOne K (.ref C6) (.type "ValueError") = some true)
    (y_Outside_ValueError : PySem.W.kitOne K (.ref C3) (.type "ValueError") = some true)
    (n_BadWay_BadCatch : PySem.W.kitOne K (.ref C5) (.ref C10) = some false)
    (n_BadWay_BadLine : PySem.W.kitOne K (.ref C5) (.ref C2) = some false)
    (n_BadWay_NoBoat : PySem.W.kitOne K (.ref C5) (.ref C9) = some false)
    (n_BadWay_NoFraction : PySem.W.kitOne K (.ref C5) (.ref C1) = some false)
    (n_BadWay_NoText : PySem.W.kitOne K (.ref C5) (.ref C11) = some false)
    (n_BadWay_TooMany : PySem.W.kitOne K (.ref C5) (.ref C8) = some false)
    (n_BadWay_Unlike : PySem.W.kitOne K (.ref C5) (.ref C4) = some false)
    (n_BadClaim_BadCatch : PySem.W.kitOne K (.ref C7) (.ref C10) = some false)
    (n_BadClaim_BadLine : PySem.W.kitOne K (.ref C7) (.ref C2) = some false)
    (n_BadClaim_NoBoat : PySem.W.kitOne K (.ref C7) (.ref C9) = some false)
    (n_BadClaim_NoFraction : PySem.W.kitOne K (.ref C7) (.ref C1) = some false)
    (n_BadClaim_NoText : PySem.W.kitOne K (.ref C7) (.ref C11) = some false)
    (n_BadClaim_TooMany : PySem.W.kitOne K (.ref C7) (.ref C8) = some false)
    (n_BadClaim_Unlike : PySem.W.kitOne K (.ref C7) (.ref C4) = some false)
    (n_BadWeights_BadCatch : PySem.W.kitOne K (.ref C6) (.ref C10) = some false)
    (n_BadWeights_BadLine : PySem.W.kitOne K (.ref C6) (.ref C2) = some false)
    (n_BadWeights_NoBoat : PySem.W.kitOne K (.ref C6) (.ref C9) = some false)
    (n_BadWeights_NoFraction : PySem.W.kitOne K (.ref C6) (.ref C1) = some false)
    (n_BadWeights_NoText : PySem.W.kitOne K (.ref C6) (.ref C11) = some false)
    (n_BadWeights_TooMany : PySem.W.kitOne K (.ref C6) (.ref C8) = some false)
    (n_BadWeights_Unlike : PySem.W.kitOne K (.ref C6) (.ref C4) = some false)
    (n_Outside_BadCatch : PySem.W.kitOne K (.ref C3) (.ref C10) = some false)
    (n_Outside_BadLine : PySem.W.kitOne K (.ref C3) (.ref C2) = some false)
    (n_Outside_NoBoat : PySem.W.kitOne K (.ref C3) (.ref C9) = some false)
    (n_Outside_NoFraction : PySem.W.kitOne K (.ref C3) (.ref C1) = some false)
    (n_Outside_NoText : PySem.W.kitOne K (.ref C3) (.ref C11) = some false)
    (n_Outside_TooMany : PySem.W.kitOne K (.ref C3) (.ref C8) = some false)
    (n_Outside_Unlike : PySem.W.kitOne K (.ref C3) (.ref C4) = some false)
    (mk_MOST_WEIGHT : PySem.W.nsIn K mainGlobals "MOST_WEIGHT" = some (some (.int 1000000 t_MOST_WEIGHT)))
    (mk_NOUGHT : PySem.W.nsIn K mainGlobals "NOUGHT" = some (some (.ref N_NOUGHT)))
    (lk_NOUGHT : K.lookup N_NOUGHT = some ⟨.type "tuple", none, .seq #[.int 0 t_NOUGHT_0, .int 1 t_NOUGHT_1] n_NOUGHT, sl_NOUGHT⟩)
    (mk_WAYS : PySem.W.nsIn K mainGlobals "WAYS" = some (some (.ref N_WAYS)))
    (lk_WAYS : K.lookup N_WAYS = some ⟨.type "tuple", none, .seq #[.str "row" t_WAYS_0, .str "back" t_WAYS_1, .str "even" t_WAYS_2, .str "lack" t_WAYS_3, .str "part" t_WAYS_4, .str "half" t_WAYS_5] n_WAYS, sl_WAYS⟩)
    (mk_WEIGHED : PySem.W.nsIn K mainGlobals "WEIGHED" = some (some (.ref N_WEIGHED)))
    (lk_WEIGHED : K.lookup N_WEIGHED = some ⟨.type "tuple", none, .seq #[.str "even" t_WEIGHED_0, .str "lack" t_WEIGHED_1] n_WEIGHED, sl_WEIGHED⟩)
    (z_ValueError : PySem.W.nsIn K mainGlobals "ValueError" = some none)
    (z_abs : PySem.W.nsIn K mainGlobals "abs" = some none)
    (z_enumerate : PySem.W.nsIn K mainGlobals "enumerate" = some none)
    (z_int : PySem.W.nsIn K mainGlobals "int" = some none)
    (z_isinstance : PySem.W.nsIn K mainGlobals "isinstance" = some none)
    (z_len : PySem.W.nsIn K mainGlobals "len" = some none)
    (z_list : PySem.W.nsIn K mainGlobals "list" = some none)
    (z_max : PySem.W.nsIn K mainGlobals "max" = some none)
    (z_min : PySem.W.nsIn K mainGlobals "min" = some none)
    (z_range : PySem.W.nsIn K mainGlobals "range" = some none)
    (z_reversed : PySem.W.nsIn K mainGlobals "reversed" = some none)
    (z_sum : PySem.W.nsIn K mainGlobals "sum" = some none)
    (z_tuple : PySem.W.nsIn K mainGlobals "tuple" = some none)
    (z_zip : PySem.W.nsIn K mainGlobals "zip" = some none) :
    ∃ fd : FuncData, (∀ (s : Shared) (v : Value), BindsTo s fd ⟨[v], []⟩ [("script", v)]) ∧ ∀ base : Heap, K.In base → base.Ns mainGlobals mg → base.NoSeer → FnOk l.prog w K mg base CX0 47 fa fd ["script"] (spc K cLaw) := by
  have e := hfa.symm.trans (PySem.W.mg_of X G a24)
  cases e
  have F0 := fun_mk (st := s__law_cell_at) l0 c0 k0
  have b0 := F0.binds (ps := ["script", "k"]) fun _ _ _ _ _ _ us hl => match us, hl with | [_, _], _ => rfl
  have F1 := fun_mk (st := s__law_fraction) l1 c1 k1
  have b1 := F1.binds (ps := ["top", "bottom"]) fun _ _ _ _ _ _ us hl => match us, hl with | [_, _], _ => rfl
  have F2 := fun_mk (st := s__law_way) l2 c2 k2
  have b2 := F2.binds (ps := ["cell"]) fun _ _ _ _ _ _ us hl => match us, hl with | [_], _ => rfl
  have F3 := fun_mk (st := s__law_claims) l3 c3 k3
  have b3 := F3.binds (ps := ["script", "cell"]) fun _ _ _ _ _ _ us hl => match us, hl with | [_, _], _ => rfl
  have F4 := fun_mk (st := s__law_weights) l4 c4 k4
  have b4 := F4.binds (ps := ["script", "cell", "way", "many"]) fun _ _ _ _ _ _ us hl => match us, hl with | [_, _, _, _], _ => rfl
  have F5 := fun_mk (st := s__law_due) l5 c5 k5
  have b5 := F5.binds (ps := ["way", "weights", "claims"]) fun _ _ _ _ _ _ us hl => match us, hl with | [_, _, _], _ => rfl
  have F6 := fun_mk (st := s_weights_fit) l6 c6 k6
  have b6 := F6.binds (ps := ["way", "weights", "many"]) fun _ _ _ _ _ _ us hl => match us, hl with | [_, _, _], _ => rfl
  have F7 := fun_mk (st := s_looked) l7 c7 k7
  have b7 := F7.binds (ps := ["way", "weights", "claims"]) fun _ _ _ _ _ _ us hl => match us, hl with | [_, _, _], _ => rfl
  have F8 := fun_mk (st := s_common_divisor) l8 c8 k8
  have b8 := F8.binds (ps := ["one", "other"]) fun _ _ _ _ _ _ us hl => match us, hl with | [_, _], _ => rfl
  have F9 := fun_mk (st := s_made) l9 c9 k9
  have b9 := F9.binds (ps := ["top", "bottom"]) fun _ _ _ _ _ _ us hl => match us, hl with | [_, _], _ => rfl
  have F10 := fun_mk (st := s_less) l10 c10 k10
  have b10 := F10.binds (ps := ["one", "two"]) fun _ _ _ _ _ _ us hl => match us, hl with | [_, _], _ => rfl
  have F11 := fun_mk (st := s_minus) l11 c11 k11
  have b11 := F11.binds (ps := ["one", "two"]) fun _ _ _ _ _ _ us hl => match us, hl with | [_, _], _ => rfl
  have F12 := fun_mk (st := s_times) l12 c12 k12
  have b12 := F12.binds (ps := ["one", "two"]) fun _ _ _ _ _ _ us hl => match us, hl with | [_, _], _ => rfl
  have F13 := fun_mk (st := s_by_fullness) l13 c13 k13
  have b13 := F13.binds (ps := ["weights", "claims"]) fun _ _ _ _ _ _ us hl => match us, hl with | [_, _], _ => rfl
  have F14 := fun_mk (st := s_even_dealt) l14 c14 k14
  have b14 := F14.binds (ps := ["weights", "claims", "catch"]) fun _ _ _ _ _ _ us hl => match us, hl with | [_, _, _], _ => rfl
  have F15 := fun_mk (st := s_lacking) l15 c15 k15
  have b15 := F15.binds (ps := ["claims", "shares"]) fun _ _ _ _ _ _ us hl => match us, hl with | [_, _], _ => rfl
  have F16 := fun_mk (st := s_row_dealt) l16 c16 k16
  have b16 := F16.binds (ps := ["claims", "catch"]) fun _ _ _ _ _ _ us hl => match us, hl with | [_, _], _ => rfl
  have F17 := fun_mk (st := s_part_dealt) l17 c17 k17
  have b17 := F17.binds (ps := ["claims", "catch"]) fun _ _ _ _ _ _ us hl => match us, hl with | [_, _], _ => rfl
  have F18 := fun_mk (st := s_plus) l18 c18 k18
  have b18 := F18.binds (ps := ["one", "two"]) fun _ _ _ _ _ _ us hl => match us, hl with | [_, _], _ => rfl
  have F19 := fun_mk (st := s_half_dealt) l19 c19 k19
  have b19 := F19.binds (ps := ["claims", "catch"]) fun _ _ _ _ _ _ us hl => match us, hl with | [_, _], _ => rfl
  have F20 := fun_mk (st := s_dealt_by) l20 c20 k20
  have b20 := F20.binds (ps := ["way", "weights", "claims", "catch"]) fun _ _ _ _ _ _ us hl => match us, hl with | [_, _, _, _], _ => rfl
  have F21 := fun_mk (st := s_dealt) l21 c21 k21
  have b21 := F21.binds (ps := ["way", "weights", "claims", "catch"]) fun _ _ _ _ _ _ us hl => match us, hl with | [_, _, _, _], _ => rfl
  have F22 := fun_mk (st := s_contrary_way) l22 c22 k22
  have b22 := F22.binds (ps := ["way"]) fun _ _ _ _ _ _ us hl => match us, hl with | [_], _ => rfl
  have F23 := fun_mk (st := s__law_refusal) l23 c23 k23
  have b23 := F23.binds (ps := ["ask", "way", "weights", "claims", "catch"]) fun _ _ _ _ _ _ us hl => match us, hl with | [_, _, _, _, _], _ => rfl
  have F24 := fun_mk (st := s_law) l24 c24 k24
  have b24 := F24.binds (ps := ["script"]) fun _ _ _ _ _ _ us hl => match us, hl with | [_], _ => rfl
  have T : Txt K mg (⟨f0, f1, f2, f3, f4, f5, f6, f7, f8, f9, f10, f11, f12, f13, f14, f15, f16, f17, f18, f19, f20, f21, f22, f23, f24, C0, C1, C2, C3, C4, C5, C6, C7, C8, C9, C10, C11, N_NOUGHT, N_WAYS, N_WEIGHED⟩ : Ad) := { f__law_cell_at := ⟨PySem.W.mg_of X G a0, _, F0, b0⟩, f__law_fraction := ⟨PySem.W.mg_of X G a1, _, F1, b1⟩, f__law_way := ⟨PySem.W.mg_of X G a2, _, F2, b2⟩, f__law_claims := ⟨PySem.W.mg_of X G a3, _, F3, b3⟩, f__law_weights := ⟨PySem.W.mg_of X G a4, _, F4, b4⟩, f__law_due := ⟨PySem.W.mg_of X G a5, _, F5, b5⟩, f_weights_fit := ⟨PySem.W.mg_of X G a6, _, F6, b6⟩, f_looked := ⟨PySem.W.mg_of X G a7, _, F7, b7⟩, f_common_divisor := ⟨PySem.W.mg_of X G a8, _, F8, b8⟩, f_made := ⟨PySem.W.mg_of X G a9, _, F9, b9⟩, f_less := ⟨PySem.W.mg_of X G a10, _, F10, b10⟩, f_minus := ⟨PySem.W.mg_of X G a11, _, F11, b11⟩, f_times := ⟨PySem.W.mg_of X G a12, _, F12, b12⟩, f_by_fullness := ⟨PySem.W.mg_of X G a13, _, F13, b13⟩, f_even_dealt := ⟨PySem.W.mg_of X G a14, _, F14, b14⟩, f_lacking := ⟨PySem.W.mg_of X G a15, _, F15, b15⟩, f_row_dealt := ⟨PySem.W.mg_of X G a16, _, F16, b16⟩, f_part_dealt := ⟨PySem.W.mg_of X G a17, _, F17, b17⟩, f_plus := ⟨PySem.W.mg_of X G a18, _, F18, b18⟩, f_half_dealt := ⟨PySem.W.mg_of X G a19, _, F19, b19⟩, f_dealt_by := ⟨PySem.W.mg_of X G a20, _, F20, b20⟩, f_dealt := ⟨PySem.W.mg_of X G a21, _, F21, b21⟩, f_contrary_way := ⟨PySem.W.mg_of X G a22, _, F22, b22⟩, f__law_refusal := ⟨PySem.W.mg_of X G a23, _, F23, b23⟩, f_law := ⟨PySem.W.mg_of X G a24, _, F24, b24⟩, c_CatchError := ⟨PySem.W.mg_of X G aC0, xC0, kC0, bC0, tC0, ⟨hg0, hk0, bC0, hd0, ha0, hn, ht, hm0⟩⟩, c_NoFraction := ⟨PySem.W.mg_of X G aC1, xC1, kC1, bC1, tC1, ⟨hg1, hk1, bC1, hd1, ha1, hn, ht, hm1⟩⟩, c_BadLine := ⟨PySem.W.mg_of X G aC2, xC2, kC2, bC2, tC2, ⟨hg2, hk2, bC2, hd2, ha2, hn, ht, hm2⟩⟩, c_Outside := ⟨PySem.W.mg_of X G aC3, xC3, kC3, bC3, tC3, ⟨hg3, hk3, bC3, hd3, ha3, hn, ht, hm3⟩⟩, c_Unlike := ⟨PySem.W.mg_of X G aC4, xC4, kC4, bC4, tC4, ⟨hg4, hk4, bC4, hd4, ha4, hn, ht, hm4⟩⟩, c_BadWay := ⟨PySem.W.mg_of X G aC5, xC5, kC5, bC5, tC5, ⟨hg5, hk5, bC5, hd5, ha5, hn, ht, hm5⟩⟩, c_BadWeights := ⟨PySem.W.mg_of X G aC6, xC6, kC6, bC6, tC6, ⟨hg6, hk6, bC6, hd6, ha6, hn, ht, hm6⟩⟩, c_BadClaim := ⟨PySem.W.mg_of X G aC7, xC7, kC7, bC7, tC7, ⟨hg7, hk7, bC7, hd7, ha7, hn, ht, hm7⟩⟩, c_TooMany := ⟨PySem.W.mg_of X G aC8, xC8, kC8, bC8, tC8, ⟨hg8, hk8, bC8, hd8, ha8, hn, ht, hm8⟩⟩, c_NoBoat := ⟨PySem.W.mg_of X G aC9, xC9, kC9, bC9, tC9, ⟨hg9, hk9, bC9, hd9, ha9, hn, ht, hm9⟩⟩, c_BadCatch := ⟨PySem.W.mg_of X G aC10, xC10, kC10, bC10, tC10, ⟨hg10, hk10, bC10, hd10, ha10, hn, ht, hm10⟩⟩, c_NoText := ⟨PySem.W.mg_of X G aC11, xC11, kC11, bC11, tC11, ⟨hg11, hk11, bC11, hd11, ha11, hn, ht, hm11⟩⟩, h_BadWay_CatchError := h_BadWay_CatchError, h_BadClaim_CatchError := h_BadClaim_CatchError, h_BadWeights_CatchError := h_BadWeights_CatchError, h_Outside_CatchError := h_Outside_CatchError, y_BadWay_BadWay := y_BadWay_BadWay, n_BadWay_BadClaim := n_BadWay_BadClaim, n_BadWay_BadWeights := n_BadWay_BadWeights, n_BadWay_Outside := n_BadWay_Outside, n_BadClaim_BadWay := n_BadClaim_BadWay, y_BadClaim_BadClaim := y_BadClaim_BadClaim, n_BadClaim_BadWeights := n_BadClaim_BadWeights, n_BadClaim_Outside := n_BadClaim_Outside, n_BadWeights_BadWay := n_BadWeights_BadWay, n_BadWeights_BadClaim := n_BadWeights_BadClaim, y_BadWeights_BadWeights := y_BadWeights_BadWeights, n_BadWeights_Outside := n_BadWeights_Outside, n_Outside_BadWay := n_Outside_BadWay, n_Outside_BadClaim := n_Outside_BadClaim, n_Outside_BadWeights := n_Outside_BadWeights, y_Outside_Outside := y_Outside_Outside, y_BadWay_ValueError := y_BadWay_ValueError, y_BadClaim_ValueError := y_BadClaim_ValueError, y_BadWeights_ValueError := y_BadWeights_ValueError, y_Outside_ValueError := y_Outside_ValueError, n_BadWay_BadCatch := n_BadWay_BadCatch, n_BadWay_BadLine := n_BadWay_BadLine, n_BadWay_NoBoat := n_BadWay_NoBoat, n_BadWay_NoFraction := n_BadWay_NoFraction, n_BadWay_NoText := n_BadWay_NoText, n_BadWay_TooMany := n_BadWay_TooMany, n_BadWay_Unlike := n_BadWay_Unlike, n_BadClaim_BadCatch := n_BadClaim_BadCatch, n_BadClaim_BadLine := n_BadClaim_BadLine, n_BadClaim_NoBoat := n_BadClaim_NoBoat, n_BadClaim_NoFraction := n_BadClaim_NoFraction, n_BadClaim_NoText := n_BadClaim_NoText, n_BadClaim_TooMany := n_BadClaim_TooMany, n_BadClaim_Unlike := n_BadClaim_Unlike, n_BadWeights_BadCatch := n_BadWeights_BadCatch, n_BadWeights_BadLine := n_BadWeights_BadLine, n_BadWeights_NoBoat := n_BadWeights_NoBoat, n_BadWeights_NoFraction := n_BadWeights_NoFraction, n_BadWeights_NoText := n_BadWeights_NoText, n_BadWeights_TooMany := n_BadWeights_TooMany, n_BadWeights_Unlike := n_BadWeights_Unlike, n_Outside_BadCatch := n_Outside_BadCatch, n_Outside_BadLine := n_Outside_BadLine, n_Outside_NoBoat := n_Outside_NoBoat, n_Outside_NoFraction := n_Outside_NoFraction, n_Outside_NoText := n_Outside_NoText, n_Outside_TooMany := n_Outside_TooMany, n_Outside_Unlike := n_Outside_Unlike, m_MOST_WEIGHT := ⟨_, PySem.W.mg_of X G mk_MOST_WEIGHT⟩, m_NOUGHT := PySem.W.mg_of X G mk_NOUGHT, t_NOUGHT := ⟨_, lk_NOUGHT, rfl, rfl⟩, d_NOUGHT := dp_kT (vs := [.int 0, .int 1]) lk_NOUGHT (.cons ⟨_, rfl⟩ (.cons ⟨_, rfl⟩ (.nil))) (fun H => .cons (.int _) (.cons (.int _) (.nil))) (Nat.le_of_ble_eq_true rfl), m_WAYS := PySem.W.mg_of X G mk_WAYS, t_WAYS := ⟨_, lk_WAYS, rfl, rfl⟩, d_WAYS := dp_kT (vs := [.str "row", .str "back", .str "even", .str "lack", .str "part", .str "half"]) lk_WAYS (.cons ⟨_, rfl⟩ (.cons ⟨_, rfl⟩ (.cons ⟨_, rfl⟩ (.cons ⟨_, rfl⟩ (.cons ⟨_, rfl⟩ (.cons ⟨_, rfl⟩ (.nil))))))) (fun H => .cons (.str _) (.cons (.str _) (.cons (.str _) (.cons (.str _) (.cons (.str _) (.cons (.str _) (.nil))))))) (Nat.le_of_ble_eq_true rfl), m_WEIGHED := PySem.W.mg_of X G mk_WEIGHED, t_WEIGHED := ⟨_, lk_WEIGHED, rfl, rfl⟩, d_WEIGHED := dp_kT (vs := [.str "even", .str "lack"]) lk_WEIGHED (.cons ⟨_, rfl⟩ (.cons ⟨_, rfl⟩ (.nil))) (fun H => .cons (.str _) (.cons (.str _) (.nil))) (Nat.le_of_ble_eq_true rfl), z_ValueError := PySem.W.mg_none_of X G z_ValueError, z_abs := PySem.W.mg_none_of X G z_abs, z_enumerate := PySem.W.mg_none_of X G z_enumerate, z_int := PySem.W.mg_none_of X G z_int, z_isinstance := PySem.W.mg_none_of X G z_isinstance, z_len := PySem.W.mg_none_of X G z_len, z_list := PySem.W.mg_none_of X G z_list, z_max := PySem.W.mg_none_of X G z_max, z_min := PySem.W.mg_none_of X G z_min, z_range := PySem.W.mg_none_of X G z_range, z_reversed := PySem.W.mg_none_of X G z_reversed, z_sum := PySem.W.mg_none_of X G z_sum, z_tuple := PySem.W.mg_none_of X G z_tuple, z_zip := PySem.W.mg_none_of X G z_zip }
  refine ⟨PySem.W.fnOf "law" "law" (defArgs s_law) (defBody s_law) (defScope s_law) .none kV24 dc24 pm24 an24 cd24 ct24, fun s v => .of_eq rfl, fun base _ _ hN => ?_⟩
  have fnN__law_cell_at := ok__law_cell_at (P := l.prog) (w := w) (base := base) T hN hT 
  have fn__law_cell_at := fnN__law_cell_at.weak
  have fnN__law_fraction := ok__law_fraction (P := l.prog) (w := w) (base := base) T hN hT 
  have fn__law_fraction := fnN__law_fraction.weak
  have fnN__law_way := ok__law_way (P := l.prog) (w := w) (base := base) T hN hT 
  have fn__law_way := fnN__law_way.weak
  have fnN__law_claims := ok__law_claims (P := l.prog) (w := w) (base := base) T hN hT fnN__law_cell_at
  have fn__law_claims := fnN__law_claims.weak
  have fnN__law_weights := ok__law_weights (P := l.prog) (w := w) (base := base) T hN hT fnN__law_cell_at
  have fn__law_weights := fnN__law_weights.weak
  have fnN__law_due := ok__law_due (P := l.prog) (w := w) (base := base) T hN hT 
  have fn__law_due := fnN__law_due.weak
  have fnN_weights_fit := ok_weights_fit (P := l.prog) (w := w) (base := base) T hN hT 
  have fn_weights_fit := fnN_weights_fit.weak
  have fnN_looked := ok_looked (P := l.prog) (w := w) (base := base) T hN hT fnN_weights_fit
  have fn_looked := fnN_looked.weak
  have fnN_common_divisor := ok_common_divisor (P := l.prog) (w := w) (base := base) T hN hT 
  have fn_common_divisor := fnN_common_divisor.weak
  have fnN_made := ok_made (P := l.prog) (w := w) (base := base) T hN hT fnN_common_divisor
  have fn_made := fnN_made.weak
  have fnN_less := ok_less (P := l.prog) (w := w) (base := base) T hN hT 
  have fn_less := fnN_less.weak
  have fnN_minus := ok_minus (P := l.prog) (w := w) (base := base) T hN hT fnN_made
  have fn_minus := fnN_minus.weak
  have fnN_times := ok_times (P := l.prog) (w := w) (base := base) T hN hT fnN_made
  have fn_times := fnN_times.weak
  have fnN_by_fullness := ok_by_fullness (P := l.prog) (w := w) (base := base) T hN hT 
  have fn_by_fullness := fnN_by_fullness.weak
  have fnN_even_dealt := ok_even_dealt (P := l.prog) (w := w) (base := base) T hN hT fnN_made fnN_by_fullness fnN_less fnN_times fnN_minus
  have fn_even_dealt := fnN_even_dealt.weak
  have fnN_lacking := ok_lacking (P := l.prog) (w := w) (base := base) T hN hT fnN_minus fnN_made
  have fn_lacking := fnN_lacking.weak
  have fnN_row_dealt := ok_row_dealt (P := l.prog) (w := w) (base := base) T hN hT fnN_made fnN_less fnN_minus
  have fn_row_dealt := fnN_row_dealt.weak
  have fnN_part_dealt := ok_part_dealt (P := l.prog) (w := w) (base := base) T hN hT fnN_times fnN_made
  have fn_part_dealt := fnN_part_dealt.weak
  have fnN_plus := ok_plus (P := l.prog) (w := w) (base := base) T hN hT fnN_made
  have fn_plus := fnN_plus.weak
  have fnN_half_dealt := ok_half_dealt (P := l.prog) (w := w) (base := base) T hN hT fnN_plus fnN_made fnN_less fnN_even_dealt fnN_times fnN_minus fnN_lacking
  have fn_half_dealt := fnN_half_dealt.weak
  have fnN_dealt_by := ok_dealt_by (P := l.prog) (w := w) (base := base) T hN hT fnN_row_dealt fnN_even_dealt fnN_minus fnN_made fnN_lacking fnN_part_dealt fnN_half_dealt
  have fn_dealt_by := fnN_dealt_by.weak
  have fnN_dealt := ok_dealt (P := l.prog) (w := w) (base := base) T hN hT fnN_looked fnN_less fnN_made fnN_dealt_by
  have fn_dealt := fnN_dealt.weak
  have fnN_contrary_way := ok_contrary_way (P := l.prog) (w := w) (base := base) T hN hT 
  have fn_contrary_way := fnN_contrary_way.weak
  have fnN__law_refusal := ok__law_refusal (P := l.prog) (w := w) (base := base) T hN hT fnN_looked fnN_dealt fnN_contrary_way
  have fn__law_refusal := fnN__law_refusal.weak
  exact ok_law F24 T hN hT fnN__law_way fnN__law_cell_at fnN__law_claims fnN__law_weights fnN__law_fraction fnN__law_due fnN__law_refusal
theorem walk {l : PySem.W.OpenLaw} {q : Program} {loose : List Str} {XP : (Str → Option Value) → Heap → Prop} {YP : World → Heap → Prop} {d : DefRec} {K : Params → Frag} (hn : l.most = some 63) (hdf : d.params.defaults = []) (hq : importsNone q = true)
    (hY : ∀ (w : World) (h : Heap), YP w h → (K w.params).In h)
    (F : ∀ (w : World) (mg : Str → Option Value) (fa : Addr) (h : Heap), (K w.params).In h → h.Ns mainGlobals mg → mg d.name = some (.ref fa) →
      ∃ fd : FuncData, (∀ (s : Shared) (u : Value), BindsTo s fd ⟨[u], []⟩ [("script", u)]) ∧ ∀ base : Heap, (K w.params).In base → base.Ns mainGlobals mg → base.NoSeer → FnOk l.prog w (K w.params) mg base CX0 47 fa fd ["script"] (spc (K w.params) cLaw)) :
    PySem.W.WalkO q loose XP YP l.row.toRowW d [] (fun f vs => PySem.call f vs) :=
  Pu.walk_ofS (n := 63) (k := 47) (x := "script") (CX := fun _ => CX0) (sp := fun w => spc (K w.params) cLaw) hn (by decide) hdf ⟨rfl, by decide, by decide⟩ hq hY F
    (fun w H a ns hl hb _ hS => ⟨H, [.list (ns.map PyData.int)], kv (.bool true), Same.refl H, .cons (.lst hS (dpa_of_ints ns)) .nil, ⟨ns, rfl, hl, hb, rfl⟩,
      fun e v R' H' h g dv => by cases (show e = _ from h); cases dv; rfl, fun _ _ _ _ _ h => h.elim, fun _ _ _ h => h.elim⟩) fun _ _ _ _ _ z => z
end Law
open PySem PySem.W PyProof.Rows
set_option maxRecDepth 100000 in
set_option maxHeartbeats 0 in
theorem PySem.Challenge.cw_catchhall_k13_what_is_looked_at_holds : PySem.Challenge.rw_catchhall_k13_what_is_looked_at.Holds := by
  w_on; o_law; k_head; (case hw => w_witness2)
  k_fill
  refine Law.walk (l := PySem.Challenge.rw_catchhall_k13_what_is_looked_at) rfl rfl (by decide +kernel) (fun w h Y => PySem.W.kIn_of Y) ?F
  case F =>
    intro w mg fa h KX G hmg
    refine' Law.all_mk KX G hmg rfl ?a0 ?l0 ?c0 ?k0 ?a1 ?l1 ?c1 ?k1 ?a2 ?l2 ?c2 ?k2 ?a3 ?l3 ?c3 ?k3 ?a4 ?l4 ?c4 ?k4 ?a5 ?l5 ?c5 ?k5 ?a6 ?l6 ?c6 ?k6 ?a7 ?l7 ?c7 ?k7 ?a8 ?l8 ?c8 ?k8 ?a9 ?l9 ?c9 ?k9 ?a10 ?l10 ?c10 ?k10 ?a11 ?l11 ?c11 ?k11 ?a12 ?l12 ?c12 ?k12 ?a13 ?l13 ?c13 ?k13 ?a14 ?l14 ?c14 ?k14 ?a15 ?l15 ?c15 ?k15 ?a16 ?l16 ?c16 ?k16 ?a17 ?l17 ?c17 ?k17 ?a18 ?l18 ?c18 ?k18 ?a19 ?l19 ?c19 ?k19 ?a20 ?l20 ?c20 ?k20 ?a21 ?l21 ?c21 ?k21 ?a22 ?l22 ?c22 ?k22 ?a23 ?l23 ?c23 ?k23 ?a24 ?l24 ?c24 ?k24 ?aC0 ?xC0 ?kC0 ?bC0 ?tC0 ?hg0 ?hk0 ?hd0 ?ha0 ?hm0 ?aC1 ?xC1 ?kC1 ?bC1 ?tC1 ?hg1 ?hk1 ?hd1 ?ha1 ?hm1 ?aC2 ?xC2 ?kC2 ?bC2 ?tC2 ?hg2 ?hk2 ?hd2 ?ha2 ?hm2 ?aC3 ?xC3 ?kC3 ?bC3 ?tC3 ?hg3 ?hk3 ?hd3 ?ha3 ?hm3 ?aC4 ?xC4 ?kC4 ?bC4 ?tC4 ?hg4 ?hk4 ?hd4 ?ha4 ?hm4 ?aC5 ?xC5 ?kC5 ?bC5 ?tC5 ?hg5 ?hk5 ?hd5 ?ha5 ?hm5 ?aC6 ?xC6 ?kC6 ?bC6 ?tC6 ?hg6 ?hk6 ?hd6 ?ha6 ?hm6 ?aC7 ?xC7 ?kC7 ?bC7 ?tC7 ?hg7 ?hk7 ?hd7 ?ha7 ?hm7 ?aC8 ?xC8 ?kC8 ?bC8 ?tC8 ?hg8 ?hk8 ?hd8 ?ha8 ?hm8 ?aC9 ?xC9 ?kC9 ?bC9 ?tC9 ?hg9 ?hk9 ?hd9 ?ha9 ?hm9 ?aC10 ?xC10 ?kC10 ?bC10 ?tC10 ?hg10 ?hk10 ?hd10 ?ha10 ?hm10 ?aC11 ?xC11 ?kC11 ?bC11 ?tC11 ?hg11 ?hk11 ?hd11 ?ha11 ?hm11 ?hn ?ht ?h_BadWay_CatchError ?h_BadClaim_CatchError ?h_BadWeights_CatchError ?h_Outside_CatchError ?y_BadWay_BadWay ?n_BadWay_BadClaim ?n_BadWay_BadWeights ?n_BadWay_Outside ?n_BadClaim_BadWay ?y_BadClaim_BadClaim ?n_BadClaim_BadWeights ?n_BadClaim_Outside ?n_BadWeights_BadWay ?n_BadWeights_BadClaim ?y_BadWeights_BadWeights ?n_BadWeights_Outside ?n_Outside_BadWay ?n_Outside_BadClaim ?n_Outside_BadWeights ?y_Outside_Outside ?y_BadWay_ValueError ?y_BadClaim_ValueError ?y_BadWeights_ValueError ?y_Outside_ValueError ?n_BadWay_BadCatch ?n_BadWay_BadLine ?n_BadWay_NoBoat ?n_BadWay_NoFraction ?n_BadWay_NoText ?n_BadWay_TooMany ?n_BadWay_Unlike ?n_BadClaim_BadCatch ?n_BadClaim_BadLine ?n_BadClaim_NoBoat ?n_BadClaim_NoFraction ?n_BadClaim_NoText ?n_BadClaim_TooMany ?n_BadClaim_Unlike ?n_BadWeights_BadCatch ?n_BadWeights_BadLine ?n_BadWeights_NoBoat ?n_BadWeights_NoFraction ?n_BadWeights_NoText ?n_BadWeights_TooMany ?n_BadWeights_Unlike ?n_Outside_BadCatch ?n_Outside_BadLine ?n_Outside_NoBoat ?n_Outside_NoFraction ?n_Outside_NoText ?n_Outside_TooMany ?n_Outside_Unlike ?mk_MOST_WEIGHT ?mk_NOUGHT ?lk_NOUGHT ?mk_WAYS ?lk_WAYS ?mk_WEIGHED ?lk_WEIGHED ?z_ValueError ?z_abs ?z_enumerate ?z_int ?z_isinstance ?z_len ?z_list ?z_max ?z_min ?z_range ?z_reversed ?z_sum ?z_tuple ?z_zip
    (case a0 => k_is)
    (case l0 => k_is)
    (case c0 => k_is)
    (case k0 => k_is)
    (case a1 => k_is)
    (case l1 => k_is)
    (case c1 => k_is)
    (case k1 => k_is)
    (case a2 => k_is)
    (case l2 => k_is)
    (case c2 => k_is)
    (case k2 => k_is)
    (case a3 => k_is)
    (case l3 => k_is)
    (case c3 => k_is)
    (case k3 => k_is)
    (case a4 => k_is)
    (case l4 => k_is)
    (case c4 => k_is)
    (case k4 => k_is)
    (case a5 => k_is)
    (case l5 => k_is)
    (case c5 => k_is)
    (case k5 => k_is)
    (case a6 => k_is)
    (case l6 => k_is)
    (case c6 => k_is)
    (case k6 => k_is)
    (case a7 => k_is)
    (case l7 => k_is)
    (case c7 => k_is)
    (case k7 => k_is)
    (case a8 => k_is)
    (case l8 => k_is)
    (case c8 => k_is)
    (case k8 => k_is)
    (case a9 => k_is)
    (case l9 => k_is)
    (case c9 => k_is)
    (case k9 => k_is)
    (case a10 => k_is)
    (case l10 => k_is)
    (case c10 => k_is)
    (case k10 => k_is)
    (case a11 => k_is)
    (case l11 => k_is)
    (case c11 => k_is)
    (case k11 => k_is)
    (case a12 => k_is)
    (case l12 => k_is)
    (case c12 => k_is)
    (case k12 => k_is)
    (case a13 => k_is)
    (case l13 => k_is)
    (case c13 => k_is)
    (case k13 => k_is)
    (case a14 => k_is)
    (case l14 => k_is)
    (case c14 => k_is)
    (case k14 => k_is)
    (case a15 => k_is)
    (case l15 => k_is)
    (case c15 => k_is)
    (case k15 => k_is)
    (case a16 => k_is)
    (case l16 => k_is)
    (case c16 => k_is)
    (case k16 => k_is)
    (case a17 => k_is)
    (case l17 => k_is)
    (case c17 => k_is)
    (case k17 => k_is)
    (case a18 => k_is)
    (case l18 => k_is)
    (case c18 => k_is)
    (case k18 => k_is)
    (case a19 => k_is)
    (case l19 => k_is)
    (case c19 => k_is)
    (case k19 => k_is)
    (case a20 => k_is)
    (case l20 => k_is)
    (case c20 => k_is)
    (case k20 => k_is)
    (case a21 => k_is)
    (case l21 => k_is)
    (case c21 => k_is)
    (case k21 => k_is)
    (case a22 => k_is)
    (case l22 => k_is)
    (case c22 => k_is)
    (case k22 => k_is)
    (case a23 => k_is)
    (case l23 => k_is)
    (case c23 => k_is)
    (case k23 => k_is)
    (case a24 => k_is)
    (case l24 => k_is)
    (case c24 => k_is)
    (case k24 => k_is)
    (case aC0 => k_is)
    (case xC0 => k_exc)
    (case kC0 => k_is)
    (case bC0 => k_is)
    (case tC0 => k_is)
    (case hg0 => k_is)
    (case hk0 => k_is)
    (case hd0 => k_is)
    (case ha0 => k_is)
    (case hm0 => k_is)
    (case aC1 => k_is)
    (case xC1 => k_exc)
    (case kC1 => k_is)
    (case bC1 => k_is)
    (case tC1 => k_is)
    (case hg1 => k_is)
    (case hk1 => k_is)
    (case hd1 => k_is)
    (case ha1 => k_is)
    (case hm1 => k_is)
    (case aC2 => k_is)
    (case xC2 => k_exc)
    (case kC2 => k_is)
    (case bC2 => k_is)
    (case tC2 => k_is)
    (case hg2 => k_is)
    (case hk2 => k_is)
    (case hd2 => k_is)
    (case ha2 => k_is)
    (case hm2 => k_is)
    (case aC3 => k_is)
    (case xC3 => k_exc)
    (case kC3 => k_is)
    (case bC3 => k_is)
    (case tC3 => k_is)
    (case hg3 => k_is)
    (case hk3 => k_is)
    (case hd3 => k_is)
    (case ha3 => k_is)
    (case hm3 => k_is)
    (case aC4 => k_is)
    (case xC4 => k_exc)
    (case kC4 => k_is)
    (case bC4 => k_is)
    (case tC4 => k_is)
    (case hg4 => k_is)
    (case hk4 => k_is)
    (case hd4 => k_is)
    (case ha4 => k_is)
    (case hm4 => k_is)
    (case aC5 => k_is)
    (case xC5 => k_exc)
    (case kC5 => k_is)
    (case bC5 => k_is)
    (case tC5 => k_is)
    (case hg5 => k_is)
    (case hk5 => k_is)
    (case hd5 => k_is)
    (case ha5 => k_is)
    (case hm5 => k_is)
    (case aC6 => k_is)
    (case xC6 => k_exc)
    (case kC6 => k_is)
    (case bC6 => k_is)
    (case tC6 => k_is)
    (case hg6 => k_is)
    (case hk6 => k_is)
    (case hd6 => k_is)
    (case ha6 => k_is)
    (case hm6 => k_is)
    (case aC7 => k_is)
    (case xC7 => k_exc)
    (case kC7 => k_is)
    (case bC7 => k_is)
    (case tC7 => k_is)
    (case hg7 => k_is)
    (case hk7 => k_is)
    (case hd7 => k_is)
    (case ha7 => k_is)
    (case hm7 => k_is)
    (case aC8 => k_is)
    (case xC8 => k_exc)
    (case kC8 => k_is)
    (case bC8 => k_is)
    (case tC8 => k_is)
    (case hg8 => k_is)
    (case hk8 => k_is)
    (case hd8 => k_is)
    (case ha8 => k_is)
    (case hm8 => k_is)
    (case aC9 => k_is)
    (case xC9 => k_exc)
    (case kC9 => k_is)
    (case bC9 => k_is)
    (case tC9 => k_is)
    (case hg9 => k_is)
    (case hk9 => k_is)
    (case hd9 => k_is)
    (case ha9 => k_is)
    (case hm9 => k_is)
    (case aC10 => k_is)
    (case xC10 => k_exc)
    (case kC10 => k_is)
    (case bC10 => k_is)
    (case tC10 => k_is)
    (case hg10 => k_is)
    (case hk10 => k_is)
    (case hd10 => k_is)
    (case ha10 => k_is)
    (case hm10 => k_is)
    (case aC11 => k_is)
    (case xC11 => k_exc)
    (case kC11 => k_is)
    (case bC11 => k_is)
    (case tC11 => k_is)
    (case hg11 => k_is)
    (case hk11 => k_is)
    (case hd11 => k_is)
    (case ha11 => k_is)
    (case hm11 => k_is)
    (case hn => k_is)
    (case ht => k_is)
    (case h_BadWay_CatchError => first | k_is | rfl | decide +kernel)
    (case h_BadClaim_CatchError => first | k_is | rfl | decide +kernel)
    (case h_BadWeights_CatchError => first | k_is | rfl | decide +kernel)
    (case h_Outside_CatchError => first | k_is | rfl | decide +kernel)
    (case y_BadWay_BadWay => first | k_is | rfl | decide +kernel)
    (case n_BadWay_BadClaim => first | k_is | rfl | decide +kernel)
    (case n_BadWay_BadWeights => first | k_is | rfl | decide +kernel)
    (case n_BadWay_Outside => first | k_is | rfl | decide +kernel)
    (case n_BadClaim_BadWay => first | k_is | rfl | decide +kernel)
    (case y_BadClaim_BadClaim => first | k_is | rfl | decide +kernel)
    (case n_BadClaim_BadWeights => first | k_is | rfl | decide +kernel)
    (case n_BadClaim_Outside => first | k_is | rfl | decide +kernel)
    (case n_BadWeights_BadWay => first | k_is | rfl | decide +kernel)
    (case n_BadWeights_BadClaim => first | k_is | rfl | decide +kernel)
    (case y_BadWeights_BadWeights => first | k_is | rfl | decide +kernel)
    (case n_BadWeights_Outside => first | k_is | rfl | decide +kernel)
    (case n_Outside_BadWay => first | k_is | rfl | decide +kernel)
    (case n_Outside_BadClaim => first | k_is | rfl | decide +kernel)
    (case n_Outside_BadWeights => first | k_is | rfl | decide +kernel)
    (case y_Outside_Outside => first | k_is | rfl | decide +kernel)
    (case y_BadWay_ValueError => first | k_is | rfl | decide +kernel)
    (case y_BadClaim_ValueError => first | k_is | rfl | decide +kernel)
    (case y_BadWeights_ValueError => first | k_is | rfl | decide +kernel)
    (case y_Outside_ValueError => first | k_is | rfl | decide +kernel)
    (case n_BadWay_BadCatch => first | k_is | rfl | decide +kernel)
    (case n_BadWay_BadLine => first | k_is | rfl | decide +kernel)
    (case n_BadWay_NoBoat => first | k_is | rfl | decide +kernel)
    (case n_BadWay_NoFraction => first | k_is | rfl | decide +kernel)
    (case n_BadWay_NoText => first | k_is | rfl | decide +kernel)
    (case n_BadWay_TooMany => first | k_is | rfl | decide +kernel)
    (case n_BadWay_Unlike => first | k_is | rfl | decide +kernel)
    (case n_BadClaim_BadCatch => first | k_is | rfl | decide +kernel)
    (case n_BadClaim_BadLine => first | k_is | rfl | decide +kernel)
    (case n_BadClaim_NoBoat => first | k_is | rfl | decide +kernel)
    (case n_BadClaim_NoFraction => first | k_is | rfl | decide +kernel)
    (case n_BadClaim_NoText => first | k_is | rfl | decide +kernel)
    (case n_BadClaim_TooMany => first | k_is | rfl | decide +kernel)
    (case n_BadClaim_Unlike => first | k_is | rfl | decide +kernel)
    (case n_BadWeights_BadCatch => first | k_is | rfl | decide +kernel)
    (case n_BadWeights_BadLine => first | k_is | rfl | decide +kernel)
    (case n_BadWeights_NoBoat => first | k_is | rfl | decide +kernel)
    (case n_BadWeights_NoFraction => first | k_is | rfl | decide +kernel)
    (case n_BadWeights_NoText => first | k_is | rfl | decide +kernel)
    (case n_BadWeights_TooMany => first | k_is | rfl | decide +kernel)
    (case n_BadWeights_Unlike => first | k_is | rfl | decide +kernel)
    (case n_Outside_BadCatch => first | k_is | rfl | decide +kernel)
    (case n_Outside_BadLine => first | k_is | rfl | decide +kernel)
    (case n_Outside_NoBoat => first | k_is | rfl | decide +kernel)
    (case n_Outside_NoFraction => first | k_is | rfl | decide +kernel)
    (case n_Outside_NoText => first | k_is | rfl | decide +kernel)
    (case n_Outside_TooMany => first | k_is | rfl | decide +kernel)
    (case n_Outside_Unlike => first | k_is | rfl | decide +kernel)
    (case mk_MOST_WEIGHT => k_is)
    (case mk_NOUGHT => k_is)
    (case lk_NOUGHT => k_is)
    (case mk_WAYS => k_is)
    (case lk_WAYS => k_is)
    (case mk_WEIGHED => k_is)
    (case lk_WEIGHED => k_is)
    (case z_ValueError => k_is)
    (case z_abs => k_is)
    (case z_enumerate => k_is)
    (case z_int => k_is)
    (case z_isinstance => k_is)
    (case z_len => k_is)
    (case z_list => k_is)
    (case z_max => k_is)
    (case z_min => k_is)
    (case z_range => k_is)
    (case z_reversed => k_is)
    (case z_sum => k_is)
    (case z_tuple => k_is)
    (case z_zip => k_is)
